/- The runs once more, for the kernel. -/
import Derived.Test.YtppgkemkfdkobaaGreatDoorGA
set_option linter.all false
noncomputable section
namespace Go.A
def YJ(k:IntKind):Nat:=IntKind.rec (motive:=λ_=>Nat) 0 1 2 3 4 5 6 7 k
def kEq(a b:IntKind):Bool:=Nat.beq (YJ a) (YJ b)
def CL(a b:IntKind):kEq a b=decide (a=b):=by cases a<;>cases b<;>rfl
def Nh(m:Nat)(b:Int):Bool:=Int.rec (motive:=λ_=>Bool) (λn=>Nat.beq m n) (λ_=>false) b
def Ng(m:Nat)(b:Int):Bool:=Int.rec (motive:=λ_=>Bool) (λ_=>false) (λn=>Nat.beq m n) b
def iEq(a b:Int):Bool:=Int.rec (motive:=λ_=>Int->Bool) Nh Ng a b
def GV(a b:Int):iEq a b=(a==b):=by
 rw[In];simp only[beq_iff_eq];cases a<;>cases b<;>simp[iEq,Nh,Ng,Nat.beq_eq]<;>omega
def Nj(m:Nat)(b:Int):Bool:=Int.rec (motive:=λ_=>Bool) (λn=>Nat.blt m n) (λ_=>false) b
def Ni(m:Nat)(b:Int):Bool:=Int.rec (motive:=λ_=>Bool) (λ_=>true) (λn=>Nat.blt n m) b
def iLt(a b:Int):Bool:=Int.rec (motive:=λ_=>Int->Bool) Nj Ni a b
def Vg(a b:Int):iLt a b=decide (a<b):=by
 rw[In];simp only[decide_eq_true_eq];cases a<;>cases b<;>simp[iLt,Nj,Ni,G7]<;>omega
def topP(k:IntKind):Nat:=IntKind.rec (motive:=λ_=>Nat) 128 32768 2147483648 9223372036854775808 256 65536 4294967296 18446744073709551616 k
def topN(k:IntKind):Nat:=IntKind.rec (motive:=λ_=>Nat) 128 32768 2147483648 9223372036854775808 0 0 0 0 k
def UI(k:IntKind)(n:Int):Int:=Int.rec (motive:=λ_=>Int) (λm=>bif Nat.blt m (topP k)then .ofNat m else k.wrap (.ofNat m)) (λm=>bif Nat.blt m (topN k)then .negSucc m else k.wrap (.negSucc m)) n
def QO(k:IntKind)(n:Int):UI k n=fU k n:=by cases n<;>cases k<;>rfl
def VB{α:Type}(m:Nat)(f:Nat->α):α:=Nat.rec (motive:=λ_=>α) (f 0) (λn _=>f (Nat.succ n)) m
def Se{α:Type}(m:Nat)(f:Nat->α):VB m f=f m:=by cases m<;>rfl
def Vi{α:Type}(m:Int)(f:Int->α):α:=Int.rec (motive:=λ_=>α) (λn=>VB n λn=>f (.ofNat n)) (λn=>VB n λn=>f (.negSucc n)) m
def RS{α:Type}(m:Int)(f:Int->α):Vi m f=f m:=by cases m<;>simp[Vi,Se]
def mkI(k:IntKind)(n:Int):Option Value:=Vi (UI k n) λn=>some (.int k n)
def L7(k:IntKind)(x y:Int):Option Value:=mkI k (x+y)
def Mi(k:IntKind)(x y:Int):Option Value:=mkI k (x-y)
def Me(k:IntKind)(x y:Int):Option Value:=mkI k (x*y)
def L9(_:IntKind)(x y:Int):Option Value:=some (.bool (iEq x y))
def Mf(_:IntKind)(x y:Int):Option Value:=some (.bool (Bool.rec true false (iEq x y)))
def Md(_:IntKind)(x y:Int):Option Value:=some (.bool (iLt x y))
def Mc(_:IntKind)(x y:Int):Option Value:=some (.bool (Bool.rec true false (iLt y x)))
def Mb(_:IntKind)(x y:Int):Option Value:=some (.bool (iLt y x))
def Ma(_:IntKind)(x y:Int):Option Value:=some (.bool (Bool.rec true false (iLt x y)))
def Mg(k:IntKind)(x y:Int):Option Value:=arith .quo k x y
def Mh(k:IntKind)(x y:Int):Option Value:=arith .rem k x y
def L8(k:IntKind)(x y:Int):Option Value:=arith .and k x y
def Us(k:IntKind)(x y:Int):Option Value:=arith .or k x y
def Mj(k:IntKind)(x y:Int):Option Value:=arith .xor k x y
def Bd(k:IntKind)(x y:Int):Option Value:=arith .andNot k x y
def N2(k:IntKind)(x:Int)(k':IntKind)(y:Int):Option Value:=Bool.rec none (L7 k x y) (kEq k k')
def Og(k:IntKind)(x:Int)(k':IntKind)(y:Int):Option Value:=Bool.rec none (Mi k x y) (kEq k k')
def N9(k:IntKind)(x:Int)(k':IntKind)(y:Int):Option Value:=Bool.rec none (Me k x y) (kEq k k')
def Oc(k:IntKind)(x:Int)(k':IntKind)(y:Int):Option Value:=Bool.rec none (Mg k x y) (kEq k k')
def Od(k:IntKind)(x:Int)(k':IntKind)(y:Int):Option Value:=Bool.rec none (Mh k x y) (kEq k k')
def N3(k:IntKind)(x:Int)(k':IntKind)(y:Int):Option Value:=Bool.rec none (L8 k x y) (kEq k k')
def VA(k:IntKind)(x:Int)(k':IntKind)(y:Int):Option Value:=Bool.rec none (Us k x y) (kEq k k')
def Oh(k:IntKind)(x:Int)(k':IntKind)(y:Int):Option Value:=Bool.rec none (Mj k x y) (kEq k k')
def Oe(k:IntKind)(x:Int)(_:IntKind)(y:Int):Option Value:=qX .shl k x y
def Of(k:IntKind)(x:Int)(_:IntKind)(y:Int):Option Value:=qX .shr k x y
def zM(k:IntKind)(x:Int)(k':IntKind)(y:Int):Option Value:=Bool.rec none (Bd k x y) (kEq k k')
def N4(k:IntKind)(x:Int)(k':IntKind)(y:Int):Option Value:=Bool.rec none (L9 k x y) (kEq k k')
def Oa(k:IntKind)(x:Int)(k':IntKind)(y:Int):Option Value:=Bool.rec none (Mf k x y) (kEq k k')
def N8(k:IntKind)(x:Int)(k':IntKind)(y:Int):Option Value:=Bool.rec none (Md k x y) (kEq k k')
def N7(k:IntKind)(x:Int)(k':IntKind)(y:Int):Option Value:=Bool.rec none (Mc k x y) (kEq k k')
def N6(k:IntKind)(x:Int)(k':IntKind)(y:Int):Option Value:=Bool.rec none (Mb k x y) (kEq k k')
def N5(k:IntKind)(x:Int)(k':IntKind)(y:Int):Option Value:=Bool.rec none (Ma k x y) (kEq k k')
def On(op:BinOp):IntKind->Int->IntKind->Int->Option Value:=BinOp.rec (motive:=λ_=>IntKind->Int->IntKind->Int->Option Value) N2 Og N9 Oc Od N3 VA Oh Oe Of zM N4 Oa N8 N7 N6 N5 op
def VC(op:BinOp)(x y:Value):Option Value:=
 match x with
 | .int k a=>match y with
   | .int k' b=>On op k a k' b
   |_=>none
 | .string a=>match y with
   | .string b=>Gi op a b
   |_=>none
 |_=>none
def Mo{α:Type}(x y:α)(b:Bool):(Bool.rec x y b:α)=bif b then y else x:=by cases b<;>rfl
def Vx(k:IntKind)(n:Int):mkI k n=some (.int k (fU k n)):=by simp[mkI,RS,QO]
def bX:VC=af:=by
 funext op x y;unfold VC;split
 ·rename_i k a;split
  ·rename_i k' b;by_cases hk:k=k'
   ·subst hk;cases op<;>simp[On,af,N2,Og,N9,Oc,Od,N3,VA,Oh,Oe,Of,zM,N4,Oa,N8,N7,N6,N5,L7,Mi,Me,Mg,Mh,L8,Us,Mj,Bd,L9,Mf,Md,Mc,Mb,Ma,CL,Mo,Vx,arith,oO,GV,Vg]
    all_goals first
     |(simp[bne];done)
     |(rw[In];simp;done)
     |(rw[In];simp;omega)
   ·cases op<;>simp[On,af,N2,Og,N9,Oc,Od,N3,VA,Oh,Oe,Of,zM,N4,Oa,N8,N7,N6,N5,CL,Mo,hk]
  ·rename_i hy;cases op<;>cases y<;>first|rfl|exact(hy _ _ rfl).elim
 ·split
  ·cases op<;>rfl
  ·rename_i hy;cases op<;>cases y<;>first|rfl|exact(hy _ rfl).elim
 ·rename_i h1 h2;cases op<;>cases x<;>first|rfl|exact(h1 _ _ rfl).elim|exact(h2 _ rfl).elim
def abj(_:Nat):Option Value:=none
def abi(p:Nat×Value)(_:Env)(ih:Nat->Option Value)(t:Nat):Option Value:=Bool.rec (ih t) (some p.2) (Nat.beq p.1 t)
def geQ(e:Env)(t:Nat):Option Value:=List.rec (motive:=λ_=>Nat->Option Value) abj abi e t
def lM:geQ=geT:=by
 funext e t;induction e with
 |nil=>rfl
 |cons p e ih=>
  obtain⟨k,v⟩:=p;show(Bool.rec (geQ e t) (some v) (Nat.beq k t):Option Value)=_;rw[Mo,ih];rfl
def YL(t:Nat)(l:Env)(v:Value):Env:=(t,v)::l
def abq(_:Env):Env:=[]
def abp(t:Nat)(_:List Nat)(ih:Env->Env)(e:Env):Env:=Option.rec (motive:=λ_=>Env) (ih e) (YL t (ih e)) (geQ e t)
def mC(e:Env)(l:List Nat):Env:=List.rec (motive:=λ_=>Env->Env) abq abp l e
def kL:mC=cZ:=by
 funext e l;induction l with
 |nil=>rfl
 |cons t l ih=>
  show(Option.rec (mC e l) (YL t (mC e l)) (geQ e t):Env)=_;rw[lM,ih];simp only[cZ];cases geT e t<;>rfl
def abl(_:Nat):Option bT:=none
def abk(p:Nat×bT)(_:List (Nat×bT))(ih:Nat->Option bT)(t:Nat):Option bT:=Bool.rec (ih t) (some p.2) (Nat.beq p.1 t)
def goQ(e:List (Nat×bT))(t:Nat):Option bT:=List.rec (motive:=λ_=>Nat->Option bT) abl abk e t
def Vd:goQ=fT:=by
 funext e t;induction e with
 |nil=>rfl
 |cons p e ih=>
  obtain⟨k,v⟩:=p;show(Bool.rec (goQ e t) (some v) (Nat.beq k t):Option bT)=_;rw[Mo,ih];rfl
def oQ(h:Heap)(b:Nat):Option bT:=goQ h.cU b
def bK:oQ=Heap.get:=by funext h b;simp[oQ,Heap.get,Vd]
def abA(_:Nat)(_:bT):List (Nat×bT):=[]
def abz(p:Nat×bT)(l:List (Nat×bT))(ih:Nat->bT->List (Nat×bT))(t:Nat)(o:bT):List (Nat×bT):=Bool.rec (p::ih t o) ((p.1,o)::l) (Nat.beq p.1 t)
def soQ(e:List (Nat×bT))(t:Nat)(o:bT):List (Nat×bT):=List.rec (motive:=λ_=>Nat->bT->List (Nat×bT)) abA abz e t o
def oW:soQ=jI:=by
 funext e t o;induction e with
 |nil=>rfl
 |cons p e ih=>
  obtain⟨k,v⟩:=p;show(Bool.rec ((k,v)::soQ e t o) ((k,o)::e) (Nat.beq k t):List (Nat×bT))=_;rw[Mo,ih];rfl
def wrQ(h:Heap)(base b:Nat)(o:bT):Heap:={h with cU:=soQ h.cU b o,log:=bif Nat.blt b base then(bif gL h.log b then h.log else b::h.log)else h.log}
def cH:wrQ=Heap.wr:=by funext h base b o;simp[wrQ,Heap.wr,oW]
def evQ(h:Heap)(e:Env)(x:Operand):Option Value:=Operand.rec (motive:=λ_=>Env->Heap->Option Value) (λt e _=>geQ e t) (λv _ _=>some v) (λg _ h=>ev h [] (.global g)) (λf _ _=>some (.func (.func f) #[] #[])) x e h
def cB:evQ=ev:=by
 funext h e x;cases x<;>first|rfl|(show geQ e _=_;rw[lM];rfl)
def EU(h:Heap)(e:Env):List Operand->Option (List Value)
 |[]=>some []
 |x::xs=>match evQ h e x with
  |some v=>match EU h e xs with
   |some vs=>some (v::vs)
   |none=>none
  |none=>none
def bJ:EU=evs:=by
 funext h e l;induction l with
 |nil=>rfl
 |cons x l ih=>(simp only[EU,evs,cB,ih];rfl)
def EV(h:Heap)(e:Env)(z:List Value):List (Nat×Nat×Operand)->Option (List Value)
 |[]=>some z
 |(off,size,x)::ps=>match evQ h e x with
  |some v=>bif Nat.beq (bS (cellsOf v)) size&&Nat.ble (off+size) (bS z)then EV h e (dP z off (cellsOf v)) ps else none
  |none=>none
def bC:EV=jO:=by
 funext h e z l;induction l generalizing z with
 |nil=>rfl
 |cons p l ih=>obtain⟨a,b,x⟩:=p;(simp only[EV,jO,cB,ih];rfl)
def vN(e:Env)(g:Option (Nat×Bool)):Option Bool:=
 match g with
 |none=>some true
 |some (t,b)=>match geQ e t with
  |some (.bool x)=>some (x==b)
  |some _=>some false
  |none=>none
def iL:vN=cg:=by
 funext e g;cases g with
 |none=>rfl
 |some p=>obtain⟨t,b⟩:=p;(simp only[vN,cg,lM];rfl)
def Pw(h:Heap)(e:Env):List (Nat×Option (Option Nat))->Option (List Value)
 |[]=>some []
 |(t,none)::rs=>match geQ e t with
  |some v=>match Pw h e rs with
   |some vs=>some (v::vs)
   |none=>none
  |none=>none
 |(t,some n)::rs=>match geQ e t with
  |some a=>match sw h n a with
   |some v=>match Pw h e rs with
    |some vs=>some (v::vs)
    |none=>none
   |none=>none
  |none=>none
def mX:Pw=cI:=by
 funext h e l;induction l with
 |nil=>rfl
 |cons p l ih=>
  obtain⟨t,n⟩:=p;cases n<;>(simp only[Pw,cI,lM,ih];rfl)
def NB(l:eS)(x y:Value):Option Bool:=
 match l with
 | .i q=>match x with
   | .int k a=>match y with
     | .int k' b=>bif kEq k q&&kEq k' q then some (iEq a b)else none
     |_=>none
   |_=>none
 |l=>jG l x y
def NC:NB=jG:=by
 funext l x y;unfold NB;split
 ·rename_i q;split
  ·rename_i k a;split
   ·rename_i k' b;simp only[jG,CL,GV,cond_eq_ite,gk,decide_eq_true_eq];by_cases h1:k=q<;>by_cases h2:k'=q<;>simp[h1,h2]
   ·rename_i hy;cases y<;>first|rfl|exact(hy _ _ rfl).elim
  ·rename_i hx;cases x<;>first|rfl|exact(hx _ _ rfl).elim
 ·rfl
def qy:List eS->List Value->List Value->Option Bool
 |[],[],[]=>some true
 |l::ls,x::xs,y::ys=>match NB l x y with
  |some true=>qy ls xs ys
  |some false=>match qy ls xs ys with
   |some _=>some false
   |none=>none
  |none=>none
 |_,_,_=>none
def aR:qy=bU:=by
 funext ls;induction ls with
 |nil=>funext xs ys;cases xs<;>cases ys<;>rfl
 |cons l ls ih=>
  funext xs ys;cases xs<;>cases ys<;>first|rfl|(simp only[qy,bU,NC,ih];rfl)
def uk(ag:Bool)(ls:List eS)(k:Value):Bool:=
 match uj k==ag,qy ls (cellsOf k) (cellsOf k)with
 |true,some _=>true
 |_,_=>false
def aX:uk=lD:=by funext ag ls k;(simp only[uk,lD,aR];rfl)
def G0(ag:Bool)(ls:List eS)(k k':Value):Option Bool:=
 match uj k'==ag with
 |true=>qy ls (cellsOf k) (cellsOf k')
 |false=>none
def Kh:G0=sj:=by funext ag ls k k';(simp only[G0,sj,aR];rfl)
def Bs(ag:Bool)(ls:List eS)(k:Value):Nat->List (Value×Value)->Option (Option (Nat×Value))
 |_,[]=>some none
 |i,(k',v)::es=>match G0 ag ls k k' with
  |some true=>some (some (i,v))
  |some false=>Bs ag ls k (i+1) es
  |none=>none
def bD:Bs=rE:=by
 funext ag ls k i es;induction es generalizing i with
 |nil=>rfl
 |cons p es ih=>obtain⟨a,b⟩:=p;(simp only[Bs,rE,Kh,ih];rfl)
def DK(x y:Value):Bool:=
 match x with
 | .int k a=>match y with
   | .int k' b=>kEq k k'&&iEq a b
   |_=>false
 |x=>kU x y
def BS:DK=kU:=by
 funext x y;unfold DK;split
 ·rename_i k a;split
  ·rename_i k' b;simp only[kU,CL,GV];by_cases h:k=k'<;>simp[h]
  ·rename_i hy;cases y<;>first|rfl|exact(hy _ _ rfl).elim
 ·rfl
def NJ(h:Heap)(n:Option Nat):Value->Option Value
 | .pointer (some ⟨b,o,none⟩)=>match oQ h b with
   |some (.cells vs _ _)=>match n with
    |none=>bN vs o
    |some n=>let l:=cm n (bQ o vs);bif Nat.beq (bS l) n then some (.agg l.toArray)else none
   |_=>none
 |_=>none
def Ia(h:Heap)(base n:Nat)(v:Value):Value->Option Heap
 | .pointer (some ⟨b,o,none⟩)=>match oQ h b with
   |some (.cells vs true sz)=>bif Nat.beq (bS (cellsOf v)) n&&Nat.ble (o+n) (bS vs)&&eN (cellsOf v)then some (wrQ h base b (.cells (dP vs o (cellsOf v)) true sz))else none
   |_=>none
 |_=>none
def GK(h:Heap)(e:Env)(dflt:Nat):Option Operand->Option Nat
 |none=>some dflt
 |some x=>match evQ h e x with
  |some v=>rF v
  |none=>none
def DO(h:Heap)(e:Env)(size:Nat)(a:Option Addr)(len cap:Nat)(lo hi mx:Option Operand):Option (Value×Heap):=
 match GK h e 0 lo,GK h e len hi with
 |some l,some u=>
  match mx with
  |some _=>match GK h e 0 mx with
   |some m=>bif Nat.ble l u&&Nat.ble u m&&Nat.ble m (bif Nat.beq cap UNK then len else cap)&&Nat.blt m UNK then
    some (.slice (bif Nat.beq m l then a else match a with|some ⟨b,o,none⟩=>some ⟨b,o+l*size,none⟩|a=>a) (u-l) (m-l),h)
    else none
   |none=>none
  |none=>
   bif Nat.beq cap UNK then
    match a with
    |some ⟨b,o,none⟩=>match oQ h b with
     |some (.cells vs _ sz)=>
      bif Nat.beq sz size&&Nat.ble l u&&(Nat.ble u len||Nat.ble (o+u*size) (bS vs))then
       bif Nat.blt l len||Nat.blt l u then some (.slice (some ⟨b,o+l*size,none⟩) (u-l) UNK,h)
       else bif Nat.beq l 0 then some (.slice (some ⟨b,o,none⟩) 0 UNK,h)
       else some (.slice (some ⟨h.next,0,none⟩) 0 UNK,h.push (.cells [] false size))
      else none
     |_=>none
    |_=>none
   else bif Nat.ble l u&&Nat.ble u cap then
    some (.slice (bif Nat.beq cap l then a else match a with|some ⟨b,o,none⟩=>some ⟨b,o+l*size,none⟩|a=>a) (u-l) (cap-l),h)
    else none
 |_,_=>none
def Tv(h:Heap)(size:Nat):Value->Option (List Value×Nat)
 | .slice none n _=>bif Nat.beq n 0 then some ([],0)else none
 | .slice (some ⟨b,o,none⟩) n _=>match oQ h b with
   |some (.cells vs _ _)=>let l:=cm (n*size) (bQ o vs);bif Nat.beq (bS l) (n*size)then some (l,n)else none
   |_=>none
 | .slice (some ⟨_,_,some _⟩) n _=>bif Nat.beq n 0 then some ([],0)else none
 | .string s=>bif Nat.beq size 1 then some (s.data.toList.map λb=> .int .u8 b.toNat,s.size)else none
 |_=>none
def xS(h:Heap)(base size bytes:Nat)(s:Value)(new:List Value)(n:Nat):Option (Value×Heap):=
 match s with
 | .slice a len cap=>
   bif Nat.beq n 0 then(bif Nat.ble len cap then some (s,h)else none)else
   bif Nat.ble ((2*(len+n)+768)*bytes) 281474976710656 then
    match a with
    |none=>bif Nat.beq len 0&&Nat.beq cap 0 then some (.slice (some ⟨h.next,0,none⟩) n UNK,h.push (.cells new true size))else none
    |some ⟨b,o,none⟩=>match oQ h b with
     |some (.cells vs own sz)=>
      bif Nat.beq cap UNK then
       bif own&&Nat.beq sz size then
        bif Nat.ble (o+(len+n)*size) (bS vs)&&eN new then
         some (.slice (some ⟨b,o,none⟩) (len+n) UNK,wrQ h base b (.cells (dP vs (o+len*size) new) true sz))
        else bif Nat.beq o 0&&Nat.beq (len*size) (bS vs)&&eN new then
         some (.slice (some ⟨h.next,0,none⟩) (len+n) UNK,(wrQ h base b .dead).push (.cells (eL vs new) true size))
        else none
       else none
      else bif Nat.ble (len+n) cap then
       bif own&&Nat.ble (o+(len+n)*size) (bS vs)&&eN new then
        some (.slice (some ⟨b,o,none⟩) (len+n) cap,wrQ h base b (.cells (dP vs (o+len*size) new) true sz))
       else none
      else bif Nat.ble (o+len*size) (bS vs)then
       some (.slice (some ⟨h.next,0,none⟩) (len+n) UNK,h.push (.cells (eL (cm (len*size) (bQ o vs)) new) true size))
      else none
     |_=>none
    |_=>none
   else none
 |_=>none
def bk:NJ=sw:=by
 funext h n v;unfold NJ sw;simp only[cB,bJ,bC,bX,bD,aX,aR,bK,cH];rfl
def bt:Ia=uG:=by
 funext h base n v x;unfold Ia uG;simp only[cB,bJ,bC,bX,bD,aX,aR,bK,cH];rfl
def cO:GK=bnd:=by
 funext h e d x;unfold GK bnd;simp only[cB,bJ,bC,bX,bD,aX,aR,bK,cH];rfl
def br:DO=hM:=by
 funext h e size a len cap lo hi mx;unfold DO hM;simp only[cB,bJ,bC,bX,bD,aX,aR,bK,cH,cO];rfl
def cV:Tv=dg:=by
 funext h size v;unfold Tv dg;simp only[cB,bJ,bC,bX,bD,aX,aR,bK,cH];rfl
def aV:xS=jV:=by
 funext h base size bytes s new n;unfold xS jV;simp only[cB,bJ,bC,bX,bD,aX,aR,bK,cH];rfl
def O8(h:Heap)(base:Nat)(e:Env)(x:Operand):Option dI:=dD (evQ h e x) λv=>some (.val v h)
def HM(h:Heap)(base:Nat)(e:Env)(c:Operand)(a:Operand)(b:Operand):Option dI:=match evQ h e c with
 |some (.bool true)=>dD (evQ h e a) λv=>some (.val v h)
 |some (.bool false)=>dD (evQ h e b) λv=>some (.val v h)
 |_=>none
def O9(h:Heap)(base:Nat)(e:Env)(z:List Value):Option dI:=some (.val (.pointer (some ⟨h.next,0,none⟩)) (h.push (.cells z true 1)))
def O6(h:Heap)(base:Nat)(e:Env)(x:Operand):Option dI:=dD (evQ h e x) λv=>some (.val (.pointer (some ⟨h.next,0,none⟩)) (h.push (.cells (cellsOf v) true 1)))
def Dr(h:Heap)(base:Nat)(e:Env)(z:List Value)(ps:List (Nat×Nat×Operand)):Option dI:=match EV h e z ps with
 |some cs=>some (.val (.agg cs.toArray) h)
 |none=>none
def Ag(h:Heap)(base:Nat)(e:Env)(z:List Value)(n:Nat)(ps:List (Nat×Nat×Operand)):Option dI:=match EV h e (eR n z) ps with
 |some cs=>some (.val (.slice (some ⟨h.next,0,none⟩) n n) (h.push (.cells cs true (bS z))))
 |none=>none
def HK(h:Heap)(base:Nat)(e:Env)(n:Option Nat)(a:Operand):Option dI:=dD (evQ h e a) λa=>dD (NJ h n a) λv=>some (.val v h)
def DD(h:Heap)(base:Nat)(e:Env)(n:Nat)(a:Operand)(v:Operand):Option dI:=dD (evQ h e a) λa=>dD (evQ h e v) λv=>match Ia h base n v a with
 |some h'=>some (.val (.tuple #[]) h')
 |none=>none
def Aq(h:Heap)(base:Nat)(e:Env)(x:Operand):Option dI:=dD (evQ h e x) λv=>match v with
 | .pointer none| .nilIface| .nilFunc=>none
 | .func (.method _) _ _=>none
 |v=>some (.val v h)
def O5(h:Heap)(base:Nat)(e:Env):Gw->Operand->Operand->Option dI
 |(.num op),x,y=>dD (evQ h e x) λx=>dD (evQ h e y) λy=>dD (VC op x y) λv=>some (.val v h)
 |(.beq neq),x,y=>match evQ h e x,evQ h e y with
  |some (.bool a),some (.bool b)=>some (.val (.bool (bif neq then !(a==b)else a==b)) h)
  |_,_=>none
 |(.nil k neq),x,y=>dD (evQ h e x) λx=>dD (evQ h e y) λy=>match sG k x y with
  |some b=>some (.val (.bool (bif neq then !b else b)) h)
  |none=>none
 |(.agg neq ls),x,y=>dD (evQ h e x) λx=>dD (evQ h e y) λy=>match x,y with
  | .agg xs, .agg ys=>match qy ls xs.toList ys.toList with
    |some b=>some (.val (.bool (bif neq then !b else b)) h)
    |none=>none
  |_,_=>none
def V5(h:Heap)(base:Nat)(e:Env)(op:UnOp)(x:Operand):Option dI:=dD (evQ h e x) λx=>dD (vH op x) λv=>some (.val v h)
def HE(h:Heap)(base:Nat)(e:Env)(c:Cv)(x:Operand):Option dI:=dD (evQ h e x) λx=>fW (y5 h c x)
def wF(h:Heap)(base:Nat)(e:Env)(t:TypeId)(x:Operand):Option dI:=dD (evQ h e x) λv=>some (.val (.iface t v) h)
def Ap(h:Heap)(base:Nat)(e:Env)(fn:Fn)(fs:List Operand)(cs:List Operand):Option dI:=match EU h e fs,EU h e cs with
 |some fs,some cs=>some (.val (.func fn fs.toArray cs.toArray) h)
 |_,_=>none
def DA(h:Heap)(base:Nat)(e:Env):Option dI:=some (.val (.map (some h.next)) (h.push (.map [])))
def wG(h:Heap)(base:Nat)(e:Env)(z:List Value)(bytes:Nat)(l:Operand)(c:Operand):Option dI:=match evQ h e l,evQ h e c with
 |some l,some c=>match rF l,rF c with
  |some l,some c=>bif Nat.ble l c&&Nat.ble (bytes*c) 281474976710656&&Nat.blt c UNK then
   some (.val (.slice (some ⟨h.next,0,none⟩) l c) (h.push (.cells (eR c z) true (bS z))))
   else none
  |_,_=>none
 |_,_=>none
def DC(h:Heap)(base:Nat)(e:Env):ASl->Operand->Option Operand->Option Operand->Option Operand->Option dI
 | .str,x,lo,hi,none=>match evQ h e x with
   |some (.string s)=>match GK h e 0 lo,GK h e s.size hi with
    |some l,some u=>bif Nat.ble l u&&Nat.ble u s.size then some (.val (.string (s.extract l u)) h)else none
    |_,_=>none
   |_=>none
 |(.sl size),x,lo,hi,mx=>match evQ h e x with
  |some (.slice a len cap)=>fW (DO h e size a len cap lo hi mx)
  |_=>none
 |(.arr n size),x,lo,hi,mx=>match evQ h e x with
  |some (.pointer (some a))=>fW (DO h e size (some a) n n lo hi mx)
  |_=>none
 | .str,_,_,_,(some _)=>none
def Du(h:Heap)(base:Nat)(e:Env)(off:Nat)(x:Operand):Option dI:=match evQ h e x with
 |some (.pointer (some ⟨b,o,none⟩))=>some (.val (.pointer (some ⟨b,o+off,none⟩)) h)
 |_=>none
def Dv(h:Heap)(base:Nat)(e:Env)(off:Nat)(n:Option Nat)(x:Operand):Option dI:=match evQ h e x with
 |some (.agg cs)=>match n with
  |none=>dD (bN cs.toList off) λv=>some (.val v h)
  |some n=>let l:=cm n (bQ off cs.toList);bif Nat.beq (bS l) n then some (.val (.agg l.toArray) h)else none
 |_=>none
def Ai(h:Heap)(base:Nat)(e:Env)(len:Nat)(size:Nat)(x:Operand)(i:Operand):Option dI:=match evQ h e x,evQ h e i with
 |some (.pointer (some ⟨b,o,none⟩)),some (.int _ (.ofNat i))=>bif Nat.blt i len then some (.val (.pointer (some ⟨b,o+i*size,none⟩)) h)else none
 |_,_=>none
def Aj(h:Heap)(base:Nat)(e:Env)(size:Nat)(x:Operand)(i:Operand):Option dI:=match evQ h e x,evQ h e i with
 |some (.slice (some ⟨b,o,none⟩) len _),some (.int _ (.ofNat i))=>bif Nat.blt i len then some (.val (.pointer (some ⟨b,o+i*size,none⟩)) h)else none
 |_,_=>none
def HI(h:Heap)(base:Nat)(e:Env)(len:Nat)(size:Nat)(n:Option Nat)(x:Operand)(i:Operand):Option dI:=match evQ h e x,evQ h e i with
 |some (.agg cs),some (.int _ (.ofNat i))=>bif Nat.blt i len then
  match n with
  |none=>dD (bN cs.toList (i*size)) λv=>some (.val v h)
  |some n=>let l:=cm n (bQ (i*size) cs.toList);bif Nat.beq (bS l) n then some (.val (.agg l.toArray) h)else none
  else none
 |_,_=>none
def HJ(h:Heap)(base:Nat)(e:Env)(x:Operand)(i:Operand):Option dI:=match evQ h e x,evQ h e i with
 |some (.string s),some (.int _ (.ofNat i))=>match bN s.data.toList i with
  |some b=>some (.val (.int .u8 b.toNat) h)
  |none=>none
 |_,_=>none
def An(h:Heap)(base:Nat)(e:Env)(ag:Bool)(ls:List eS)(z:Value)(ok:Bool)(m:Operand)(k:Operand):Option dI:=match evQ h e m,evQ h e k with
 |some (.map none),some k=>bif uk ag ls k then some (.val (bif ok then .tuple #[z, .bool false]else z) h)else none
 |some (.map (some r)),some k=>match zL (oQ h r)with
  |some es=>bif uk ag ls k then match Bs ag ls k 0 es with
   |some (some (_,v))=>some (.val (bif ok then .tuple #[v, .bool true]else v) h)
   |some none=>some (.val (bif ok then .tuple #[z, .bool false]else z) h)
   |none=>none else none
  |none=>none
 |_,_=>none
def Dw(h:Heap)(base:Nat)(e:Env)(ag:Bool)(ls:List eS)(m:Operand)(k:Operand)(v:Operand):Option dI:=match evQ h e m,evQ h e k,evQ h e v with
 |some (.map (some r)),some k,some v=>match oQ h r with
  |some (.map es)=>bif uk ag ls k then match Bs ag ls k 0 es with
   |some (some (i,_))=>some (.val (.tuple #[]) (wrQ h base r (.map (uq es i (k,v)))))
   |some none=>some (.val (.tuple #[]) (wrQ h base r (.map (eL es [(k,v)]))))
   |none=>none else none
  |_=>none
 |_,_,_=>none
def wJ(h:Heap)(base:Nat)(e:Env)(t:TypeId)(ok:Bool)(z:Value)(x:Operand):Option dI:=match evQ h e x with
 |some .nilIface=>bif ok then some (.val (.tuple #[z, .bool false]) h)else none
 |some (.iface t' v)=>if t'=t then some (.val (bif ok then .tuple #[v, .bool true]else v) h)
  else bif ok then some (.val (.tuple #[z, .bool false]) h)else none
 |_=>none
def wE(h:Heap)(base:Nat)(e:Env)(t:Operand)(i:Nat):Option dI:=match evQ h e t with
 |some (.tuple vs)=>dD (bN vs.toList i) λv=>some (.val v h)
 |_=>none
def HD(h:Heap)(base:Nat)(e:Env)(f:Operand)(args:List Operand):Option dI:=match evQ h e f,EU h e args with
 |some f,some args=>rX f args h
 |_,_=>none
def Ak(h:Heap)(base:Nat)(e:Env):Nat->Operand->Option dI
 |0,x=>match evQ h e x with
  |some (.string s)=>some (.val (.int .i64 s.size) h)
  |_=>none
 |1,x=>match evQ h e x with
  |some (.slice _ n _)=>some (.val (.int .i64 n) h)
  |_=>none
 |_,x=>match evQ h e x with
  |some (.map none)=>some (.val (.int .i64 0) h)
  |some (.map (some r))=>match zL (oQ h r)with
   |some es=>some (.val (.int .i64 (bS es)) h)
   |none=>none
  |_=>none
def Am(h:Heap)(base:Nat)(e:Env)(n:Nat):Option dI:=some (.val (.int .i64 n) h)
def O7(h:Heap)(base:Nat)(e:Env)(x:Operand):Option dI:=match evQ h e x with
 |some (.slice _ _ c)=>bif Nat.beq c UNK then none else some (.val (.int .i64 c) h)
 |_=>none
def Af(h:Heap)(base:Nat)(e:Env)(size:Nat)(bytes:Nat)(s:Operand)(x:Operand):Option dI:=match evQ h e s,evQ h e x with
 |some s,some x=>match Tv h size x with
  |some (l,n)=>fW (xS h base size bytes s l n)
  |none=>none
 |_,_=>none
def wD(h:Heap)(base:Nat)(e:Env)(z:List Value)(bytes:Nat)(s:Operand)(n:Operand):Option dI:=match evQ h e s,evQ h e n with
 |some s,some n=>match rF n with
  |some n=>bif Nat.blt n 9223372036854775808&&Nat.ble (n*bytes) 281474976710656 then fW (xS h base (bS z) bytes s (eR n z) n)else none
  |none=>none
 |_,_=>none
def HF(h:Heap)(base:Nat)(e:Env)(size:Nat)(d:Operand)(s:Operand):Option dI:=match evQ h e d,evQ h e s with
 |some (.slice a dl _),some s=>match Tv h size s with
  |some (l,n)=>
   let m:=Nat.min n dl
   match a with
   |none=>some (.val (.int .i64 m) h)
   |some ⟨b,o,none⟩=>match oQ h b with
    |some (.cells vs true sz)=>bif Nat.ble (o+m*size) (bS vs)&&eN (cm (m*size) l)then
     some (.val (.int .i64 m) (wrQ h base b (.cells (dP vs o (cm (m*size) l)) true sz)))
     else none
    |_=>none
   |_=>none
  |none=>none
 |_,_=>none
def Ds(h:Heap)(base:Nat)(e:Env)(z:List Value)(x:Operand):Option dI:=match evQ h e x with
 |some (.slice a n _)=>
  bif Nat.beq n 0 then some (.val (.tuple #[]) h)else
  match a with
  |none=>some (.val (.tuple #[]) h)
  |some ⟨b,o,none⟩=>match oQ h b with
   |some (.cells vs true sz)=>bif Nat.ble (o+bS (eR n z)) (bS vs)&&eN (eR n z)then some (.val (.tuple #[]) (wrQ h base b (.cells (dP vs o (eR n z)) true sz)))else none
   |_=>none
  |_=>none
 |_=>none
def Ao(h:Heap)(base:Nat)(e:Env)(mx:Bool)(args:List Operand):Option dI:=match EU h e args with
 |some (x::l)=>dD (mmA mx x l) λv=>some (.val v h)
 |_=>none
def Ah(h:Heap)(base:Nat)(e:Env)(ag:Bool)(ls:List eS)(m:Operand)(k:Operand):Option dI:=match evQ h e m,evQ h e k with
 |some (.map (some r)),some k=>match oQ h r with
  |some (.map es)=>bif uk ag ls k then match Bs ag ls k 0 es with
   |some (some (i,_))=>some (.val (.tuple #[]) (wrQ h base r (.map (Vo es i))))
   |some none=>some (.val (.tuple #[]) (wrQ h base r (.map es)))
   |none=>none else none
  |_=>none
 |some (.map none),some k=>bif uk ag ls k then some (.val (.tuple #[]) h)else none
 |_,_=>none
def HH(h:Heap)(base:Nat)(e:Env)(f:Operand)(args:List Operand):Option dI:=match evQ h e f,EU h e args with
 |some (.func (.func g) first cap),some args=>some (.lI (.func (.func g) first cap) args)
 |_,_=>none
def wH(h:Heap)(base:Nat)(e:Env):Option dI:=some .recover
def HN(h:Heap)(base:Nat)(e:Env)(x:Operand):Option dI:=dD (evQ h e x) λv=>match v with
 | .iface _ _=>some (.panic v h)
 |_=>none
def DB(h:Heap)(base:Nat)(e:Env)(x:Operand):Option dI:=match evQ h e x with
 |some (.string s)=>some (.val (.pointer (some ⟨h.next,0,none⟩)) (h.push (.oH s 0)))
 |_=>none
def HL(h:Heap)(base:Nat)(e:Env):Operand->Bool->Option dI
 |x,true=>match evQ h e x with
  |some (.pointer (some ⟨r,0,none⟩))=>match oQ h r with
   |some (.oH s pos)=>bif Nat.blt pos s.size then
    let d:=Utf8.decode s pos
    some (.val (.tuple #[.bool true, .int .i64 pos, .int .i32 d.1]) (wrQ h base r (.oH s (pos+d.2))))
    else some (.val (.tuple #[.bool false]) h)
   |_=>none
  |_=>none
 |_,false=>none
def Ar(h:Heap)(base:Nat)(e:Env)(_:Operand):Option dI:=none
def Dt(h:Heap)(base:Nat)(e:Env)(_:Operand):Option dI:=none
def Zm(x0:Operand)(h:Heap)(base:Nat)(e:Env):Option dI:=O8 h base e x0
def We(x0:Operand)(x1:Operand)(x2:Operand)(h:Heap)(base:Nat)(e:Env):Option dI:=HM h base e x0 x1 x2
def Zn(x0:List Value)(h:Heap)(base:Nat)(e:Env):Option dI:=O9 h base e x0
def Zj(x0:Operand)(h:Heap)(base:Nat)(e:Env):Option dI:=O6 h base e x0
def SY(x0:List Value)(x1:List (Nat×Nat×Operand))(h:Heap)(base:Nat)(e:Env):Option dI:=Dr h base e x0 x1
def Pe(x0:List Value)(x1:Nat)(x2:List (Nat×Nat×Operand))(h:Heap)(base:Nat)(e:Env):Option dI:=Ag h base e x0 x1 x2
def Wc(x0:Option Nat)(x1:Operand)(h:Heap)(base:Nat)(e:Env):Option dI:=HK h base e x0 x1
def Tc(x0:Nat)(x1:Operand)(x2:Operand)(h:Heap)(base:Nat)(e:Env):Option dI:=DD h base e x0 x1 x2
def Pp(x0:Operand)(h:Heap)(base:Nat)(e:Env):Option dI:=Aq h base e x0
def Zi(x0:Gw)(x1:Operand)(x2:Operand)(h:Heap)(base:Nat)(e:Env):Option dI:=O5 h base e x0 x1 x2
def abx(x0:UnOp)(x1:Operand)(h:Heap)(base:Nat)(e:Env):Option dI:=V5 h base e x0 x1
def V7(x0:Cv)(x1:Operand)(h:Heap)(base:Nat)(e:Env):Option dI:=HE h base e x0 x1
def KK(x0:TypeId)(x1:Operand)(h:Heap)(base:Nat)(e:Env):Option dI:=wF h base e x0 x1
def Po(x0:Fn)(x1:List Operand)(x2:List Operand)(h:Heap)(base:Nat)(e:Env):Option dI:=Ap h base e x0 x1 x2
def S9(h:Heap)(base:Nat)(e:Env):Option dI:=DA h base e
def KL(x0:List Value)(x1:Nat)(x2:Operand)(x3:Operand)(h:Heap)(base:Nat)(e:Env):Option dI:=wG h base e x0 x1 x2 x3
def Tb(x0:ASl)(x1:Operand)(x2:Option Operand)(x3:Option Operand)(x4:Option Operand)(h:Heap)(base:Nat)(e:Env):Option dI:=DC h base e x0 x1 x2 x3 x4
def S6(x0:Nat)(x1:Operand)(h:Heap)(base:Nat)(e:Env):Option dI:=Du h base e x0 x1
def S7(x0:Nat)(x1:Option Nat)(x2:Operand)(h:Heap)(base:Nat)(e:Env):Option dI:=Dv h base e x0 x1 x2
def Pg(x0:Nat)(x1:Nat)(x2:Operand)(x3:Operand)(h:Heap)(base:Nat)(e:Env):Option dI:=Ai h base e x0 x1 x2 x3
def Ph(x0:Nat)(x1:Operand)(x2:Operand)(h:Heap)(base:Nat)(e:Env):Option dI:=Aj h base e x0 x1 x2
def Wa(x0:Nat)(x1:Nat)(x2:Option Nat)(x3:Operand)(x4:Operand)(h:Heap)(base:Nat)(e:Env):Option dI:=HI h base e x0 x1 x2 x3 x4
def Wb(x0:Operand)(x1:Operand)(h:Heap)(base:Nat)(e:Env):Option dI:=HJ h base e x0 x1
def Pm(x0:Bool)(x1:List eS)(x2:Value)(x3:Bool)(x4:Operand)(x5:Operand)(h:Heap)(base:Nat)(e:Env):Option dI:=An h base e x0 x1 x2 x3 x4 x5
def S8(x0:Bool)(x1:List eS)(x2:Operand)(x3:Operand)(x4:Operand)(h:Heap)(base:Nat)(e:Env):Option dI:=Dw h base e x0 x1 x2 x3 x4
def KN(x0:TypeId)(x1:Bool)(x2:Value)(x3:Operand)(h:Heap)(base:Nat)(e:Env):Option dI:=wJ h base e x0 x1 x2 x3
def KJ(x0:Operand)(x1:Nat)(h:Heap)(base:Nat)(e:Env):Option dI:=wE h base e x0 x1
def V6(x0:Operand)(x1:List Operand)(h:Heap)(base:Nat)(e:Env):Option dI:=HD h base e x0 x1
def Zl(x0:Nat)(x1:Operand)(h:Heap)(base:Nat)(e:Env):Option dI:=Ak h base e x0 x1
def Pj(x0:Nat)(h:Heap)(base:Nat)(e:Env):Option dI:=Am h base e x0
def Zk(x0:Operand)(h:Heap)(base:Nat)(e:Env):Option dI:=O7 h base e x0
def Pd(x0:Nat)(x1:Nat)(x2:Operand)(x3:Operand)(h:Heap)(base:Nat)(e:Env):Option dI:=Af h base e x0 x1 x2 x3
def KI(x0:List Value)(x1:Nat)(x2:Operand)(x3:Operand)(h:Heap)(base:Nat)(e:Env):Option dI:=wD h base e x0 x1 x2 x3
def V8(x0:Nat)(x1:Operand)(x2:Operand)(h:Heap)(base:Nat)(e:Env):Option dI:=HF h base e x0 x1 x2
def SZ(x0:List Value)(x1:Operand)(h:Heap)(base:Nat)(e:Env):Option dI:=Ds h base e x0 x1
def Pn(x0:Bool)(x1:List Operand)(h:Heap)(base:Nat)(e:Env):Option dI:=Ao h base e x0 x1
def Pf(x0:Bool)(x1:List eS)(x2:Operand)(x3:Operand)(h:Heap)(base:Nat)(e:Env):Option dI:=Ah h base e x0 x1 x2 x3
def V9(x0:Operand)(x1:List Operand)(h:Heap)(base:Nat)(e:Env):Option dI:=HH h base e x0 x1
def KM(h:Heap)(base:Nat)(e:Env):Option dI:=wH h base e
def Wf(x0:Operand)(h:Heap)(base:Nat)(e:Env):Option dI:=HN h base e x0
def Ta(x0:Operand)(h:Heap)(base:Nat)(e:Env):Option dI:=DB h base e x0
def Wd(x0:Operand)(x1:Bool)(h:Heap)(base:Nat)(e:Env):Option dI:=HL h base e x0 x1
def Pq(x0:Operand)(h:Heap)(base:Nat)(e:Env):Option dI:=Ar h base e x0
def S4(x0:Operand)(h:Heap)(base:Nat)(e:Env):Option dI:=Dt h base e x0
def ZV(o:AOp):Heap->Nat->Env->Option dI:=AOp.rec (motive:=λ_=>Heap->Nat->Env->Option dI) Zm We Zn Zj SY Pe Wc Tc Pp Zi abx V7 KK Po S9 KL Tb S6 S7 Pg Ph Wa Wb Pm S8 KN KJ V6 Zl Pj Zk Pd KI V8 SZ Pn Pf V9 KM Wf Ta Wd Pq S4 o
def GG(h:Heap)(base:Nat)(e:Env)(o:AOp):Option dI:=ZV o h base e
def lS:GG=aop:=by
 funext h base e o;cases o;case mov x0=>show O8 h base e x0=_;first|rfl|(unfold O8;simp only[cB,bJ,bC,bX,bD,aX,aR,bK,cH,cO,bk,bt,br,cV,aV];rfl)
 case pick x0 x1 x2=>show HM h base e x0 x1 x2=_;first|rfl|(unfold HM;simp only[cB,bJ,bC,bX,bD,aX,aR,bK,cH,cO,bk,bt,br,cV,aV];rfl)
 case new x0=>show O9 h base e x0=_;first|rfl|(unfold O9;simp only[cB,bJ,bC,bX,bD,aX,aR,bK,cH,cO,bk,bt,br,cV,aV];rfl)
 case box x0=>show O6 h base e x0=_;first|rfl|(unfold O6;simp only[cB,bJ,bC,bX,bD,aX,aR,bK,cH,cO,bk,bt,br,cV,aV];rfl)
 case build x0 x1=>show Dr h base e x0 x1=_;first|rfl|(unfold Dr;simp only[cB,bJ,bC,bX,bD,aX,aR,bK,cH,cO,bk,bt,br,cV,aV];rfl)
 case dy x0 x1 x2=>show Ag h base e x0 x1 x2=_;first|rfl|(unfold Ag;simp only[cB,bJ,bC,bX,bD,aX,aR,bK,cH,cO,bk,bt,br,cV,aV];rfl)
 case load x0 x1=>show HK h base e x0 x1=_;first|rfl|(unfold HK;simp only[cB,bJ,bC,bX,bD,aX,aR,bK,cH,cO,bk,bt,br,cV,aV];rfl)
 case store x0 x1 x2=>show DD h base e x0 x1 x2=_;first|rfl|(unfold DD;simp only[cB,bJ,bC,bX,bD,aX,aR,bK,cH,cO,bk,bt,br,cV,aV];rfl)
 case cT x0=>show Aq h base e x0=_;first|rfl|(unfold Aq;simp only[cB,bJ,bC,bX,bD,aX,aR,bK,cH,cO,bk,bt,br,cV,aV];rfl)
 case un x0 x1=>show V5 h base e x0 x1=_;first|rfl|(unfold V5;simp only[cB,bJ,bC,bX,bD,aX,aR,bK,cH,cO,bk,bt,br,cV,aV];rfl)
 case conv x0 x1=>show HE h base e x0 x1=_;first|rfl|(unfold HE;simp only[cB,bJ,bC,bX,bD,aX,aR,bK,cH,cO,bk,bt,br,cV,aV];rfl)
 case jw x0 x1=>show wF h base e x0 x1=_;first|rfl|(unfold wF;simp only[cB,bJ,bC,bX,bD,aX,aR,bK,cH,cO,bk,bt,br,cV,aV];rfl)
 case eG x0 x1 x2=>show Ap h base e x0 x1 x2=_;first|rfl|(unfold Ap;simp only[cB,bJ,bC,bX,bD,aX,aR,bK,cH,cO,bk,bt,br,cV,aV];rfl)
 case mkMap=>show DA h base e=_;first|rfl|(unfold DA;simp only[cB,bJ,bC,bX,bD,aX,aR,bK,cH,cO,bk,bt,br,cV,aV];rfl)
 case mkSlice x0 x1 x2 x3=>show wG h base e x0 x1 x2 x3=_;first|rfl|(unfold wG;simp only[cB,bJ,bC,bX,bD,aX,aR,bK,cH,cO,bk,bt,br,cV,aV];rfl)
 case dN x0 x1=>show Du h base e x0 x1=_;first|rfl|(unfold Du;simp only[cB,bJ,bC,bX,bD,aX,aR,bK,cH,cO,bk,bt,br,cV,aV];rfl)
 case field x0 x1 x2=>show Dv h base e x0 x1 x2=_;first|rfl|(unfold Dv;simp only[cB,bJ,bC,bX,bD,aX,aR,bK,cH,cO,bk,bt,br,cV,aV];rfl)
 case dx x0 x1 x2 x3=>show Ai h base e x0 x1 x2 x3=_;first|rfl|(unfold Ai;simp only[cB,bJ,bC,bX,bD,aX,aR,bK,cH,cO,bk,bt,br,cV,aV];rfl)
 case aC x0 x1 x2=>show Aj h base e x0 x1 x2=_;first|rfl|(unfold Aj;simp only[cB,bJ,bC,bX,bD,aX,aR,bK,cH,cO,bk,bt,br,cV,aV];rfl)
 case vh x0 x1 x2 x3 x4=>show HI h base e x0 x1 x2 x3 x4=_;first|rfl|(unfold HI;simp only[cB,bJ,bC,bX,bD,aX,aR,bK,cH,cO,bk,bt,br,cV,aV];rfl)
 case kj x0 x1=>show HJ h base e x0 x1=_;first|rfl|(unfold HJ;simp only[cB,bJ,bC,bX,bD,aX,aR,bK,cH,cO,bk,bt,br,cV,aV];rfl)
 case lookup x0 x1 x2 x3 x4 x5=>show An h base e x0 x1 x2 x3 x4 x5=_;first|rfl|(unfold An;simp only[cB,bJ,bC,bX,bD,aX,aR,bK,cH,cO,bk,bt,br,cV,aV];rfl)
 case ot x0 x1 x2 x3 x4=>show Dw h base e x0 x1 x2 x3 x4=_;first|rfl|(unfold Dw;simp only[cB,bJ,bC,bX,bD,aX,aR,bK,cH,cO,bk,bt,br,cV,aV];rfl)
 case lZ x0 x1 x2 x3=>show wJ h base e x0 x1 x2 x3=_;first|rfl|(unfold wJ;simp only[cB,bJ,bC,bX,bD,aX,aR,bK,cH,cO,bk,bt,br,cV,aV];rfl)
 case extract x0 x1=>show wE h base e x0 x1=_;first|rfl|(unfold wE;simp only[cB,bJ,bC,bX,bD,aX,aR,bK,cH,cO,bk,bt,br,cV,aV];rfl)
 case call x0 x1=>show HD h base e x0 x1=_;first|rfl|(unfold HD;simp only[cB,bJ,bC,bX,bD,aX,aR,bK,cH,cO,bk,bt,br,cV,aV];rfl)
 case oR x0=>show Am h base e x0=_;first|rfl|(unfold Am;simp only[cB,bJ,bC,bX,bD,aX,aR,bK,cH,cO,bk,bt,br,cV,aV];rfl)
 case cap x0=>show O7 h base e x0=_;first|rfl|(unfold O7;simp only[cB,bJ,bC,bX,bD,aX,aR,bK,cH,cO,bk,bt,br,cV,aV];rfl)
 case append x0 x1 x2 x3=>show Af h base e x0 x1 x2 x3=_;first|rfl|(unfold Af;simp only[cB,bJ,bC,bX,bD,aX,aR,bK,cH,cO,bk,bt,br,cV,aV];rfl)
 case oh x0 x1 x2 x3=>show wD h base e x0 x1 x2 x3=_;first|rfl|(unfold wD;simp only[cB,bJ,bC,bX,bD,aX,aR,bK,cH,cO,bk,bt,br,cV,aV];rfl)
 case copy x0 x1 x2=>show HF h base e x0 x1 x2=_;first|rfl|(unfold HF;simp only[cB,bJ,bC,bX,bD,aX,aR,bK,cH,cO,bk,bt,br,cV,aV];rfl)
 case clear x0 x1=>show Ds h base e x0 x1=_;first|rfl|(unfold Ds;simp only[cB,bJ,bC,bX,bD,aX,aR,bK,cH,cO,bk,bt,br,cV,aV];rfl)
 case ej x0 x1=>show Ao h base e x0 x1=_;first|rfl|(unfold Ao;simp only[cB,bJ,bC,bX,bD,aX,aR,bK,cH,cO,bk,bt,br,cV,aV];rfl)
 case delete x0 x1 x2 x3=>show Ah h base e x0 x1 x2 x3=_;first|rfl|(unfold Ah;simp only[cB,bJ,bC,bX,bD,aX,aR,bK,cH,cO,bk,bt,br,cV,aV];rfl)
 case lI x0 x1=>show HH h base e x0 x1=_;first|rfl|(unfold HH;simp only[cB,bJ,bC,bX,bD,aX,aR,bK,cH,cO,bk,bt,br,cV,aV];rfl)
 case recover=>show wH h base e=_;first|rfl|(unfold wH;simp only[cB,bJ,bC,bX,bD,aX,aR,bK,cH,cO,bk,bt,br,cV,aV];rfl)
 case wC x0=>show HN h base e x0=_;first|rfl|(unfold HN;simp only[cB,bJ,bC,bX,bD,aX,aR,bK,cH,cO,bk,bt,br,cV,aV];rfl)
 case range x0=>show DB h base e x0=_;first|rfl|(unfold DB;simp only[cB,bJ,bC,bX,bD,aX,aR,bK,cH,cO,bk,bt,br,cV,aV];rfl)
 case oU x0=>show Ar h base e x0=_;first|rfl|(unfold Ar;simp only[cB,bJ,bC,bX,bD,aX,aR,bK,cH,cO,bk,bt,br,cV,aV];rfl)
 case entry x0=>show Dt h base e x0=_;first|rfl|(unfold Dt;simp only[cB,bJ,bC,bX,bD,aX,aR,bK,cH,cO,bk,bt,br,cV,aV];rfl)
 case bin op x y=>show O5 h base e op x y=_;cases op<;>(simp only[O5,aop,cB,bJ,bC,bX,bD,aX,aR,bK,cH,cO,bk,bt,br,cV,aV];first|done|rfl)
 case slice k x lo hi mx=>show DC h base e k x lo hi mx=_;cases k<;>cases mx<;>(simp only[DC,aop,cB,bJ,bC,bX,bD,aX,aR,bK,cH,cO,bk,bt,br,cV,aV];first|done|rfl)
 case len k x=>
  match k with
  |0=>show Ak h base e 0 x=_;simp only[Ak,aop,cB,bJ,bC,bX,bD,aX,aR,bK,cH,cO,bk,bt,br,cV,aV];first|done|rfl
  |1=>show Ak h base e 1 x=_;simp only[Ak,aop,cB,bJ,bC,bX,bD,aX,aR,bK,cH,cO,bk,bt,br,cV,aV];first|done|rfl
  |k+2=>show Ak h base e (k+2) x=_;simp only[Ak,aop,cB,bJ,bC,bX,bD,aX,aR,bK,cH,cO,bk,bt,br,cV,aV];first|done|rfl
 case next x s=>show HL h base e x s=_;cases s<;>(simp only[HL,aop,cB,bJ,bC,bX,bD,aX,aR,bK,cH,cO,bk,bt,br,cV,aV];first|done|rfl)
structure Fam where
 exec:Nat->Option Nat->aZ->Env->Dfs->Heap->Option (bO×Env×Dfs×Heap)
 ops:Nat->Option Nat->List bg->Env->Dfs->Heap->Option (bO×Env×Dfs×Heap)
 draw:Nat->List bg->List Nat->List Nat->List Rec->Env->Heap->Option (bO×Env×Heap)
 kF:Fn->List Value->Heap->Option (Res×Heap)
 call:Nat->List Value->Heap->Option (Res×Heap)
 unw:List (Nat×Option (Option Nat))->Dfs->Option Value->Env->Heap->Heap->Option (Res×Heap)
 defer:Nat->List Value->Option Value->Heap->Option (Option Value×Heap)
 je:Nat->aZ->Env->Option Value->Heap->Option (bO×Env×Option Value×Heap)
 oT:Nat->List bg->Env->Option Value->Heap->Option (bO×Env×Option Value×Heap)
def Fam.none:Fam where
 exec:=λ_ _ _ _ _ _=> .none
 ops:=λ_ _ _ _ _ _=> .none
 draw:=λ_ _ _ _ _ _ _=> .none
 kF:=λ_ _ _=> .none
 call:=λ_ _ _=> .none
 unw:=λ_ _ _ _ _ _=> .none
 defer:=λ_ _ _ _=> .none
 je:=λ_ _ _ _ _=> .none
 oT:=λ_ _ _ _ _=> .none
def YZ(x0:Operand):List Operand:=dO (.mov x0)
def VL(x0:Operand)(x1:Operand)(x2:Operand):List Operand:=dO (.pick x0 x1 x2)
def Y0(x0:List Value):List Operand:=dO (.new x0)
def YV(x0:Operand):List Operand:=dO (.box x0)
def Sh(x0:List Value)(x1:List (Nat×Nat×Operand)):List Operand:=dO (.build x0 x1)
def Ot(x0:List Value)(x1:Nat)(x2:List (Nat×Nat×Operand)):List Operand:=dO (.dy x0 x1 x2)
def VJ(x0:Option Nat)(x1:Operand):List Operand:=dO (.load x0 x1)
def Ss(x0:Nat)(x1:Operand)(x2:Operand):List Operand:=dO (.store x0 x1 x2)
def OB(x0:Operand):List Operand:=dO (.cT x0)
def YU(x0:Gw)(x1:Operand)(x2:Operand):List Operand:=dO (.bin x0 x1 x2)
def abr(x0:UnOp)(x1:Operand):List Operand:=dO (.un x0 x1)
def VE(x0:Cv)(x1:Operand):List Operand:=dO (.conv x0 x1)
def Kr(x0:TypeId)(x1:Operand):List Operand:=dO (.jw x0 x1)
def OA(x0:Fn)(x1:List Operand)(x2:List Operand):List Operand:=dO (.eG x0 x1 x2)
def Sn:List Operand:=dO (.mkMap)
def Ks(x0:List Value)(x1:Nat)(x2:Operand)(x3:Operand):List Operand:=dO (.mkSlice x0 x1 x2 x3)
def Sr(x0:ASl)(x1:Operand)(x2:Option Operand)(x3:Option Operand)(x4:Option Operand):List Operand:=dO (.slice x0 x1 x2 x3 x4)
def Sk(x0:Nat)(x1:Operand):List Operand:=dO (.dN x0 x1)
def Sl(x0:Nat)(x1:Option Nat)(x2:Operand):List Operand:=dO (.field x0 x1 x2)
def Ov(x0:Nat)(x1:Nat)(x2:Operand)(x3:Operand):List Operand:=dO (.dx x0 x1 x2 x3)
def Ow(x0:Nat)(x1:Operand)(x2:Operand):List Operand:=dO (.aC x0 x1 x2)
def VH(x0:Nat)(x1:Nat)(x2:Option Nat)(x3:Operand)(x4:Operand):List Operand:=dO (.vh x0 x1 x2 x3 x4)
def VI(x0:Operand)(x1:Operand):List Operand:=dO (.kj x0 x1)
def Oy(x0:Bool)(x1:List eS)(x2:Value)(x3:Bool)(x4:Operand)(x5:Operand):List Operand:=dO (.lookup x0 x1 x2 x3 x4 x5)
def Sm(x0:Bool)(x1:List eS)(x2:Operand)(x3:Operand)(x4:Operand):List Operand:=dO (.ot x0 x1 x2 x3 x4)
def Ku(x0:TypeId)(x1:Bool)(x2:Value)(x3:Operand):List Operand:=dO (.lZ x0 x1 x2 x3)
def Kq(x0:Operand)(x1:Nat):List Operand:=dO (.extract x0 x1)
def VD(x0:Operand)(x1:List Operand):List Operand:=dO (.call x0 x1)
def YY(x0:Nat)(x1:Operand):List Operand:=dO (.len x0 x1)
def Ox(x0:Nat):List Operand:=dO (.oR x0)
def YX(x0:Operand):List Operand:=dO (.cap x0)
def Oq(x0:Nat)(x1:Nat)(x2:Operand)(x3:Operand):List Operand:=dO (.append x0 x1 x2 x3)
def Kp(x0:List Value)(x1:Nat)(x2:Operand)(x3:Operand):List Operand:=dO (.oh x0 x1 x2 x3)
def VF(x0:Nat)(x1:Operand)(x2:Operand):List Operand:=dO (.copy x0 x1 x2)
def Si(x0:List Value)(x1:Operand):List Operand:=dO (.clear x0 x1)
def Oz(x0:Bool)(x1:List Operand):List Operand:=dO (.ej x0 x1)
def Ou(x0:Bool)(x1:List eS)(x2:Operand)(x3:Operand):List Operand:=dO (.delete x0 x1 x2 x3)
def VG(x0:Operand)(x1:List Operand):List Operand:=dO (.lI x0 x1)
def Kt:List Operand:=dO (.recover)
def VM(x0:Operand):List Operand:=dO (.wC x0)
def Sq(x0:Operand):List Operand:=dO (.range x0)
def VK(x0:Operand)(x1:Bool):List Operand:=dO (.next x0 x1)
def OC(x0:Operand):List Operand:=dO (.oU x0)
def Sj(x0:Operand):List Operand:=dO (.entry x0)
def Dd(o:AOp):List Operand:=AOp.rec (motive:=λ_=>List Operand) YZ VL Y0 YV Sh Ot VJ Ss OB YU abr VE Kr OA Sn Ks Sr Sk Sl Ov Ow VH VI Oy Sm Ku Kq VD YY Ox YX Oq Kp VF Si Oz Ou VG Kt VM Sq VK OC Sj o
def Hy:Dd=dO:=by funext o;cases o<;>rfl
def ZB(x0:Operand):Bool:=dB (.mov x0)
def WS(x0:Operand)(x1:Operand)(x2:Operand):Bool:=dB (.pick x0 x1 x2)
def ZC(x0:List Value):Bool:=dB (.new x0)
def Zy(x0:Operand):Bool:=dB (.box x0)
def Tz(x0:List Value)(x1:List (Nat×Nat×Operand)):Bool:=dB (.build x0 x1)
def PX(x0:List Value)(x1:Nat)(x2:List (Nat×Nat×Operand)):Bool:=dB (.dy x0 x1 x2)
def WQ(x0:Option Nat)(x1:Operand):Bool:=dB (.load x0 x1)
def TK(x0:Nat)(x1:Operand)(x2:Operand):Bool:=dB (.store x0 x1 x2)
def P7(x0:Operand):Bool:=dB (.cT x0)
def Zx(x0:Gw)(x1:Operand)(x2:Operand):Bool:=dB (.bin x0 x1 x2)
def abB(x0:UnOp)(x1:Operand):Bool:=dB (.un x0 x1)
def Wz(x0:Cv)(x1:Operand):Bool:=dB (.conv x0 x1)
def Lf(x0:TypeId)(x1:Operand):Bool:=dB (.jw x0 x1)
def P6(x0:Fn)(x1:List Operand)(x2:List Operand):Bool:=dB (.eG x0 x1 x2)
def TH:Bool:=dB (.mkMap)
def Lg(x0:List Value)(x1:Nat)(x2:Operand)(x3:Operand):Bool:=dB (.mkSlice x0 x1 x2 x3)
def TJ(x0:ASl)(x1:Operand)(x2:Option Operand)(x3:Option Operand)(x4:Option Operand):Bool:=dB (.slice x0 x1 x2 x3 x4)
def TE(x0:Nat)(x1:Operand):Bool:=dB (.dN x0 x1)
def TF(x0:Nat)(x1:Option Nat)(x2:Operand):Bool:=dB (.field x0 x1 x2)
def PZ(x0:Nat)(x1:Nat)(x2:Operand)(x3:Operand):Bool:=dB (.dx x0 x1 x2 x3)
def P0(x0:Nat)(x1:Operand)(x2:Operand):Bool:=dB (.aC x0 x1 x2)
def WJ(x0:Nat)(x1:Nat)(x2:Option Nat)(x3:Operand)(x4:Operand):Bool:=dB (.vh x0 x1 x2 x3 x4)
def WN(x0:Operand)(x1:Operand):Bool:=dB (.kj x0 x1)
def P4(x0:Bool)(x1:List eS)(x2:Value)(x3:Bool)(x4:Operand)(x5:Operand):Bool:=dB (.lookup x0 x1 x2 x3 x4 x5)
def TG(x0:Bool)(x1:List eS)(x2:Operand)(x3:Operand)(x4:Operand):Bool:=dB (.ot x0 x1 x2 x3 x4)
def Li(x0:TypeId)(x1:Bool)(x2:Value)(x3:Operand):Bool:=dB (.lZ x0 x1 x2 x3)
def Le(x0:Operand)(x1:Nat):Bool:=dB (.extract x0 x1)
def Wy(x0:Operand)(x1:List Operand):Bool:=dB (.call x0 x1)
def ZA(x0:Nat)(x1:Operand):Bool:=dB (.len x0 x1)
def P3(x0:Nat):Bool:=dB (.oR x0)
def Zz(x0:Operand):Bool:=dB (.cap x0)
def PV(x0:Nat)(x1:Nat)(x2:Operand)(x3:Operand):Bool:=dB (.append x0 x1 x2 x3)
def Ld(x0:List Value)(x1:Nat)(x2:Operand)(x3:Operand):Bool:=dB (.oh x0 x1 x2 x3)
def WH(x0:Nat)(x1:Operand)(x2:Operand):Bool:=dB (.copy x0 x1 x2)
def TA(x0:List Value)(x1:Operand):Bool:=dB (.clear x0 x1)
def P5(x0:Bool)(x1:List Operand):Bool:=dB (.ej x0 x1)
def PY(x0:Bool)(x1:List eS)(x2:Operand)(x3:Operand):Bool:=dB (.delete x0 x1 x2 x3)
def WI(x0:Operand)(x1:List Operand):Bool:=dB (.lI x0 x1)
def Lh:Bool:=dB (.recover)
def WT(x0:Operand):Bool:=dB (.wC x0)
def TI(x0:Operand):Bool:=dB (.range x0)
def WR(x0:Operand)(x1:Bool):Bool:=dB (.next x0 x1)
def P8(x0:Operand):Bool:=dB (.oU x0)
def TD(x0:Operand):Bool:=dB (.entry x0)
def Jn(o:AOp):Bool:=AOp.rec (motive:=λ_=>Bool) ZB WS ZC Zy Tz PX WQ TK P7 Zx abB Wz Lf P6 TH Lg TJ TE TF PZ P0 WJ WN P4 TG Li Le Wy ZA P3 Zz PV Ld WH TA P5 PY WI Lh WT TI WR P8 TD o
def HQ:Jn=dB:=by funext o;cases o<;>rfl
def ZJ(x0:Operand):Bool:=dX (.mov x0)
def Xh(x0:Operand)(x1:Operand)(x2:Operand):Bool:=dX (.pick x0 x1 x2)
def ZK(x0:List Value):Bool:=dX (.new x0)
def ZG(x0:Operand):Bool:=dX (.box x0)
def TV(x0:List Value)(x1:List (Nat×Nat×Operand)):Bool:=dX (.build x0 x1)
def QC(x0:List Value)(x1:Nat)(x2:List (Nat×Nat×Operand)):Bool:=dX (.dy x0 x1 x2)
def Xf(x0:Option Nat)(x1:Operand):Bool:=dX (.load x0 x1)
def T5(x0:Nat)(x1:Operand)(x2:Operand):Bool:=dX (.store x0 x1 x2)
def QM(x0:Operand):Bool:=dX (.cT x0)
def ZF(x0:Gw)(x1:Operand)(x2:Operand):Bool:=dX (.bin x0 x1 x2)
def abG(x0:UnOp)(x1:Operand):Bool:=dX (.un x0 x1)
def Xa(x0:Cv)(x1:Operand):Bool:=dX (.conv x0 x1)
def Ls(x0:TypeId)(x1:Operand):Bool:=dX (.jw x0 x1)
def QL(x0:Fn)(x1:List Operand)(x2:List Operand):Bool:=dX (.eG x0 x1 x2)
def T2:Bool:=dX (.mkMap)
def Lt(x0:List Value)(x1:Nat)(x2:Operand)(x3:Operand):Bool:=dX (.mkSlice x0 x1 x2 x3)
def T4(x0:ASl)(x1:Operand)(x2:Option Operand)(x3:Option Operand)(x4:Option Operand):Bool:=dX (.slice x0 x1 x2 x3 x4)
def TY(x0:Nat)(x1:Operand):Bool:=dX (.dN x0 x1)
def TZ(x0:Nat)(x1:Option Nat)(x2:Operand):Bool:=dX (.field x0 x1 x2)
def QE(x0:Nat)(x1:Nat)(x2:Operand)(x3:Operand):Bool:=dX (.dx x0 x1 x2 x3)
def QF(x0:Nat)(x1:Operand)(x2:Operand):Bool:=dX (.aC x0 x1 x2)
def Xd(x0:Nat)(x1:Nat)(x2:Option Nat)(x3:Operand)(x4:Operand):Bool:=dX (.vh x0 x1 x2 x3 x4)
def Xe(x0:Operand)(x1:Operand):Bool:=dX (.kj x0 x1)
def QJ(x0:Bool)(x1:List eS)(x2:Value)(x3:Bool)(x4:Operand)(x5:Operand):Bool:=dX (.lookup x0 x1 x2 x3 x4 x5)
def T1(x0:Bool)(x1:List eS)(x2:Operand)(x3:Operand)(x4:Operand):Bool:=dX (.ot x0 x1 x2 x3 x4)
def Lv(x0:TypeId)(x1:Bool)(x2:Value)(x3:Operand):Bool:=dX (.lZ x0 x1 x2 x3)
def Lr(x0:Operand)(x1:Nat):Bool:=dX (.extract x0 x1)
def W0(x0:Operand)(x1:List Operand):Bool:=dX (.call x0 x1)
def ZI(x0:Nat)(x1:Operand):Bool:=dX (.len x0 x1)
def QI(x0:Nat):Bool:=dX (.oR x0)
def ZH(x0:Operand):Bool:=dX (.cap x0)
def Qz(x0:Nat)(x1:Nat)(x2:Operand)(x3:Operand):Bool:=dX (.append x0 x1 x2 x3)
def Lq(x0:List Value)(x1:Nat)(x2:Operand)(x3:Operand):Bool:=dX (.oh x0 x1 x2 x3)
def Xb(x0:Nat)(x1:Operand)(x2:Operand):Bool:=dX (.copy x0 x1 x2)
def TW(x0:List Value)(x1:Operand):Bool:=dX (.clear x0 x1)
def QK(x0:Bool)(x1:List Operand):Bool:=dX (.ej x0 x1)
def QD(x0:Bool)(x1:List eS)(x2:Operand)(x3:Operand):Bool:=dX (.delete x0 x1 x2 x3)
def Xc(x0:Operand)(x1:List Operand):Bool:=dX (.lI x0 x1)
def Lu:Bool:=dX (.recover)
def Xi(x0:Operand):Bool:=dX (.wC x0)
def T3(x0:Operand):Bool:=dX (.range x0)
def Xg(x0:Operand)(x1:Bool):Bool:=dX (.next x0 x1)
def QN(x0:Operand):Bool:=dX (.oU x0)
def TX(x0:Operand):Bool:=dX (.entry x0)
def GY(o:AOp):Bool:=AOp.rec (motive:=λ_=>Bool) ZJ Xh ZK ZG TV QC Xf T5 QM ZF abG Xa Ls QL T2 Lt T4 TY TZ QE QF Xd Xe QJ T1 Lv Lr W0 ZI QI ZH Qz Lq Xb TW QK QD Xc Lu Xi T3 Xg QN TX o
def iS:GY=dX:=by funext o;cases o<;>rfl
def Cy(o:AOp):Bool:=Jn o||GY o
def iH:Cy=lJ:=by funext o;simp only[Cy,lJ,HQ,iS]
def mY(o:bg):List Nat:=
 match o.guard with
 |some (t,_)=>t::B0 (Dd o.op)
 |none=>B0 (Dd o.op)
def iK:mY=dK:=by funext o;unfold mY dK;simp only[Hy];rfl
def uF:List Value->List Value->Bool
 |[],[]=>true
 |x::xs,y::ys=>bif DK x y then uF xs ys else false
 |_,_=>false
def HW:Value->Value->Bool
 | .agg a, .agg b=>uF a.toList b.toList
 | .tuple a, .tuple b=>uF a.toList b.toList
 | .func (.func f) a' a, .func (.func g) b' b=>f==g&&(uF a'.toList b'.toList&&uF a.toList b.toList)
 |x,y=>DK x y
def Jo(h:Heap)(base:Nat)(r:Rec):Bool:=
 match r.k with
 | .quiet=>match GG h base r.e r.o.op with
   |some (.val v' h2)=>HW r.v v'&&Nat.beq h2.next h.next
   |_=>false
 |_=>true
def DF(h:Heap)(base:Nat):List Rec->Bool
 |[]=>true
 |r::rs=>bif Jo h base r then DF h base rs else false
def j0(h:Heap)(base:Nat)(log:List Nat)(mask:Nat):List Rec->Option (List Rec)
 |[]=>some []
 |r::rs=>bif Nat.testBit mask r.i then j0 h base log mask rs else
  bif Jo h base r&&KP log r then match j0 h base log mask rs with
   |some rs'=>some (r::rs')
   |none=>none
  else none
def KZ:uF=j7:=by
 funext a;induction a with
 |nil=>funext b;cases b<;>rfl
 |cons x a ih=>funext b;cases b<;>first|rfl|(simp only[uF,j7,BS,ih])
def K0:HW=jj:=by
 funext a b;unfold HW jj;simp only[KZ,BS];first|done|rfl
def F1:Jo=uB:=by
 funext h base r;unfold Jo uB;simp only[lS,K0];first|done|rfl
def jA:DF=rG:=by
 funext h base rs;induction rs with
 |nil=>rfl
 |cons r rs ih=>simp only[DF,rG,F1,ih]
def fI:j0=bL:=by
 funext h base log mask rs;induction rs with
 |nil=>rfl
 |cons r rs ih=>simp only[j0,bL,F1,ih];first|done|rfl
def Pc(T:Nat->Option aq)(F:Fam)(base:Nat)(rnd:Option Nat)(ops:List bg)(it:Nat)(x:Operand)(keep:List Nat)(out nxt pr:Nat)(ops2:List bg)(k2:List Nat)(body:aZ)(e:Env)(ds:Dfs)(h:Heap):Option (bO×Env×Dfs×Heap):=match F.ops base rnd ops e ds h with
 |some (.normal,e0,ds0,h0)=>match ds0 with
  |_::_=>none
  |[]=>match evQ h0 e0 x with
   |some (.map none)=>some (.normal,mC e0 keep,[],h0)
   |some (.map (some m))=>match oQ h0 m with
    |some (.map es)=>MO out (mC e0 keep) h0 (uf (λe h=>F.ops (h0.next+1) rnd ops2 e [] h) (λe h=>F.exec (h0.next+1) rnd body e [] h) nxt pr k2 (itE it h0 (mC e0 keep)) (mC e0 keep) ((roM h0 m es).push .dead) es)
    |_=>none
   |_=>none
 |r=>r
def FU(T:Nat->Option aq)(F:Fam)(base:Nat)(rnd:Option Nat)(f:Operand)(ps:List Nat)(asg body:aZ)(e:Env)(ds:Dfs)(h:Heap):Option (bO×Env×Dfs×Heap):=bif qS h rnd then match evQ h e f with
 |some (.func (.func g) first cap)=>bif iu (T g)then none else
  match F.call g (eL first.toList (eL [.func (.yield h.next) #[] #[]] cap.toList)) {h.push (.loop e ps asg body 0 .normal)with log:=[]}with
  |some (.ret _,h2)=>match oQ h2 h.next with
   |some (.loop _ _ _ _ st jy)=>bif Nat.beq st 1 then none else
    some (jy,e,ds,Heap.wr {h2 with log:=aJ base h.log h2.log} base h.next .dead)
   |_=>none
  |some (.panic v,h2)=>some (.panic v,e,ds,{h2 with log:=aJ base h.log h2.log})
  |none=>none
 |_=>none
 else none
def FV(F:Fam)(l:Nat)(args:List Value)(h:Heap):Option (Res×Heap):=match oQ h l with
 |some (.loop e ps asg body 0 .normal)=>match j8 e ps args with
  |some e1=>match F.exec h.next (some l) asg e1 [] h with
   |some (.normal,e2,ds2,h2)=>bif notReady (oQ h2 l)then none else match F.exec h.next (some l) body e2 ds2 {h2 with cU:=soQ h2.cU l (.loop e ps asg body 1 .normal)}with
    |some (.normal,_,_,h3)=>match oQ h3 l with
     |some (.loop _ _ _ _ 1 _)=>some (.ret (.bool true),gcA h {h3 with cU:=soQ h3.cU l (.loop e ps asg body 0 .normal)} (.bool true))
     |_=>none
    |some (.exit i,_,_,h3)=>match oQ h3 l with
     |some (.loop _ _ _ _ 1 _)=>some (.ret (.bool false),h3.wr h.next l (.loop e ps asg body 2 (.exit i)))
     |_=>none
    |some (.ret,_,_,h3)=>match oQ h3 l with
     |some (.loop _ _ _ _ 1 _)=>some (.ret (.bool false),h3.wr h.next l (.loop e ps asg body 2 .ret))
     |_=>none
    |_=>none
   |_=>none
  |none=>none
 |_=>none
def LY(T:Nat->Option aq)(F:Fam):Nat->Option Nat->aZ->Env->Dfs->Heap->Option (bO×Env×Dfs×Heap):=λbase rnd c e ds h=>
 match c with
 | .skip=>some (.normal,e,ds,h)
 | .region ops keep=>match F.ops base rnd ops e ds h with
   |some (.normal,e',ds',h')=>some (.normal,mC e' keep,ds',h')
   |r=>r
 | .draw ops order before keep=>match F.draw base ops order before [] e h with
   |some (.normal,e',h')=>some (.normal,mC e' keep,ds,h')
   |some (x,e',h')=>some (x,e',ds,h')
   |none=>none
 | .seq a b=>match F.exec base rnd a e ds h with
   |some (.normal,e',ds',h')=>F.exec base rnd b e' ds' h'
   |r=>r
 | .cond c a b=>match evQ h e c with
   |some (.bool true)=>F.exec base rnd a e ds h
   |some (.bool false)=>F.exec base rnd b e ds h
   |_=>none
 | .block id b=>match F.exec base rnd b e ds h with
   |some (.exit i,e',ds',h')=>bif Nat.beq i id then some (.normal,e',ds',h')else some (.exit i,e',ds',h')
   |r=>r
 | .loop b=>match F.exec base rnd b e ds h with
   |some (.normal,e',ds',h')=>F.exec base rnd (.loop b) e' ds' h'
   |r=>r
 | .scope b=>F.exec base rnd b e ds h
 | .rangeFunc f ps asg body=>FU T F base rnd f ps asg body e ds h
 | .rangeMap ops it x keep out nxt pr ops2 k2 body=>Pc T F base rnd ops it x keep out nxt pr ops2 k2 body e ds h
 | .exit id=>some (.exit id,e,ds,h)
 | .ret=>some (.ret,e,ds,h)
def Ur(T:Nat->Option aq)(F:Fam):Nat->Option Nat->List bg->Env->Dfs->Heap->Option (bO×Env×Dfs×Heap):=λbase rnd ops e ds h=>
 match ops with
 |[]=>some (.normal,e,ds,h)
 |o::os=>match vN e o.guard with
  |some false=>F.ops base rnd os (cN e o.dst (.tuple #[])) ds h
  |some true=>match GG h base e o.op with
   |some (.val v h')=>F.ops base rnd os (cN e o.dst v) ds h'
   |some (.call fn args h')=>match F.kF fn args {h' with log:=[]}with
    |some (.ret v,h2)=>F.ops base rnd os (cN e o.dst v) ds {h2 with log:=aJ base h'.log h2.log}
    |some (.panic v,h2)=>some (.panic v,e,ds,{h2 with log:=aJ base h'.log h2.log})
    |none=>none
   |some (.lI f args)=>match rnd with|some _=>none|none=>F.ops base rnd os (cN e o.dst (.tuple #[])) ((f,args)::ds) h
   |some (.panic v h')=>some (.panic v,e,ds,h')
   |_=>none
  |none=>none
def LV(T:Nat->Option aq)(F:Fam):Nat->List bg->List Nat->List Nat->List Rec->Env->Heap->Option (bO×Env×Heap):=λbase ops order before rs e h=>
 match order with
 |[]=>some (.normal,e,h)
 |i::is=>match bN ops i,bN before i with
  |some o,some mask=>
   match vN (mC e (mY o)) o.guard with
   |some false=>F.draw base ops is before (⟨i,o,mC e (mY o), .tuple #[], .skip⟩::rs) (cN e o.dst (.tuple #[])) h
   |some true=>
    bif Cy o.op then
     match GG h base (mC e (mY o)) o.op with
     |some (.val v h')=>
      bif GY o.op then
       bif DF h' base rs then F.draw base ops is before (⟨i,o,mC e (mY o),v, .made h.next⟩::rs) (cN e o.dst v) h' else none
      else bif Nat.beq h'.next h.next then F.draw base ops is before (⟨i,o,mC e (mY o),v, .quiet⟩::rs) (cN e o.dst v) h
      else bif Ew before i is then
       match GG (η h) h.next (mC e (mY o)) o.op with
       |some (.val v h2)=>match j0 {h2 with log:=aJ base h.log h2.log} base h2.log mask rs with
        |some rs'=>F.draw base ops is before rs' (cN e o.dst v) {h2 with log:=aJ base h.log h2.log}
        |none=>none
       |_=>none
      else none
     |_=>none
    else
     match GG (η h) h.next (mC e (mY o)) o.op with
     |some (.val v h2)=>match j0 {h2 with log:=aJ base h.log h2.log} base h2.log mask rs with
      |some rs'=>F.draw base ops is before rs' (cN e o.dst v) {h2 with log:=aJ base h.log h2.log}
      |none=>none
     |some (.call fn args _)=>match F.kF fn args (η h)with
      |some (.ret v,h2)=>match j0 {h2 with log:=aJ base h.log h2.log} base h2.log mask rs with
       |some rs'=>F.draw base ops is before rs' (cN e o.dst v) {h2 with log:=aJ base h.log h2.log}
       |none=>none
      |some (.panic v,h2)=>some (.panic v,[],{h2 with log:=aJ base h.log h2.log})
      |none=>none
     |_=>none
   |none=>none
  |_,_=>none
def Iy(T:Nat->Option aq)(F:Fam):Fn->List Value->Heap->Option (Res×Heap):=λfn args h=>
 match fn with
 | .func f=>F.call f args h
 | .yield l=>FV F l args h
 |_=>none
def LU(T:Nat->Option aq)(F:Fam):Nat->List Value->Heap->Option (Res×Heap):=λf args h=>
 match T f with
 |none=>none
 |some (.mW p)=>match p args h with
  |some (v,h')=>some (.ret v,h')
  |none=>none
 |some (.code code results)=>match F.exec h.next none code (fu 0 args) [] h with
  |some (.panic v,e,ds,h1)=>F.unw results ds (some v) e h h1
  |some (.exit _,_,_,_)=>none
  |some (_,e,ds,h1)=>F.unw results ds none e h h1
  |none=>none
def Ut(T:Nat->Option aq)(F:Fam):List (Nat×Option (Option Nat))->Dfs->Option Value->Env->Heap->Heap->Option (Res×Heap):=λresults ds pan e h h1=>
 match ds with
 |[]=>match pan with
  |some v=>some (.panic v,h1)
  |none=>match Pw h1 e results with
   |some vs=>some (.ret (fB vs),gcA h h1 (fB vs))
   |none=>none
 |(.func (.func g) first cap,args)::ds=>match F.defer g (eL first.toList (eL args cap.toList)) pan (η h1)with
  |some (pan',h2)=>F.unw results ds pan' e h {h2 with log:=aJ h.next h1.log h2.log}
  |none=>none
 |_=>none
def Iz(T:Nat->Option aq)(F:Fam):Nat->List Value->Option Value->Heap->Option (Option Value×Heap):=λg args pan h=>
 match T g with
 |some (.code code [])=>match F.je h.next code (fu 0 args) pan h with
  |some (.normal,_,pan',h')=>some (pan',h')
  |some (.ret,_,pan',h')=>some (pan',h')
  |_=>none
 |_=>none
def IA(T:Nat->Option aq)(F:Fam):Nat->aZ->Env->Option Value->Heap->Option (bO×Env×Option Value×Heap):=λbase c e pan h=>
 match c with
 | .skip=>some (.normal,e,pan,h)
 | .region ops keep=>match F.oT base ops e pan h with
   |some (.normal,e',pan',h')=>some (.normal,mC e' keep,pan',h')
   |r=>r
 | .seq a b=>match F.je base a e pan h with
   |some (.normal,e',pan',h')=>F.je base b e' pan' h'
   |r=>r
 | .cond c a b=>match evQ h e c with
   |some (.bool true)=>F.je base a e pan h
   |some (.bool false)=>F.je base b e pan h
   |_=>none
 | .ret=>some (.ret,e,pan,h)
 |_=>none
def L6(T:Nat->Option aq)(F:Fam):Nat->List bg->Env->Option Value->Heap->Option (bO×Env×Option Value×Heap):=λbase ops e pan h=>
 match ops with
 |[]=>some (.normal,e,pan,h)
 |o::os=>match vN e o.guard with
  |some false=>F.oT base os (cN e o.dst (.tuple #[])) pan h
  |some true=>match GG h base e o.op with
   |some (.val v h')=>F.oT base os (cN e o.dst v) pan h'
   |some .recover=>match pan with
    |some v=>F.oT base os (cN e o.dst v) none h
    |none=>F.oT base os (cN e o.dst .nilIface) none h
   |_=>none
  |none=>none
def Fam.PU(T:Nat->Option aq)(F:Fam):Fam where
 exec:=LY T F
 ops:=Ur T F
 draw:=LV T F
 kF:=Iy T F
 call:=LU T F
 unw:=Ut T F
 defer:=Iz T F
 je:=IA T F
 oT:=L6 T F
def rV(T:Nat->Option aq)(n:Nat):Fam:=Nat.rec Fam.none (λ_ F=>Fam.PU T F) n
def IN(T:Nat->Option aq):∀n,rV T n={exec:=di T n,ops:=iC T n,draw:=fG T n,kF:=iw T n,call:=jM T n,unw:=rL T n,defer:=mK T n,je:=jE T n,oT:=lu T n}
 |0=>by
  show Fam.none=_;unfold Fam.none;simp only[Fam.mk.injEq];refine⟨?_,?_,?_,?_,?_,?_,?_,?_,?_⟩
  ·funext x0 x1 x2 x3 x4 x5;simp only[di]
  ·funext x0 x1 x2 x3 x4 x5;simp only[iC]
  ·funext x0 x1 x2 x3 x4 x5 x6;simp only[fG]
  ·funext x0 x1 x2;simp only[iw]
  ·funext x0 x1 x2;simp only[jM]
  ·funext x0 x1 x2 x3 x4 x5;simp only[rL]
  ·funext x0 x1 x2 x3;simp only[mK]
  ·funext x0 x1 x2 x3 x4;simp only[jE]
  ·funext x0 x1 x2 x3 x4;simp only[lu]
 |n+1=>by
  show Fam.PU T (rV T n)=_;rw[IN T n];unfold Fam.PU;simp only[Fam.mk.injEq];refine⟨?_,?_,?_,?_,?_,?_,?_,?_,?_⟩
  ·funext x0 x1 x2 x3 x4 x5;refine Eq.trans ?_ (di.eq_def T (n+1) x0 x1 x2 x3 x4 x5).symm;unfold LY FU Pc;first|rfl|(simp only[cB,bJ,bK,cH,oW,kL,iL,mX,lM,lS,jA,fI,bk,iK,iH,iS];rfl)
  ·funext x0 x1 x2 x3 x4 x5;refine Eq.trans ?_ (iC.eq_def T (n+1) x0 x1 x2 x3 x4 x5).symm;unfold Ur;first|rfl|(simp only[cB,bJ,bK,cH,oW,kL,iL,mX,lM,lS,jA,fI,bk,iK,iH,iS];rfl)
  ·funext x0 x1 x2 x3 x4 x5 x6;refine Eq.trans ?_ (fG.eq_def T (n+1) x0 x1 x2 x3 x4 x5 x6).symm;unfold LV;first|rfl|(simp only[cB,bJ,bK,cH,oW,kL,iL,mX,lM,lS,jA,fI,bk,iK,iH,iS];rfl)
  ·funext x0 x1 x2;refine Eq.trans ?_ (iw.eq_def T (n+1) x0 x1 x2).symm;unfold Iy FV;first|rfl|(simp only[cB,bJ,bK,cH,oW,kL,iL,mX,lM,lS,jA,fI,bk,iK,iH,iS];rfl)
  ·funext x0 x1 x2;refine Eq.trans ?_ (jM.eq_def T (n+1) x0 x1 x2).symm;unfold LU;first|rfl|(simp only[cB,bJ,bK,cH,oW,kL,iL,mX,lM,lS,jA,fI,bk,iK,iH,iS];rfl)
  ·funext x0 x1 x2 x3 x4 x5;refine Eq.trans ?_ (rL.eq_def T (n+1) x0 x1 x2 x3 x4 x5).symm;unfold Ut;first|rfl|(simp only[cB,bJ,bK,cH,oW,kL,iL,mX,lM,lS,jA,fI,bk,iK,iH,iS];rfl)
  ·funext x0 x1 x2 x3;refine Eq.trans ?_ (mK.eq_def T (n+1) x0 x1 x2 x3).symm;unfold Iz;first|rfl|(simp only[cB,bJ,bK,cH,oW,kL,iL,mX,lM,lS,jA,fI,bk,iK,iH,iS];rfl)
  ·funext x0 x1 x2 x3 x4;refine Eq.trans ?_ (jE.eq_def T (n+1) x0 x1 x2 x3 x4).symm;unfold IA;first|rfl|(simp only[cB,bJ,bK,cH,oW,kL,iL,mX,lM,lS,jA,fI,bk,iK,iH,iS];rfl)
  ·funext x0 x1 x2 x3 x4;refine Eq.trans ?_ (lu.eq_def T (n+1) x0 x1 x2 x3 x4).symm;unfold L6;first|rfl|(simp only[cB,bJ,bK,cH,oW,kL,iL,mX,lM,lS,jA,fI,bk,iK,iH,iS];rfl)
end Go.A
