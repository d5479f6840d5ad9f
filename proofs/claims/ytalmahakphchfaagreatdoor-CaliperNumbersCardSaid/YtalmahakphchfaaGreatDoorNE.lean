/- The runs once more, for the kernel. -/
import Derived.Test.YtalmahakphchfaaGreatDoorNA
set_option linter.all false
noncomputable section
namespace Go.A
def Qx(k:IntKind):Nat:=IntKind.rec (motive:=λ_=>Nat) 0 1 2 3 4 5 6 7 k
def kEq(a b:IntKind):Bool:=Nat.beq (Qx a) (Qx b)
theorem x8(a b:IntKind):kEq a b=decide (a=b):=by cases a<;>cases b<;>rfl
def GP(m:Nat)(b:Int):Bool:=Int.rec (motive:=λ_=>Bool) (λn=>Nat.beq m n) (λ_=>false) b
def GO(m:Nat)(b:Int):Bool:=Int.rec (motive:=λ_=>Bool) (λ_=>false) (λn=>Nat.beq m n) b
def iEq(a b:Int):Bool:=Int.rec (motive:=λ_=>Int->Bool) GP GO a b
theorem BE(a b:Int):iEq a b=(a==b):=by
 rw[Bool.eq_iff_iff];simp only[beq_iff_eq];cases a<;>cases b<;>simp[iEq,GP,GO,Nat.beq_eq]<;>omega
def GR(m:Nat)(b:Int):Bool:=Int.rec (motive:=λ_=>Bool) (λn=>Nat.blt m n) (λ_=>false) b
def GQ(m:Nat)(b:Int):Bool:=Int.rec (motive:=λ_=>Bool) (λ_=>true) (λn=>Nat.blt n m) b
def iLt(a b:Int):Bool:=Int.rec (motive:=λ_=>Int->Bool) GR GQ a b
theorem Nw(a b:Int):iLt a b=decide (a<b):=by
 rw[Bool.eq_iff_iff];simp only[decide_eq_true_eq];cases a<;>cases b<;>simp[iLt,GR,GQ,Nat.blt_eq]<;>omega
def topP(k:IntKind):Nat:=IntKind.rec (motive:=λ_=>Nat) 128 32768 2147483648 9223372036854775808 256 65536 4294967296 18446744073709551616 k
def topN(k:IntKind):Nat:=IntKind.rec (motive:=λ_=>Nat) 128 32768 2147483648 9223372036854775808 0 0 0 0 k
def M6(k:IntKind)(n:Int):Int:=Int.rec (motive:=λ_=>Int) (λm=>bif Nat.blt m (topP k)then .ofNat m else k.wrap (.ofNat m)) (λm=>bif Nat.blt m (topN k)then .negSucc m else k.wrap (.negSucc m)) n
theorem JY(k:IntKind)(n:Int):M6 k n=fG k n:=by cases n<;>cases k<;>rfl
def NV{α:Type}(m:Nat)(f:Nat->α):α:=Nat.rec (motive:=λ_=>α) (f 0) (λn _=>f (Nat.succ n)) m
theorem KI{α:Type}(m:Nat)(f:Nat->α):NV m f=f m:=by cases m<;>rfl
def Ny{α:Type}(m:Int)(f:Int->α):α:=Int.rec (motive:=λ_=>α) (λn=>NV n λn=>f (.ofNat n)) (λn=>NV n λn=>f (.negSucc n)) m
theorem Ky{α:Type}(m:Int)(f:Int->α):Ny m f=f m:=by cases m<;>simp[Ny,KI]
def mkI(k:IntKind)(n:Int):Option Value:=Ny (M6 k n) λn=>some (.int k n)
def F0(k:IntKind)(x y:Int):Option Value:=mkI k (x+y)
def Gb(k:IntKind)(x y:Int):Option Value:=mkI k (x-y)
def F7(k:IntKind)(x y:Int):Option Value:=mkI k (x*y)
def F2(_:IntKind)(x y:Int):Option Value:=some (.bool (iEq x y))
def F8(_:IntKind)(x y:Int):Option Value:=some (.bool (Bool.rec true false (iEq x y)))
def F6(_:IntKind)(x y:Int):Option Value:=some (.bool (iLt x y))
def F5(_:IntKind)(x y:Int):Option Value:=some (.bool (Bool.rec true false (iLt y x)))
def F4(_:IntKind)(x y:Int):Option Value:=some (.bool (iLt y x))
def F3(_:IntKind)(x y:Int):Option Value:=some (.bool (Bool.rec true false (iLt x y)))
def F9(k:IntKind)(x y:Int):Option Value:=arith .quo k x y
def Ga(k:IntKind)(x y:Int):Option Value:=arith .rem k x y
def F1(k:IntKind)(x y:Int):Option Value:=arith .and k x y
def MJ(k:IntKind)(x y:Int):Option Value:=arith .or k x y
def Gc(k:IntKind)(x y:Int):Option Value:=arith .xor k x y
def vN(k:IntKind)(x y:Int):Option Value:=arith .andNot k x y
def HH(k:IntKind)(x:Int)(k':IntKind)(y:Int):Option Value:=Bool.rec none (F0 k x y) (kEq k k')
def HU(k:IntKind)(x:Int)(k':IntKind)(y:Int):Option Value:=Bool.rec none (Gb k x y) (kEq k k')
def HO(k:IntKind)(x:Int)(k':IntKind)(y:Int):Option Value:=Bool.rec none (F7 k x y) (kEq k k')
def HQ(k:IntKind)(x:Int)(k':IntKind)(y:Int):Option Value:=Bool.rec none (F9 k x y) (kEq k k')
def HR(k:IntKind)(x:Int)(k':IntKind)(y:Int):Option Value:=Bool.rec none (Ga k x y) (kEq k k')
def HI(k:IntKind)(x:Int)(k':IntKind)(y:Int):Option Value:=Bool.rec none (F1 k x y) (kEq k k')
def NU(k:IntKind)(x:Int)(k':IntKind)(y:Int):Option Value:=Bool.rec none (MJ k x y) (kEq k k')
def HV(k:IntKind)(x:Int)(k':IntKind)(y:Int):Option Value:=Bool.rec none (Gc k x y) (kEq k k')
def HS(k:IntKind)(x:Int)(_:IntKind)(y:Int):Option Value:=mT .shl k x y
def HT(k:IntKind)(x:Int)(_:IntKind)(y:Int):Option Value:=mT .shr k x y
def uJ(k:IntKind)(x:Int)(k':IntKind)(y:Int):Option Value:=Bool.rec none (vN k x y) (kEq k k')
def HJ(k:IntKind)(x:Int)(k':IntKind)(y:Int):Option Value:=Bool.rec none (F2 k x y) (kEq k k')
def HP(k:IntKind)(x:Int)(k':IntKind)(y:Int):Option Value:=Bool.rec none (F8 k x y) (kEq k k')
def HN(k:IntKind)(x:Int)(k':IntKind)(y:Int):Option Value:=Bool.rec none (F6 k x y) (kEq k k')
def HM(k:IntKind)(x:Int)(k':IntKind)(y:Int):Option Value:=Bool.rec none (F5 k x y) (kEq k k')
def HL(k:IntKind)(x:Int)(k':IntKind)(y:Int):Option Value:=Bool.rec none (F4 k x y) (kEq k k')
def HK(k:IntKind)(x:Int)(k':IntKind)(y:Int):Option Value:=Bool.rec none (F3 k x y) (kEq k k')
def HX(op:BinOp):IntKind->Int->IntKind->Int->Option Value:=BinOp.rec (motive:=λ_=>IntKind->Int->IntKind->Int->Option Value) HH HU HO HQ HR HI NU HV HS HT uJ HJ HP HN HM HL HK op
def NW(op:BinOp)(x y:Value):Option Value:=
 match x with
 | .int k a=>match y with
   | .int k' b=>HX op k a k' b
   |_=>none
 | .string a=>match y with
   | .string b=>Bd op a b
   |_=>none
 |_=>none
theorem Gj{α:Type}(x y:α)(b:Bool):(Bool.rec x y b:α)=bif b then y else x:=by cases b<;>rfl
theorem NP(k:IntKind)(n:Int):mkI k n=some (.int k (fG k n)):=by simp[mkI,Ky,JY]
theorem bN:NW=ah:=by
 funext op x y;unfold NW;split
 ·rename_i k a;split
  ·rename_i k' b;by_cases hk:k=k'
   ·subst hk;cases op<;>simp[HX,ah,HH,HU,HO,HQ,HR,HI,NU,HV,HS,HT,uJ,HJ,HP,HN,HM,HL,HK,F0,Gb,F7,F9,Ga,F1,MJ,Gc,vN,F2,F8,F6,F5,F4,F3,x8,Gj,NP,arith,lP,BE,Nw]
    all_goals first
     |(simp[bne];done)
     |(rw[Bool.eq_iff_iff];simp;done)
     |(rw[Bool.eq_iff_iff];simp;omega)
   ·cases op<;>simp[HX,ah,HH,HU,HO,HQ,HR,HI,NU,HV,HS,HT,uJ,HJ,HP,HN,HM,HL,HK,x8,Gj,hk]
  ·rename_i hy;cases op<;>cases y<;>first|rfl|exact(hy _ _ rfl).elim
 ·split
  ·cases op<;>rfl
  ·rename_i hy;cases op<;>cases y<;>first|rfl|exact(hy _ rfl).elim
 ·rename_i h1 h2;cases op<;>cases x<;>first|rfl|exact(h1 _ _ rfl).elim|exact(h2 _ rfl).elim
def TA(_:Nat):Option Value:=none
def Tz(p:Nat×Value)(_:Env)(ih:Nat->Option Value)(t:Nat):Option Value:=Bool.rec (ih t) (some p.2) (Nat.beq p.1 t)
def geQ(e:Env)(t:Nat):Option Value:=List.rec (motive:=λ_=>Nat->Option Value) TA Tz e t
theorem jy:geQ=geT:=by
 funext e t;induction e with
 |nil=>rfl
 |cons p e ih=>
  obtain⟨k,v⟩:=p;show(Bool.rec (geQ e t) (some v) (Nat.beq k t):Option Value)=_;rw[Gj,ih];rfl
def Qz(t:Nat)(l:Env)(v:Value):Env:=(t,v)::l
def TM(_:Env):Env:=[]
def TL(t:Nat)(_:List Nat)(ih:Env->Env)(e:Env):Env:=Option.rec (motive:=λ_=>Env) (ih e) (Qz t (ih e)) (geQ e t)
def jR(e:Env)(l:List Nat):Env:=List.rec (motive:=λ_=>Env->Env) TM TL l e
theorem jb:jR=cE:=by
 funext e l;induction l with
 |nil=>rfl
 |cons t l ih=>
  show(Option.rec (jR e l) (Qz t (jR e l)) (geQ e t):Env)=_;rw[jy,ih];simp only[cE];cases geT e t<;>rfl
def TD(_:Nat):Option bO:=none
def TC(p:Nat×bO)(_:List (Nat×bO))(ih:Nat->Option bO)(t:Nat):Option bO:=Bool.rec (ih t) (some p.2) (Nat.beq p.1 t)
def goQ(e:List (Nat×bO))(t:Nat):Option bO:=List.rec (motive:=λ_=>Nat->Option bO) TD TC e t
theorem Nt:goQ=eZ:=by
 funext e t;induction e with
 |nil=>rfl
 |cons p e ih=>
  obtain⟨k,v⟩:=p;show(Bool.rec (goQ e t) (some v) (Nat.beq k t):Option bO)=_;rw[Gj,ih];rfl
def lQ(h:Heap)(b:Nat):Option bO:=goQ h.b8 b
theorem bE:lQ=Heap.get:=by funext h b;simp[lQ,Heap.get,Nt]
def TZ(_:Nat)(_:bO):List (Nat×bO):=[]
def TY(p:Nat×bO)(l:List (Nat×bO))(ih:Nat->bO->List (Nat×bO))(t:Nat)(o:bO):List (Nat×bO):=Bool.rec (p::ih t o) ((p.1,o)::l) (Nat.beq p.1 t)
def soQ(e:List (Nat×bO))(t:Nat)(o:bO):List (Nat×bO):=List.rec (motive:=λ_=>Nat->bO->List (Nat×bO)) TZ TY e t o
theorem lV:soQ=iA:=by
 funext e t o;induction e with
 |nil=>rfl
 |cons p e ih=>
  obtain⟨k,v⟩:=p;show(Bool.rec ((k,v)::soQ e t o) ((k,o)::e) (Nat.beq k t):List (Nat×bO))=_;rw[Gj,ih];rfl
def wrQ(h:Heap)(base b:Nat)(o:bO):Heap:={h with b8:=soQ h.b8 b o,log:=bif Nat.blt b base then(bif fB h.log b then h.log else b::h.log)else h.log}
theorem bT:wrQ=Heap.wr:=by funext h base b o;simp[wrQ,Heap.wr,lV]
def evQ(h:Heap)(e:Env)(x:Operand):Option Value:=Operand.rec (motive:=λ_=>Env->Heap->Option Value) (λt e _=>geQ e t) (λv _ _=>some v) (λg _ h=>ev h [] (.global g)) (λf _ _=>some (.func (.func f) #[] #[])) x e h
theorem bP:evQ=ev:=by
 funext h e x;cases x<;>first|rfl|(show geQ e _=_;rw[jy];rfl)
def Ag(h:Heap)(e:Env):List Operand->Option (List Value)
 |[]=>some []
 |x::xs=>match evQ h e x with
  |some v=>match Ag h e xs with
   |some vs=>some (v::vs)
   |none=>none
  |none=>none
theorem bD:Ag=evs:=by
 funext h e l;induction l with
 |nil=>rfl
 |cons x l ih=>(simp only[Ag,evs,bP,ih];rfl)
def Ah(h:Heap)(e:Env)(z:List Value):List (Nat×Nat×Operand)->Option (List Value)
 |[]=>some z
 |(off,size,x)::ps=>match evQ h e x with
  |some v=>bif Nat.beq (bK (cellsOf v)) size&&Nat.ble (off+size) (bK z)then Ah h e (bZ z off (cellsOf v)) ps else none
  |none=>none
theorem bt:Ah=iO:=by
 funext h e z l;induction l generalizing z with
 |nil=>rfl
 |cons p l ih=>obtain⟨a,b,x⟩:=p;(simp only[Ah,iO,bP,ih];rfl)
def rB(e:Env)(g:Option (Nat×Bool)):Option Bool:=
 match g with
 |none=>some true
 |some (t,b)=>match geQ e t with
  |some (.bool x)=>some (x==b)
  |some _=>some false
  |none=>none
theorem gz:rB=bX:=by
 funext e g;cases g with
 |none=>rfl
 |some p=>obtain⟨t,b⟩:=p;(simp only[rB,bX,jy];rfl)
def I7(h:Heap)(e:Env):List (Nat×Option (Option Nat))->Option (List Value)
 |[]=>some []
 |(t,none)::rs=>match geQ e t with
  |some v=>match I7 h e rs with
   |some vs=>some (v::vs)
   |none=>none
  |none=>none
 |(t,some n)::rs=>match geQ e t with
  |some a=>match nT h n a with
   |some v=>match I7 h e rs with
    |some vs=>some (v::vs)
    |none=>none
   |none=>none
  |none=>none
theorem kg:I7=cC:=by
 funext h e l;induction l with
 |nil=>rfl
 |cons p l ih=>
  obtain⟨t,n⟩:=p;cases n<;>(simp only[I7,cC,jy,ih];rfl)
def G9(l:dN)(x y:Value):Option Bool:=
 match l with
 | .i q=>match x with
   | .int k a=>match y with
     | .int k' b=>bif kEq k q&&kEq k' q then some (iEq a b)else none
     |_=>none
   |_=>none
 |l=>iy l x y
theorem He:G9=iy:=by
 funext l x y;unfold G9;split
 ·rename_i q;split
  ·rename_i k a;split
   ·rename_i k' b;simp only[iy,x8,BE,cond_eq_ite,Bool.and_eq_true,decide_eq_true_eq];by_cases h1:k=q<;>by_cases h2:k'=q<;>simp[h1,h2]
   ·rename_i hy;cases y<;>first|rfl|exact(hy _ _ rfl).elim
  ·rename_i hx;cases x<;>first|rfl|exact(hx _ _ rfl).elim
 ·rfl
def mL:List dN->List Value->List Value->Option Bool
 |[],[],[]=>some true
 |l::ls,x::xs,y::ys=>match G9 l x y with
  |some true=>mL ls xs ys
  |some false=>match mL ls xs ys with
   |some _=>some false
   |none=>none
  |none=>none
 |_,_,_=>none
theorem aJ:mL=bG:=by
 funext ls;induction ls with
 |nil=>funext xs ys;cases xs<;>cases ys<;>rfl
 |cons l ls ih=>
  funext xs ys;cases xs<;>cases ys<;>first|rfl|(simp only[mL,bG,He,ih];rfl)
def pM(ag:Bool)(ls:List dN)(k:Value):Bool:=
 match pL k==ag,mL ls (cellsOf k) (cellsOf k)with
 |true,some _=>true
 |_,_=>false
theorem aP:pM=iQ:=by funext ag ls k;(simp only[pM,iQ,aJ];rfl)
def BH(ag:Bool)(ls:List dN)(k k':Value):Option Bool:=
 match pL k'==ag with
 |true=>mL ls (cellsOf k) (cellsOf k')
 |false=>none
theorem Eh:BH=lZ:=by funext ag ls k k';(simp only[BH,lZ,aJ];rfl)
def vX(ag:Bool)(ls:List dN)(k:Value):Nat->List (Value×Value)->Option (Option (Nat×Value))
 |_,[]=>some none
 |i,(k',v)::es=>match BH ag ls k k' with
  |some true=>some (some (i,v))
  |some false=>vX ag ls k (i+1) es
  |none=>none
theorem bw:vX=jq:=by
 funext ag ls k i es;induction es generalizing i with
 |nil=>rfl
 |cons p es ih=>obtain⟨a,b⟩:=p;(simp only[vX,jq,Eh,ih];rfl)
def zk(x y:Value):Bool:=
 match x with
 | .int k a=>match y with
   | .int k' b=>kEq k k'&&iEq a b
   |_=>false
 |x=>jU x y
theorem wM:zk=jU:=by
 funext x y;unfold zk;split
 ·rename_i k a;split
  ·rename_i k' b;simp only[jU,x8,BE];by_cases h:k=k'<;>simp[h]
  ·rename_i hy;cases y<;>first|rfl|exact(hy _ _ rfl).elim
 ·rfl
def Hj(h:Heap)(n:Option Nat):Value->Option Value
 | .pointer (some ⟨b,o,none⟩)=>match lQ h b with
   |some (.cells vs _ _)=>match n with
    |none=>aT vs o
    |some n=>let l:=bB n (bA o vs);bif Nat.beq (bK l) n then some (.agg l.toArray)else none
   |_=>none
 |_=>none
def Cx(h:Heap)(base n:Nat)(v:Value):Value->Option Heap
 | .pointer (some ⟨b,o,none⟩)=>match lQ h b with
   |some (.cells vs true sz)=>bif Nat.beq (bK (cellsOf v)) n&&Nat.ble (o+n) (bK vs)&&cK (cellsOf v)then some (wrQ h base b (.cells (bZ vs o (cellsOf v)) true sz))else none
   |_=>none
 |_=>none
def Bz(h:Heap)(e:Env)(dflt:Nat):Option Operand->Option Nat
 |none=>some dflt
 |some x=>match evQ h e x with
  |some v=>nV v
  |none=>none
def zu(h:Heap)(e:Env)(size:Nat)(a:Option Addr)(len cap:Nat)(lo hi mx:Option Operand):Option (Value×Heap):=
 match Bz h e 0 lo,Bz h e len hi with
 |some l,some u=>
  match mx with
  |some _=>match Bz h e 0 mx with
   |some m=>bif Nat.ble l u&&Nat.ble u m&&Nat.ble m (bif Nat.beq cap UNK then len else cap)&&Nat.blt m UNK then
    some (.slice (bif Nat.beq m l then a else match a with|some ⟨b,o,none⟩=>some ⟨b,o+l*size,none⟩|a=>a) (u-l) (m-l),h)
    else none
   |none=>none
  |none=>
   bif Nat.beq cap UNK then
    match a with
    |some ⟨b,o,none⟩=>match lQ h b with
     |some (.cells vs _ sz)=>
      bif Nat.beq sz size&&Nat.ble l u&&(Nat.ble u len||Nat.ble (o+u*size) (bK vs))then
       bif Nat.blt l len||Nat.blt l u then some (.slice (some ⟨b,o+l*size,none⟩) (u-l) UNK,h)
       else bif Nat.beq l 0 then some (.slice (some ⟨b,o,none⟩) 0 UNK,h)
       else some (.slice (some ⟨h.next,0,none⟩) 0 UNK,h.push (.cells [] false size))
      else none
     |_=>none
    |_=>none
   else bif Nat.ble l u&&Nat.ble u cap then
    some (.slice (bif Nat.beq cap l then a else match a with|some ⟨b,o,none⟩=>some ⟨b,o+l*size,none⟩|a=>a) (u-l) (cap-l),h)
    else none
 |_,_=>none
def LM(h:Heap)(size:Nat):Value->Option (List Value×Nat)
 | .slice none n _=>bif Nat.beq n 0 then some ([],0)else none
 | .slice (some ⟨b,o,none⟩) n _=>match lQ h b with
   |some (.cells vs _ _)=>let l:=bB (n*size) (bA o vs);bif Nat.beq (bK l) (n*size)then some (l,n)else none
   |_=>none
 | .slice (some ⟨_,_,some _⟩) n _=>bif Nat.beq n 0 then some ([],0)else none
 | .string s=>bif Nat.beq size 1 then some (s.data.toList.map λb=> .int .u8 b.toNat,s.size)else none
 |_=>none
def tA(h:Heap)(base size bytes:Nat)(s:Value)(new:List Value)(n:Nat):Option (Value×Heap):=
 match s with
 | .slice a len cap=>
   bif Nat.beq n 0 then(bif Nat.ble len cap then some (s,h)else none)else
   bif Nat.ble ((2*(len+n)+768)*bytes) 281474976710656 then
    match a with
    |none=>bif Nat.beq len 0&&Nat.beq cap 0 then some (.slice (some ⟨h.next,0,none⟩) n UNK,h.push (.cells new true size))else none
    |some ⟨b,o,none⟩=>match lQ h b with
     |some (.cells vs own sz)=>
      bif Nat.beq cap UNK then
       bif own&&Nat.beq sz size then
        bif Nat.ble (o+(len+n)*size) (bK vs)&&cK new then
         some (.slice (some ⟨b,o,none⟩) (len+n) UNK,wrQ h base b (.cells (bZ vs (o+len*size) new) true sz))
        else bif Nat.beq o 0&&Nat.beq (len*size) (bK vs)&&cK new then
         some (.slice (some ⟨h.next,0,none⟩) (len+n) UNK,(wrQ h base b .dead).push (.cells (dP vs new) true size))
        else none
       else none
      else bif Nat.ble (len+n) cap then
       bif own&&Nat.ble (o+(len+n)*size) (bK vs)&&cK new then
        some (.slice (some ⟨b,o,none⟩) (len+n) cap,wrQ h base b (.cells (bZ vs (o+len*size) new) true sz))
       else none
      else bif Nat.ble (o+len*size) (bK vs)then
       some (.slice (some ⟨h.next,0,none⟩) (len+n) UNK,h.push (.cells (dP (bB (len*size) (bA o vs)) new) true size))
      else none
     |_=>none
    |_=>none
   else none
 |_=>none
theorem aU:Hj=nT:=by
 funext h n v;unfold Hj nT;simp only[bP,bD,bt,bN,bw,aP,aJ,bE,bT];rfl
theorem aZ:Cx=pW:=by
 funext h base n v x;unfold Cx pW;simp only[bP,bD,bt,bN,bw,aP,aJ,bE,bT];rfl
theorem bU:Bz=bnd:=by
 funext h e d x;unfold Bz bnd;simp only[bP,bD,bt,bN,bw,aP,aJ,bE,bT];rfl
theorem aY:zu=jL:=by
 funext h e size a len cap lo hi mx;unfold zu jL;simp only[bP,bD,bt,bN,bw,aP,aJ,bE,bT,bU];rfl
theorem b9:LM=fE:=by
 funext h size v;unfold LM fE;simp only[bP,bD,bt,bN,bw,aP,aJ,bE,bT];rfl
theorem aN:tA=jF:=by
 funext h base size bytes s new n;unfold tA jF;simp only[bP,bD,bt,bN,bw,aP,aJ,bE,bT];rfl
def IK(h:Heap)(base:Nat)(e:Env)(x:Operand):Option cN:=cM (evQ h e x) λv=>some (.val v h)
def Cl(h:Heap)(base:Nat)(e:Env)(c:Operand)(a:Operand)(b:Operand):Option cN:=match evQ h e c with
 |some (.bool true)=>cM (evQ h e a) λv=>some (.val v h)
 |some (.bool false)=>cM (evQ h e b) λv=>some (.val v h)
 |_=>none
def IL(h:Heap)(base:Nat)(e:Env)(z:List Value):Option cN:=some (.val (.pointer (some ⟨h.next,0,none⟩)) (h.push (.cells z true 1)))
def IG(h:Heap)(base:Nat)(e:Env)(x:Operand):Option cN:=cM (evQ h e x) λv=>some (.val (.pointer (some ⟨h.next,0,none⟩)) (h.push (.cells (cellsOf v) true 1)))
def yR(h:Heap)(base:Nat)(e:Env)(z:List Value)(ps:List (Nat×Nat×Operand)):Option cN:=match Ah h e z ps with
 |some cs=>some (.val (.agg cs.toArray) h)
 |none=>none
def uU(h:Heap)(base:Nat)(e:Env)(z:List Value)(n:Nat)(ps:List (Nat×Nat×Operand)):Option cN:=match Ah h e (fR n z) ps with
 |some cs=>some (.val (.slice (some ⟨h.next,0,none⟩) n n) (h.push (.cells cs true (bK z))))
 |none=>none
def Cj(h:Heap)(base:Nat)(e:Env)(n:Option Nat)(a:Operand):Option cN:=cM (evQ h e a) λa=>cM (Hj h n a) λv=>some (.val v h)
def zf(h:Heap)(base:Nat)(e:Env)(n:Nat)(a:Operand)(v:Operand):Option cN:=cM (evQ h e a) λa=>cM (evQ h e v) λv=>match Cx h base n v a with
 |some h'=>some (.val (.tuple #[]) h')
 |none=>none
def va(h:Heap)(base:Nat)(e:Env)(x:Operand):Option cN:=cM (evQ h e x) λv=>match v with
 | .pointer none| .nilIface| .nilFunc=>none
 | .func (.method _) _ _=>none
 |v=>some (.val v h)
def IF(h:Heap)(base:Nat)(e:Env):Bl->Operand->Operand->Option cN
 |(.num op),x,y=>cM (evQ h e x) λx=>cM (evQ h e y) λy=>cM (NW op x y) λv=>some (.val v h)
 |(.beq neq),x,y=>match evQ h e x,evQ h e y with
  |some (.bool a),some (.bool b)=>some (.val (.bool (bif neq then !(a==b)else a==b)) h)
  |_,_=>none
 |(.nil k neq),x,y=>cM (evQ h e x) λx=>cM (evQ h e y) λy=>match pe k x y with
  |some b=>some (.val (.bool (bif neq then !b else b)) h)
  |none=>none
 |(.agg neq ls),x,y=>cM (evQ h e x) λx=>cM (evQ h e y) λy=>match x,y with
  | .agg xs, .agg ys=>match mL ls xs.toList ys.toList with
    |some b=>some (.val (.bool (bif neq then !b else b)) h)
    |none=>none
  |_,_=>none
def Ov(h:Heap)(base:Nat)(e:Env)(op:UnOp)(x:Operand):Option cN:=cM (evQ h e x) λx=>cM (ry op x) λv=>some (.val v h)
def Cd(h:Heap)(base:Nat)(e:Env)(c:Cv)(x:Operand):Option cN:=cM (evQ h e x) λx=>gV (o7 h c x)
def sq(h:Heap)(base:Nat)(e:Env)(t:TypeId)(x:Operand):Option cN:=cM (evQ h e x) λv=>some (.val (.iface t v) h)
def u9(h:Heap)(base:Nat)(e:Env)(fn:Fn)(fs:List Operand)(cs:List Operand):Option cN:=match Ag h e fs,Ag h e cs with
 |some fs,some cs=>some (.val (.func fn fs.toArray cs.toArray) h)
 |_,_=>none
def za(h:Heap)(base:Nat)(e:Env):Option cN:=some (.val (.map (some h.next)) (h.push (.map [])))
def sr(h:Heap)(base:Nat)(e:Env)(z:List Value)(bytes:Nat)(l:Operand)(c:Operand):Option cN:=match evQ h e l,evQ h e c with
 |some l,some c=>match nV l,nV c with
  |some l,some c=>bif Nat.ble l c&&Nat.ble (bytes*c) 281474976710656&&Nat.blt c UNK then
   some (.val (.slice (some ⟨h.next,0,none⟩) l c) (h.push (.cells (fR c z) true (bK z))))
   else none
  |_,_=>none
 |_,_=>none
def ze(h:Heap)(base:Nat)(e:Env):ASl->Operand->Option Operand->Option Operand->Option Operand->Option cN
 | .str,x,lo,hi,none=>match evQ h e x with
   |some (.string s)=>match Bz h e 0 lo,Bz h e s.size hi with
    |some l,some u=>bif Nat.ble l u&&Nat.ble u s.size then some (.val (.string (s.extract l u)) h)else none
    |_,_=>none
   |_=>none
 |(.sl size),x,lo,hi,mx=>match evQ h e x with
  |some (.slice a len cap)=>gV (zu h e size a len cap lo hi mx)
  |_=>none
 |(.arr n size),x,lo,hi,mx=>match evQ h e x with
  |some (.pointer (some a))=>gV (zu h e size (some a) n n lo hi mx)
  |_=>none
 | .str,_,_,_,(some _)=>none
def y7(h:Heap)(base:Nat)(e:Env)(off:Nat)(x:Operand):Option cN:=match evQ h e x with
 |some (.pointer (some ⟨b,o,none⟩))=>some (.val (.pointer (some ⟨b,o+off,none⟩)) h)
 |_=>none
def y8(h:Heap)(base:Nat)(e:Env)(off:Nat)(n:Option Nat)(x:Operand):Option cN:=match evQ h e x with
 |some (.agg cs)=>match n with
  |none=>cM (aT cs.toList off) λv=>some (.val v h)
  |some n=>let l:=bB n (bA off cs.toList);bif Nat.beq (bK l) n then some (.val (.agg l.toArray) h)else none
 |_=>none
def uW(h:Heap)(base:Nat)(e:Env)(len:Nat)(size:Nat)(x:Operand)(i:Operand):Option cN:=match evQ h e x,evQ h e i with
 |some (.pointer (some ⟨b,o,none⟩)),some (.int _ (.ofNat i))=>bif Nat.blt i len then some (.val (.pointer (some ⟨b,o+i*size,none⟩)) h)else none
 |_,_=>none
def uX(h:Heap)(base:Nat)(e:Env)(size:Nat)(x:Operand)(i:Operand):Option cN:=match evQ h e x,evQ h e i with
 |some (.slice (some ⟨b,o,none⟩) len _),some (.int _ (.ofNat i))=>bif Nat.blt i len then some (.val (.pointer (some ⟨b,o+i*size,none⟩)) h)else none
 |_,_=>none
def Ch(h:Heap)(base:Nat)(e:Env)(len:Nat)(size:Nat)(n:Option Nat)(x:Operand)(i:Operand):Option cN:=match evQ h e x,evQ h e i with
 |some (.agg cs),some (.int _ (.ofNat i))=>bif Nat.blt i len then
  match n with
  |none=>cM (aT cs.toList (i*size)) λv=>some (.val v h)
  |some n=>let l:=bB n (bA (i*size) cs.toList);bif Nat.beq (bK l) n then some (.val (.agg l.toArray) h)else none
  else none
 |_,_=>none
def Ci(h:Heap)(base:Nat)(e:Env)(x:Operand)(i:Operand):Option cN:=match evQ h e x,evQ h e i with
 |some (.string s),some (.int _ (.ofNat i))=>match aT s.data.toList i with
  |some b=>some (.val (.int .u8 b.toNat) h)
  |none=>none
 |_,_=>none
def u0(h:Heap)(base:Nat)(e:Env)(ag:Bool)(ls:List dN)(z:Value)(ok:Bool)(m:Operand)(k:Operand):Option cN:=match evQ h e m,evQ h e k with
 |some (.map none),some k=>bif pM ag ls k then some (.val (bif ok then .tuple #[z, .bool false]else z) h)else none
 |some (.map (some r)),some k=>match uD (lQ h r)with
  |some es=>bif pM ag ls k then match vX ag ls k 0 es with
   |some (some (_,v))=>some (.val (bif ok then .tuple #[v, .bool true]else v) h)
   |some none=>some (.val (bif ok then .tuple #[z, .bool false]else z) h)
   |none=>none else none
  |none=>none
 |_,_=>none
def y9(h:Heap)(base:Nat)(e:Env)(ag:Bool)(ls:List dN)(m:Operand)(k:Operand)(v:Operand):Option cN:=match evQ h e m,evQ h e k,evQ h e v with
 |some (.map (some r)),some k,some v=>match lQ h r with
  |some (.map es)=>bif pM ag ls k then match vX ag ls k 0 es with
   |some (some (i,_))=>some (.val (.tuple #[]) (wrQ h base r (.map (qD es i (k,v)))))
   |some none=>some (.val (.tuple #[]) (wrQ h base r (.map (dP es [(k,v)]))))
   |none=>none else none
  |_=>none
 |_,_,_=>none
def sA(h:Heap)(base:Nat)(e:Env)(t:TypeId)(ok:Bool)(z:Value)(x:Operand):Option cN:=match evQ h e x with
 |some .nilIface=>bif ok then some (.val (.tuple #[z, .bool false]) h)else none
 |some (.iface t' v)=>if t'=t then some (.val (bif ok then .tuple #[v, .bool true]else v) h)
  else bif ok then some (.val (.tuple #[z, .bool false]) h)else none
 |_=>none
def sj(h:Heap)(base:Nat)(e:Env)(t:Operand)(i:Nat):Option cN:=match evQ h e t with
 |some (.tuple vs)=>cM (aT vs.toList i) λv=>some (.val v h)
 |_=>none
def Cc(h:Heap)(base:Nat)(e:Env)(f:Operand)(args:List Operand):Option cN:=match evQ h e f,Ag h e args with
 |some f,some args=>nO f args h
 |_,_=>none
def uY(h:Heap)(base:Nat)(e:Env):Nat->Operand->Option cN
 |0,x=>match evQ h e x with
  |some (.string s)=>some (.val (.int .i64 s.size) h)
  |_=>none
 |1,x=>match evQ h e x with
  |some (.slice _ n _)=>some (.val (.int .i64 n) h)
  |_=>none
 |_,x=>match evQ h e x with
  |some (.map none)=>some (.val (.int .i64 0) h)
  |some (.map (some r))=>match uD (lQ h r)with
   |some es=>some (.val (.int .i64 (bK es)) h)
   |none=>none
  |_=>none
def uZ(h:Heap)(base:Nat)(e:Env)(n:Nat):Option cN:=some (.val (.int .i64 n) h)
def II(h:Heap)(base:Nat)(e:Env)(x:Operand):Option cN:=match evQ h e x with
 |some (.slice _ _ c)=>bif Nat.beq c UNK then none else some (.val (.int .i64 c) h)
 |_=>none
def uT(h:Heap)(base:Nat)(e:Env)(size:Nat)(bytes:Nat)(s:Operand)(x:Operand):Option cN:=match evQ h e s,evQ h e x with
 |some s,some x=>match LM h size x with
  |some (l,n)=>gV (tA h base size bytes s l n)
  |none=>none
 |_,_=>none
def si(h:Heap)(base:Nat)(e:Env)(z:List Value)(bytes:Nat)(s:Operand)(n:Operand):Option cN:=match evQ h e s,evQ h e n with
 |some s,some n=>match nV n with
  |some n=>bif Nat.blt n 9223372036854775808&&Nat.ble (n*bytes) 281474976710656 then gV (tA h base (bK z) bytes s (fR n z) n)else none
  |none=>none
 |_,_=>none
def Cf(h:Heap)(base:Nat)(e:Env)(size:Nat)(d:Operand)(s:Operand):Option cN:=match evQ h e d,evQ h e s with
 |some (.slice a dl _),some s=>match LM h size s with
  |some (l,n)=>
   let m:=Nat.min n dl
   match a with
   |none=>some (.val (.int .i64 m) h)
   |some ⟨b,o,none⟩=>match lQ h b with
    |some (.cells vs true sz)=>bif Nat.ble (o+m*size) (bK vs)&&cK (bB (m*size) l)then
     some (.val (.int .i64 m) (wrQ h base b (.cells (bZ vs o (bB (m*size) l)) true sz)))
     else none
    |_=>none
   |_=>none
  |none=>none
 |_,_=>none
def yZ(h:Heap)(base:Nat)(e:Env)(z:List Value)(x:Operand):Option cN:=match evQ h e x with
 |some (.slice a n _)=>
  bif Nat.beq n 0 then some (.val (.tuple #[]) h)else
  match a with
  |none=>some (.val (.tuple #[]) h)
  |some ⟨b,o,none⟩=>match lQ h b with
   |some (.cells vs true sz)=>bif Nat.ble (o+bK (fR n z)) (bK vs)&&cK (fR n z)then some (.val (.tuple #[]) (wrQ h base b (.cells (bZ vs o (fR n z)) true sz)))else none
   |_=>none
  |_=>none
 |_=>none
def u6(h:Heap)(base:Nat)(e:Env)(mx:Bool)(args:List Operand):Option cN:=match Ag h e args with
 |some (x::l)=>cM (mmA mx x l) λv=>some (.val v h)
 |_=>none
def uV(h:Heap)(base:Nat)(e:Env)(ag:Bool)(ls:List dN)(m:Operand)(k:Operand):Option cN:=match evQ h e m,evQ h e k with
 |some (.map (some r)),some k=>match lQ h r with
  |some (.map es)=>bif pM ag ls k then match vX ag ls k 0 es with
   |some (some (i,_))=>some (.val (.tuple #[]) (wrQ h base r (.map (Ar es i))))
   |some none=>some (.val (.tuple #[]) (wrQ h base r (.map es)))
   |none=>none else none
  |_=>none
 |some (.map none),some k=>bif pM ag ls k then some (.val (.tuple #[]) h)else none
 |_,_=>none
def Cg(h:Heap)(base:Nat)(e:Env)(f:Operand)(args:List Operand):Option cN:=match evQ h e f,Ag h e args with
 |some (.func (.func g) first cap),some args=>some (.jv (.func (.func g) first cap) args)
 |_,_=>none
def sw(h:Heap)(base:Nat)(e:Env):Option cN:=some .recover
def Cm(h:Heap)(base:Nat)(e:Env)(x:Operand):Option cN:=cM (evQ h e x) λv=>match v with
 | .iface _ _=>some (.panic v h)
 |_=>none
def zb(h:Heap)(base:Nat)(e:Env)(x:Operand):Option cN:=match evQ h e x with
 |some (.string s)=>some (.val (.pointer (some ⟨h.next,0,none⟩)) (h.push (.j7 s 0)))
 |_=>none
def Ck(h:Heap)(base:Nat)(e:Env):Operand->Bool->Option cN
 |x,true=>match evQ h e x with
  |some (.pointer (some ⟨r,0,none⟩))=>match lQ h r with
   |some (.j7 s pos)=>bif Nat.blt pos s.size then
    let d:=Utf8.decode s pos
    some (.val (.tuple #[.bool true, .int .i64 pos, .int .i32 d.1]) (wrQ h base r (.j7 s (pos+d.2))))
    else some (.val (.tuple #[.bool false]) h)
   |_=>none
  |_=>none
 |_,false=>none
def vc(h:Heap)(base:Nat)(e:Env)(_:Operand):Option cN:=none
def y6(h:Heap)(base:Nat)(e:Env)(_:Operand):Option cN:=none
def Q0(x0:Operand)(h:Heap)(base:Nat)(e:Env):Option cN:=IK h base e x0
def OE(x0:Operand)(x1:Operand)(x2:Operand)(h:Heap)(base:Nat)(e:Env):Option cN:=Cl h base e x0 x1 x2
def Q3(x0:List Value)(h:Heap)(base:Nat)(e:Env):Option cN:=IL h base e x0
def QX(x0:Operand)(h:Heap)(base:Nat)(e:Env):Option cN:=IG h base e x0
def Lg(x0:List Value)(x1:List (Nat×Nat×Operand))(h:Heap)(base:Nat)(e:Env):Option cN:=yR h base e x0 x1
def IP(x0:List Value)(x1:Nat)(x2:List (Nat×Nat×Operand))(h:Heap)(base:Nat)(e:Env):Option cN:=uU h base e x0 x1 x2
def OC(x0:Option Nat)(x1:Operand)(h:Heap)(base:Nat)(e:Env):Option cN:=Cj h base e x0 x1
def Lq(x0:Nat)(x1:Operand)(x2:Operand)(h:Heap)(base:Nat)(e:Env):Option cN:=zf h base e x0 x1 x2
def IY(x0:Operand)(h:Heap)(base:Nat)(e:Env):Option cN:=va h base e x0
def QW(x0:Bl)(x1:Operand)(x2:Operand)(h:Heap)(base:Nat)(e:Env):Option cN:=IF h base e x0 x1 x2
def TW(x0:UnOp)(x1:Operand)(h:Heap)(base:Nat)(e:Env):Option cN:=Ov h base e x0 x1
def Ox(x0:Cv)(x1:Operand)(h:Heap)(base:Nat)(e:Env):Option cN:=Cd h base e x0 x1
def EO(x0:TypeId)(x1:Operand)(h:Heap)(base:Nat)(e:Env):Option cN:=sq h base e x0 x1
def IX(x0:Fn)(x1:List Operand)(x2:List Operand)(h:Heap)(base:Nat)(e:Env):Option cN:=u9 h base e x0 x1 x2
def Ln(h:Heap)(base:Nat)(e:Env):Option cN:=za h base e
def EP(x0:List Value)(x1:Nat)(x2:Operand)(x3:Operand)(h:Heap)(base:Nat)(e:Env):Option cN:=sr h base e x0 x1 x2 x3
def Lp(x0:ASl)(x1:Operand)(x2:Option Operand)(x3:Option Operand)(x4:Option Operand)(h:Heap)(base:Nat)(e:Env):Option cN:=ze h base e x0 x1 x2 x3 x4
def Lj(x0:Nat)(x1:Operand)(h:Heap)(base:Nat)(e:Env):Option cN:=y7 h base e x0 x1
def Ll(x0:Nat)(x1:Option Nat)(x2:Operand)(h:Heap)(base:Nat)(e:Env):Option cN:=y8 h base e x0 x1 x2
def IS(x0:Nat)(x1:Nat)(x2:Operand)(x3:Operand)(h:Heap)(base:Nat)(e:Env):Option cN:=uW h base e x0 x1 x2 x3
def IT(x0:Nat)(x1:Operand)(x2:Operand)(h:Heap)(base:Nat)(e:Env):Option cN:=uX h base e x0 x1 x2
def OA(x0:Nat)(x1:Nat)(x2:Option Nat)(x3:Operand)(x4:Operand)(h:Heap)(base:Nat)(e:Env):Option cN:=Ch h base e x0 x1 x2 x3 x4
def OB(x0:Operand)(x1:Operand)(h:Heap)(base:Nat)(e:Env):Option cN:=Ci h base e x0 x1
def IV(x0:Bool)(x1:List dN)(x2:Value)(x3:Bool)(x4:Operand)(x5:Operand)(h:Heap)(base:Nat)(e:Env):Option cN:=u0 h base e x0 x1 x2 x3 x4 x5
def Lm(x0:Bool)(x1:List dN)(x2:Operand)(x3:Operand)(x4:Operand)(h:Heap)(base:Nat)(e:Env):Option cN:=y9 h base e x0 x1 x2 x3 x4
def ES(x0:TypeId)(x1:Bool)(x2:Value)(x3:Operand)(h:Heap)(base:Nat)(e:Env):Option cN:=sA h base e x0 x1 x2 x3
def EN(x0:Operand)(x1:Nat)(h:Heap)(base:Nat)(e:Env):Option cN:=sj h base e x0 x1
def Ow(x0:Operand)(x1:List Operand)(h:Heap)(base:Nat)(e:Env):Option cN:=Cc h base e x0 x1
def QZ(x0:Nat)(x1:Operand)(h:Heap)(base:Nat)(e:Env):Option cN:=uY h base e x0 x1
def IU(x0:Nat)(h:Heap)(base:Nat)(e:Env):Option cN:=uZ h base e x0
def QY(x0:Operand)(h:Heap)(base:Nat)(e:Env):Option cN:=II h base e x0
def IN(x0:Nat)(x1:Nat)(x2:Operand)(x3:Operand)(h:Heap)(base:Nat)(e:Env):Option cN:=uT h base e x0 x1 x2 x3
def EM(x0:List Value)(x1:Nat)(x2:Operand)(x3:Operand)(h:Heap)(base:Nat)(e:Env):Option cN:=si h base e x0 x1 x2 x3
def Oy(x0:Nat)(x1:Operand)(x2:Operand)(h:Heap)(base:Nat)(e:Env):Option cN:=Cf h base e x0 x1 x2
def Lh(x0:List Value)(x1:Operand)(h:Heap)(base:Nat)(e:Env):Option cN:=yZ h base e x0 x1
def IW(x0:Bool)(x1:List Operand)(h:Heap)(base:Nat)(e:Env):Option cN:=u6 h base e x0 x1
def IQ(x0:Bool)(x1:List dN)(x2:Operand)(x3:Operand)(h:Heap)(base:Nat)(e:Env):Option cN:=uV h base e x0 x1 x2 x3
def Oz(x0:Operand)(x1:List Operand)(h:Heap)(base:Nat)(e:Env):Option cN:=Cg h base e x0 x1
def ER(h:Heap)(base:Nat)(e:Env):Option cN:=sw h base e
def OF(x0:Operand)(h:Heap)(base:Nat)(e:Env):Option cN:=Cm h base e x0
def Lo(x0:Operand)(h:Heap)(base:Nat)(e:Env):Option cN:=zb h base e x0
def OD(x0:Operand)(x1:Bool)(h:Heap)(base:Nat)(e:Env):Option cN:=Ck h base e x0 x1
def IZ(x0:Operand)(h:Heap)(base:Nat)(e:Env):Option cN:=vc h base e x0
def Li(x0:Operand)(h:Heap)(base:Nat)(e:Env):Option cN:=y6 h base e x0
def RA(o:AOp):Heap->Nat->Env->Option cN:=AOp.rec (motive:=λ_=>Heap->Nat->Env->Option cN) Q0 OE Q3 QX Lg IP OC Lq IY QW TW Ox EO IX Ln EP Lp Lj Ll IS IT OA OB IV Lm ES EN Ow QZ IU QY IN EM Oy Lh IW IQ Oz ER OF Lo OD IZ Li o
def Bu(h:Heap)(base:Nat)(e:Env)(o:AOp):Option cN:=RA o h base e
theorem jE:Bu=aop:=by
 funext h base e o;cases o;case mov x0=>show IK h base e x0=_;first|rfl|(unfold IK;simp only[bP,bD,bt,bN,bw,aP,aJ,bE,bT,bU,aU,aZ,aY,b9,aN];rfl)
 case pick x0 x1 x2=>show Cl h base e x0 x1 x2=_;first|rfl|(unfold Cl;simp only[bP,bD,bt,bN,bw,aP,aJ,bE,bT,bU,aU,aZ,aY,b9,aN];rfl)
 case new x0=>show IL h base e x0=_;first|rfl|(unfold IL;simp only[bP,bD,bt,bN,bw,aP,aJ,bE,bT,bU,aU,aZ,aY,b9,aN];rfl)
 case box x0=>show IG h base e x0=_;first|rfl|(unfold IG;simp only[bP,bD,bt,bN,bw,aP,aJ,bE,bT,bU,aU,aZ,aY,b9,aN];rfl)
 case build x0 x1=>show yR h base e x0 x1=_;first|rfl|(unfold yR;simp only[bP,bD,bt,bN,bw,aP,aJ,bE,bT,bU,aU,aZ,aY,b9,aN];rfl)
 case dh x0 x1 x2=>show uU h base e x0 x1 x2=_;first|rfl|(unfold uU;simp only[bP,bD,bt,bN,bw,aP,aJ,bE,bT,bU,aU,aZ,aY,b9,aN];rfl)
 case load x0 x1=>show Cj h base e x0 x1=_;first|rfl|(unfold Cj;simp only[bP,bD,bt,bN,bw,aP,aJ,bE,bT,bU,aU,aZ,aY,b9,aN];rfl)
 case store x0 x1 x2=>show zf h base e x0 x1 x2=_;first|rfl|(unfold zf;simp only[bP,bD,bt,bN,bw,aP,aJ,bE,bT,bU,aU,aZ,aY,b9,aN];rfl)
 case bC x0=>show va h base e x0=_;first|rfl|(unfold va;simp only[bP,bD,bt,bN,bw,aP,aJ,bE,bT,bU,aU,aZ,aY,b9,aN];rfl)
 case un x0 x1=>show Ov h base e x0 x1=_;first|rfl|(unfold Ov;simp only[bP,bD,bt,bN,bw,aP,aJ,bE,bT,bU,aU,aZ,aY,b9,aN];rfl)
 case conv x0 x1=>show Cd h base e x0 x1=_;first|rfl|(unfold Cd;simp only[bP,bD,bt,bN,bw,aP,aJ,bE,bT,bU,aU,aZ,aY,b9,aN];rfl)
 case ia x0 x1=>show sq h base e x0 x1=_;first|rfl|(unfold sq;simp only[bP,bD,bt,bN,bw,aP,aJ,bE,bT,bU,aU,aZ,aY,b9,aN];rfl)
 case dU x0 x1 x2=>show u9 h base e x0 x1 x2=_;first|rfl|(unfold u9;simp only[bP,bD,bt,bN,bw,aP,aJ,bE,bT,bU,aU,aZ,aY,b9,aN];rfl)
 case mkMap=>show za h base e=_;first|rfl|(unfold za;simp only[bP,bD,bt,bN,bw,aP,aJ,bE,bT,bU,aU,aZ,aY,b9,aN];rfl)
 case mkSlice x0 x1 x2 x3=>show sr h base e x0 x1 x2 x3=_;first|rfl|(unfold sr;simp only[bP,bD,bt,bN,bw,aP,aJ,bE,bT,bU,aU,aZ,aY,b9,aN];rfl)
 case bF x0 x1=>show y7 h base e x0 x1=_;first|rfl|(unfold y7;simp only[bP,bD,bt,bN,bw,aP,aJ,bE,bT,bU,aU,aZ,aY,b9,aN];rfl)
 case field x0 x1 x2=>show y8 h base e x0 x1 x2=_;first|rfl|(unfold y8;simp only[bP,bD,bt,bN,bw,aP,aJ,bE,bT,bU,aU,aZ,aY,b9,aN];rfl)
 case bI x0 x1 x2 x3=>show uW h base e x0 x1 x2 x3=_;first|rfl|(unfold uW;simp only[bP,bD,bt,bN,bw,aP,aJ,bE,bT,bU,aU,aZ,aY,b9,aN];rfl)
 case aH x0 x1 x2=>show uX h base e x0 x1 x2=_;first|rfl|(unfold uX;simp only[bP,bD,bt,bN,bw,aP,aJ,bE,bT,bU,aU,aZ,aY,b9,aN];rfl)
 case rW x0 x1 x2 x3 x4=>show Ch h base e x0 x1 x2 x3 x4=_;first|rfl|(unfold Ch;simp only[bP,bD,bt,bN,bw,aP,aJ,bE,bT,bU,aU,aZ,aY,b9,aN];rfl)
 case tv x0 x1=>show Ci h base e x0 x1=_;first|rfl|(unfold Ci;simp only[bP,bD,bt,bN,bw,aP,aJ,bE,bT,bU,aU,aZ,aY,b9,aN];rfl)
 case lookup x0 x1 x2 x3 x4 x5=>show u0 h base e x0 x1 x2 x3 x4 x5=_;first|rfl|(unfold u0;simp only[bP,bD,bt,bN,bw,aP,aJ,bE,bT,bU,aU,aZ,aY,b9,aN];rfl)
 case iE x0 x1 x2 x3 x4=>show y9 h base e x0 x1 x2 x3 x4=_;first|rfl|(unfold y9;simp only[bP,bD,bt,bN,bw,aP,aJ,bE,bT,bU,aU,aZ,aY,b9,aN];rfl)
 case jM x0 x1 x2 x3=>show sA h base e x0 x1 x2 x3=_;first|rfl|(unfold sA;simp only[bP,bD,bt,bN,bw,aP,aJ,bE,bT,bU,aU,aZ,aY,b9,aN];rfl)
 case extract x0 x1=>show sj h base e x0 x1=_;first|rfl|(unfold sj;simp only[bP,bD,bt,bN,bw,aP,aJ,bE,bT,bU,aU,aZ,aY,b9,aN];rfl)
 case call x0 x1=>show Cc h base e x0 x1=_;first|rfl|(unfold Cc;simp only[bP,bD,bt,bN,bw,aP,aJ,bE,bT,bU,aU,aZ,aY,b9,aN];rfl)
 case jA x0=>show uZ h base e x0=_;first|rfl|(unfold uZ;simp only[bP,bD,bt,bN,bw,aP,aJ,bE,bT,bU,aU,aZ,aY,b9,aN];rfl)
 case cap x0=>show II h base e x0=_;first|rfl|(unfold II;simp only[bP,bD,bt,bN,bw,aP,aJ,bE,bT,bU,aU,aZ,aY,b9,aN];rfl)
 case append x0 x1 x2 x3=>show uT h base e x0 x1 x2 x3=_;first|rfl|(unfold uT;simp only[bP,bD,bt,bN,bw,aP,aJ,bE,bT,bU,aU,aZ,aY,b9,aN];rfl)
 case jG x0 x1 x2 x3=>show si h base e x0 x1 x2 x3=_;first|rfl|(unfold si;simp only[bP,bD,bt,bN,bw,aP,aJ,bE,bT,bU,aU,aZ,aY,b9,aN];rfl)
 case copy x0 x1 x2=>show Cf h base e x0 x1 x2=_;first|rfl|(unfold Cf;simp only[bP,bD,bt,bN,bw,aP,aJ,bE,bT,bU,aU,aZ,aY,b9,aN];rfl)
 case clear x0 x1=>show yZ h base e x0 x1=_;first|rfl|(unfold yZ;simp only[bP,bD,bt,bN,bw,aP,aJ,bE,bT,bU,aU,aZ,aY,b9,aN];rfl)
 case dK x0 x1=>show u6 h base e x0 x1=_;first|rfl|(unfold u6;simp only[bP,bD,bt,bN,bw,aP,aJ,bE,bT,bU,aU,aZ,aY,b9,aN];rfl)
 case delete x0 x1 x2 x3=>show uV h base e x0 x1 x2 x3=_;first|rfl|(unfold uV;simp only[bP,bD,bt,bN,bw,aP,aJ,bE,bT,bU,aU,aZ,aY,b9,aN];rfl)
 case jv x0 x1=>show Cg h base e x0 x1=_;first|rfl|(unfold Cg;simp only[bP,bD,bt,bN,bw,aP,aJ,bE,bT,bU,aU,aZ,aY,b9,aN];rfl)
 case recover=>show sw h base e=_;first|rfl|(unfold sw;simp only[bP,bD,bt,bN,bw,aP,aJ,bE,bT,bU,aU,aZ,aY,b9,aN];rfl)
 case sg x0=>show Cm h base e x0=_;first|rfl|(unfold Cm;simp only[bP,bD,bt,bN,bw,aP,aJ,bE,bT,bU,aU,aZ,aY,b9,aN];rfl)
 case range x0=>show zb h base e x0=_;first|rfl|(unfold zb;simp only[bP,bD,bt,bN,bw,aP,aJ,bE,bT,bU,aU,aZ,aY,b9,aN];rfl)
 case lU x0=>show vc h base e x0=_;first|rfl|(unfold vc;simp only[bP,bD,bt,bN,bw,aP,aJ,bE,bT,bU,aU,aZ,aY,b9,aN];rfl)
 case entry x0=>show y6 h base e x0=_;first|rfl|(unfold y6;simp only[bP,bD,bt,bN,bw,aP,aJ,bE,bT,bU,aU,aZ,aY,b9,aN];rfl)
 case bin op x y=>show IF h base e op x y=_;cases op<;>(simp only[IF,aop,bP,bD,bt,bN,bw,aP,aJ,bE,bT,bU,aU,aZ,aY,b9,aN];first|done|rfl)
 case slice k x lo hi mx=>show ze h base e k x lo hi mx=_;cases k<;>cases mx<;>(simp only[ze,aop,bP,bD,bt,bN,bw,aP,aJ,bE,bT,bU,aU,aZ,aY,b9,aN];first|done|rfl)
 case len k x=>
  match k with
  |0=>show uY h base e 0 x=_;simp only[uY,aop,bP,bD,bt,bN,bw,aP,aJ,bE,bT,bU,aU,aZ,aY,b9,aN];first|done|rfl
  |1=>show uY h base e 1 x=_;simp only[uY,aop,bP,bD,bt,bN,bw,aP,aJ,bE,bT,bU,aU,aZ,aY,b9,aN];first|done|rfl
  |k+2=>show uY h base e (k+2) x=_;simp only[uY,aop,bP,bD,bt,bN,bw,aP,aJ,bE,bT,bU,aU,aZ,aY,b9,aN];first|done|rfl
 case next x s=>show Ck h base e x s=_;cases s<;>(simp only[Ck,aop,bP,bD,bt,bN,bw,aP,aJ,bE,bT,bU,aU,aZ,aY,b9,aN];first|done|rfl)
structure Fam where
 exec:Nat->Option Nat->aQ->Env->Dfs->Heap->Option (br×Env×Dfs×Heap)
 ops:Nat->Option Nat->List bg->Env->Dfs->Heap->Option (br×Env×Dfs×Heap)
 draw:Nat->List bg->List Nat->List Nat->List Rec->Env->Heap->Option (br×Env×Heap)
 iX:Fn->List Value->Heap->Option (Res×Heap)
 call:Nat->List Value->Heap->Option (Res×Heap)
 unw:List (Nat×Option (Option Nat))->Dfs->Option Value->Env->Heap->Heap->Option (Res×Heap)
 defer:Nat->List Value->Option Value->Heap->Option (Option Value×Heap)
 gX:Nat->aQ->Env->Option Value->Heap->Option (br×Env×Option Value×Heap)
 lT:Nat->List bg->Env->Option Value->Heap->Option (br×Env×Option Value×Heap)
def Fam.none:Fam where
 exec:=λ_ _ _ _ _ _=> .none
 ops:=λ_ _ _ _ _ _=> .none
 draw:=λ_ _ _ _ _ _ _=> .none
 iX:=λ_ _ _=> .none
 call:=λ_ _ _=> .none
 unw:=λ_ _ _ _ _ _=> .none
 defer:=λ_ _ _ _=> .none
 gX:=λ_ _ _ _ _=> .none
 lT:=λ_ _ _ _ _=> .none
def QS(x0:Operand):List Operand:=cS (.mov x0)
def N5(x0:Operand)(x1:Operand)(x2:Operand):List Operand:=cS (.pick x0 x1 x2)
def QT(x0:List Value):List Operand:=cS (.new x0)
def QM(x0:Operand):List Operand:=cS (.box x0)
def KJ(x0:List Value)(x1:List (Nat×Nat×Operand)):List Operand:=cS (.build x0 x1)
def H6(x0:List Value)(x1:Nat)(x2:List (Nat×Nat×Operand)):List Operand:=cS (.dh x0 x1 x2)
def N3(x0:Option Nat)(x1:Operand):List Operand:=cS (.load x0 x1)
def KV(x0:Nat)(x1:Operand)(x2:Operand):List Operand:=cS (.store x0 x1 x2)
def Ig(x0:Operand):List Operand:=cS (.bC x0)
def QL(x0:Bl)(x1:Operand)(x2:Operand):List Operand:=cS (.bin x0 x1 x2)
def TO(x0:UnOp)(x1:Operand):List Operand:=cS (.un x0 x1)
def NY(x0:Cv)(x1:Operand):List Operand:=cS (.conv x0 x1)
def Ey(x0:TypeId)(x1:Operand):List Operand:=cS (.ia x0 x1)
def Ie(x0:Fn)(x1:List Operand)(x2:List Operand):List Operand:=cS (.dU x0 x1 x2)
def KQ:List Operand:=cS (.mkMap)
def Ez(x0:List Value)(x1:Nat)(x2:Operand)(x3:Operand):List Operand:=cS (.mkSlice x0 x1 x2 x3)
def KU(x0:ASl)(x1:Operand)(x2:Option Operand)(x3:Option Operand)(x4:Option Operand):List Operand:=cS (.slice x0 x1 x2 x3 x4)
def KM(x0:Nat)(x1:Operand):List Operand:=cS (.bF x0 x1)
def KN(x0:Nat)(x1:Option Nat)(x2:Operand):List Operand:=cS (.field x0 x1 x2)
def H8(x0:Nat)(x1:Nat)(x2:Operand)(x3:Operand):List Operand:=cS (.bI x0 x1 x2 x3)
def H9(x0:Nat)(x1:Operand)(x2:Operand):List Operand:=cS (.aH x0 x1 x2)
def N1(x0:Nat)(x1:Nat)(x2:Option Nat)(x3:Operand)(x4:Operand):List Operand:=cS (.rW x0 x1 x2 x3 x4)
def N2(x0:Operand)(x1:Operand):List Operand:=cS (.tv x0 x1)
def Ib(x0:Bool)(x1:List dN)(x2:Value)(x3:Bool)(x4:Operand)(x5:Operand):List Operand:=cS (.lookup x0 x1 x2 x3 x4 x5)
def KP(x0:Bool)(x1:List dN)(x2:Operand)(x3:Operand)(x4:Operand):List Operand:=cS (.iE x0 x1 x2 x3 x4)
def EB(x0:TypeId)(x1:Bool)(x2:Value)(x3:Operand):List Operand:=cS (.jM x0 x1 x2 x3)
def Ex(x0:Operand)(x1:Nat):List Operand:=cS (.extract x0 x1)
def NX(x0:Operand)(x1:List Operand):List Operand:=cS (.call x0 x1)
def QO(x0:Nat)(x1:Operand):List Operand:=cS (.len x0 x1)
def Ia(x0:Nat):List Operand:=cS (.jA x0)
def QN(x0:Operand):List Operand:=cS (.cap x0)
def HZ(x0:Nat)(x1:Nat)(x2:Operand)(x3:Operand):List Operand:=cS (.append x0 x1 x2 x3)
def Ew(x0:List Value)(x1:Nat)(x2:Operand)(x3:Operand):List Operand:=cS (.jG x0 x1 x2 x3)
def NZ(x0:Nat)(x1:Operand)(x2:Operand):List Operand:=cS (.copy x0 x1 x2)
def KK(x0:List Value)(x1:Operand):List Operand:=cS (.clear x0 x1)
def Ic(x0:Bool)(x1:List Operand):List Operand:=cS (.dK x0 x1)
def H7(x0:Bool)(x1:List dN)(x2:Operand)(x3:Operand):List Operand:=cS (.delete x0 x1 x2 x3)
def N0(x0:Operand)(x1:List Operand):List Operand:=cS (.jv x0 x1)
def EA:List Operand:=cS (.recover)
def N6(x0:Operand):List Operand:=cS (.sg x0)
def KT(x0:Operand):List Operand:=cS (.range x0)
def N4(x0:Operand)(x1:Bool):List Operand:=cS (.next x0 x1)
def Ih(x0:Operand):List Operand:=cS (.lU x0)
def KL(x0:Operand):List Operand:=cS (.entry x0)
def yH(o:AOp):List Operand:=AOp.rec (motive:=λ_=>List Operand) QS N5 QT QM KJ H6 N3 KV Ig QL TO NY Ey Ie KQ Ez KU KM KN H8 H9 N1 N2 Ib KP EB Ex NX QO Ia QN HZ Ew NZ KK Ic H7 N0 EA N6 KT N4 Ih KL o
theorem Ca:yH=cS:=by funext o;cases o<;>rfl
def Ri(x0:Operand):Bool:=cF (.mov x0)
def O2(x0:Operand)(x1:Operand)(x2:Operand):Bool:=cF (.pick x0 x1 x2)
def Rj(x0:List Value):Bool:=cF (.new x0)
def Rf(x0:Operand):Bool:=cF (.box x0)
def LN(x0:List Value)(x1:List (Nat×Nat×Operand)):Bool:=cF (.build x0 x1)
def Jt(x0:List Value)(x1:Nat)(x2:List (Nat×Nat×Operand)):Bool:=cF (.dh x0 x1 x2)
def O0(x0:Option Nat)(x1:Operand):Bool:=cF (.load x0 x1)
def LZ(x0:Nat)(x1:Operand)(x2:Operand):Bool:=cF (.store x0 x1 x2)
def JB(x0:Operand):Bool:=cF (.bC x0)
def Re(x0:Bl)(x1:Operand)(x2:Operand):Bool:=cF (.bin x0 x1 x2)
def T2(x0:UnOp)(x1:Operand):Bool:=cF (.un x0 x1)
def OV(x0:Cv)(x1:Operand):Bool:=cF (.conv x0 x1)
def Fe(x0:TypeId)(x1:Operand):Bool:=cF (.ia x0 x1)
def JA(x0:Fn)(x1:List Operand)(x2:List Operand):Bool:=cF (.dU x0 x1 x2)
def LV:Bool:=cF (.mkMap)
def Ff(x0:List Value)(x1:Nat)(x2:Operand)(x3:Operand):Bool:=cF (.mkSlice x0 x1 x2 x3)
def LY(x0:ASl)(x1:Operand)(x2:Option Operand)(x3:Option Operand)(x4:Option Operand):Bool:=cF (.slice x0 x1 x2 x3 x4)
def LQ(x0:Nat)(x1:Operand):Bool:=cF (.bF x0 x1)
def LS(x0:Nat)(x1:Option Nat)(x2:Operand):Bool:=cF (.field x0 x1 x2)
def Jv(x0:Nat)(x1:Nat)(x2:Operand)(x3:Operand):Bool:=cF (.bI x0 x1 x2 x3)
def Jw(x0:Nat)(x1:Operand)(x2:Operand):Bool:=cF (.aH x0 x1 x2)
def OY(x0:Nat)(x1:Nat)(x2:Option Nat)(x3:Operand)(x4:Operand):Bool:=cF (.rW x0 x1 x2 x3 x4)
def OZ(x0:Operand)(x1:Operand):Bool:=cF (.tv x0 x1)
def Jy(x0:Bool)(x1:List dN)(x2:Value)(x3:Bool)(x4:Operand)(x5:Operand):Bool:=cF (.lookup x0 x1 x2 x3 x4 x5)
def LU(x0:Bool)(x1:List dN)(x2:Operand)(x3:Operand)(x4:Operand):Bool:=cF (.iE x0 x1 x2 x3 x4)
def Fh(x0:TypeId)(x1:Bool)(x2:Value)(x3:Operand):Bool:=cF (.jM x0 x1 x2 x3)
def Fc(x0:Operand)(x1:Nat):Bool:=cF (.extract x0 x1)
def OU(x0:Operand)(x1:List Operand):Bool:=cF (.call x0 x1)
def Rh(x0:Nat)(x1:Operand):Bool:=cF (.len x0 x1)
def Jx(x0:Nat):Bool:=cF (.jA x0)
def Rg(x0:Operand):Bool:=cF (.cap x0)
def Js(x0:Nat)(x1:Nat)(x2:Operand)(x3:Operand):Bool:=cF (.append x0 x1 x2 x3)
def Fb(x0:List Value)(x1:Nat)(x2:Operand)(x3:Operand):Bool:=cF (.jG x0 x1 x2 x3)
def OW(x0:Nat)(x1:Operand)(x2:Operand):Bool:=cF (.copy x0 x1 x2)
def LO(x0:List Value)(x1:Operand):Bool:=cF (.clear x0 x1)
def Jz(x0:Bool)(x1:List Operand):Bool:=cF (.dK x0 x1)
def Ju(x0:Bool)(x1:List dN)(x2:Operand)(x3:Operand):Bool:=cF (.delete x0 x1 x2 x3)
def OX(x0:Operand)(x1:List Operand):Bool:=cF (.jv x0 x1)
def Fg:Bool:=cF (.recover)
def O3(x0:Operand):Bool:=cF (.sg x0)
def LW(x0:Operand):Bool:=cF (.range x0)
def O1(x0:Operand)(x1:Bool):Bool:=cF (.next x0 x1)
def JC(x0:Operand):Bool:=cF (.lU x0)
def LP(x0:Operand):Bool:=cF (.entry x0)
def DA(o:AOp):Bool:=AOp.rec (motive:=λ_=>Bool) Ri O2 Rj Rf LN Jt O0 LZ JB Re T2 OV Fe JA LV Ff LY LQ LS Jv Jw OY OZ Jy LU Fh Fc OU Rh Jx Rg Js Fb OW LO Jz Ju OX Fg O3 LW O1 JC LP o
theorem Cn:DA=cF:=by funext o;cases o<;>rfl
def Rr(x0:Operand):Bool:=dw (.mov x0)
def Po(x0:Operand)(x1:Operand)(x2:Operand):Bool:=dw (.pick x0 x1 x2)
def Rs(x0:List Value):Bool:=dw (.new x0)
def Rn(x0:Operand):Bool:=dw (.box x0)
def Mg(x0:List Value)(x1:List (Nat×Nat×Operand)):Bool:=dw (.build x0 x1)
def JN(x0:List Value)(x1:Nat)(x2:List (Nat×Nat×Operand)):Bool:=dw (.dh x0 x1 x2)
def Pm(x0:Option Nat)(x1:Operand):Bool:=dw (.load x0 x1)
def Mp(x0:Nat)(x1:Operand)(x2:Operand):Bool:=dw (.store x0 x1 x2)
def JW(x0:Operand):Bool:=dw (.bC x0)
def Rm(x0:Bl)(x1:Operand)(x2:Operand):Bool:=dw (.bin x0 x1 x2)
def T8(x0:UnOp)(x1:Operand):Bool:=dw (.un x0 x1)
def Pe(x0:Cv)(x1:Operand):Bool:=dw (.conv x0 x1)
def Fu(x0:TypeId)(x1:Operand):Bool:=dw (.ia x0 x1)
def JV(x0:Fn)(x1:List Operand)(x2:List Operand):Bool:=dw (.dU x0 x1 x2)
def Mm:Bool:=dw (.mkMap)
def Fv(x0:List Value)(x1:Nat)(x2:Operand)(x3:Operand):Bool:=dw (.mkSlice x0 x1 x2 x3)
def Mo(x0:ASl)(x1:Operand)(x2:Option Operand)(x3:Option Operand)(x4:Option Operand):Bool:=dw (.slice x0 x1 x2 x3 x4)
def Mj(x0:Nat)(x1:Operand):Bool:=dw (.bF x0 x1)
def Mk(x0:Nat)(x1:Option Nat)(x2:Operand):Bool:=dw (.field x0 x1 x2)
def JP(x0:Nat)(x1:Nat)(x2:Operand)(x3:Operand):Bool:=dw (.bI x0 x1 x2 x3)
def JQ(x0:Nat)(x1:Operand)(x2:Operand):Bool:=dw (.aH x0 x1 x2)
def Ph(x0:Nat)(x1:Nat)(x2:Option Nat)(x3:Operand)(x4:Operand):Bool:=dw (.rW x0 x1 x2 x3 x4)
def Pj(x0:Operand)(x1:Operand):Bool:=dw (.tv x0 x1)
def JT(x0:Bool)(x1:List dN)(x2:Value)(x3:Bool)(x4:Operand)(x5:Operand):Bool:=dw (.lookup x0 x1 x2 x3 x4 x5)
def Ml(x0:Bool)(x1:List dN)(x2:Operand)(x3:Operand)(x4:Operand):Bool:=dw (.iE x0 x1 x2 x3 x4)
def Fy(x0:TypeId)(x1:Bool)(x2:Value)(x3:Operand):Bool:=dw (.jM x0 x1 x2 x3)
def Ft(x0:Operand)(x1:Nat):Bool:=dw (.extract x0 x1)
def Pd(x0:Operand)(x1:List Operand):Bool:=dw (.call x0 x1)
def Rq(x0:Nat)(x1:Operand):Bool:=dw (.len x0 x1)
def JS(x0:Nat):Bool:=dw (.jA x0)
def Ro(x0:Operand):Bool:=dw (.cap x0)
def JM(x0:Nat)(x1:Nat)(x2:Operand)(x3:Operand):Bool:=dw (.append x0 x1 x2 x3)
def Fs(x0:List Value)(x1:Nat)(x2:Operand)(x3:Operand):Bool:=dw (.jG x0 x1 x2 x3)
def Pf(x0:Nat)(x1:Operand)(x2:Operand):Bool:=dw (.copy x0 x1 x2)
def Mh(x0:List Value)(x1:Operand):Bool:=dw (.clear x0 x1)
def JU(x0:Bool)(x1:List Operand):Bool:=dw (.dK x0 x1)
def JO(x0:Bool)(x1:List dN)(x2:Operand)(x3:Operand):Bool:=dw (.delete x0 x1 x2 x3)
def Pg(x0:Operand)(x1:List Operand):Bool:=dw (.jv x0 x1)
def Fx:Bool:=dw (.recover)
def Pp(x0:Operand):Bool:=dw (.sg x0)
def Mn(x0:Operand):Bool:=dw (.range x0)
def Pn(x0:Operand)(x1:Bool):Bool:=dw (.next x0 x1)
def JX(x0:Operand):Bool:=dw (.lU x0)
def Mi(x0:Operand):Bool:=dw (.entry x0)
def BG(o:AOp):Bool:=AOp.rec (motive:=λ_=>Bool) Rr Po Rs Rn Mg JN Pm Mp JW Rm T8 Pe Fu JV Mm Fv Mo Mj Mk JP JQ Ph Pj JT Ml Fy Ft Pd Rq JS Ro JM Fs Pf Mh JU JO Pg Fx Pp Mn Pn JX Mi o
theorem gL:BG=dw:=by funext o;cases o<;>rfl
def xQ(o:AOp):Bool:=DA o||BG o
theorem gj:xQ=jw:=by funext o;simp only[xQ,jw,Cn,gL]
def kj(o:bg):List Nat:=
 match o.guard with
 |some (t,_)=>t::wU (yH o.op)
 |none=>wU (yH o.op)
theorem gw:kj=cV:=by funext o;unfold kj cV;simp only[Ca];rfl
def mS:List Value->List Value->Bool
 |[],[]=>true
 |x::xs,y::ys=>bif zk x y then mS xs ys else false
 |_,_=>false
def Cr:Value->Value->Bool
 | .agg a, .agg b=>mS a.toList b.toList
 | .tuple a, .tuple b=>mS a.toList b.toList
 | .func (.func f) a' a, .func (.func g) b' b=>f==g&&(mS a'.toList b'.toList&&mS a.toList b.toList)
 | .func (.yield f) a' a, .func (.yield g) b' b=>f==g&&(mS a'.toList b'.toList&&mS a.toList b.toList)
 |x,y=>zk x y
def DB(h:Heap)(base:Nat)(r:Rec):Bool:=
 match r.k with
 | .quiet=>match Bu h base r.e r.o.op with
   |some (.val v' h2)=>Cr r.v v'&&Nat.beq h2.next h.next
   |_=>false
 |_=>true
def zg(h:Heap)(base:Nat):List Rec->Bool
 |[]=>true
 |r::rs=>bif DB h base r then zg h base rs else false
def iM(h:Heap)(base:Nat)(log:List Nat)(mask:Nat):List Rec->Option (List Rec)
 |[]=>some []
 |r::rs=>bif Nat.testBit mask r.i then iM h base log mask rs else
  bif DB h base r&&ET log r then match iM h base log mask rs with
   |some rs'=>some (r::rs')
   |none=>none
  else none
theorem EZ:mS=jh:=by
 funext a;induction a with
 |nil=>funext b;cases b<;>rfl
 |cons x a ih=>funext b;cases b<;>first|rfl|(simp only[mS,jh,wM,ih])
theorem E2:Cr=iG:=by
 funext a b;unfold Cr iG;simp only[EZ,wM];first|done|rfl
theorem AZ:DB=pT:=by
 funext h base r;unfold DB pT;simp only[jE,E2];first|done|rfl
theorem ig:zg=mX:=by
 funext h base rs;induction rs with
 |nil=>rfl
 |cons r rs ih=>simp only[zg,mX,AZ,ih]
theorem eN:iM=bL:=by
 funext h base log mask rs;induction rs with
 |nil=>rfl
 |cons r rs ih=>simp only[iM,bL,AZ,ih];first|done|rfl
def IM(T:Nat->Option af)(F:Fam)(base:Nat)(rnd:Option Nat)(ops:List bg)(it:Nat)(x:Operand)(keep:List Nat)(out nxt pr:Nat)(ops2:List bg)(k2:List Nat)(body:aQ)(e:Env)(ds:Dfs)(h:Heap):Option (br×Env×Dfs×Heap):=match F.ops base rnd ops e ds h with
 |some (.normal,e0,ds0,h0)=>match ds0 with
  |_::_=>none
  |[]=>match evQ h0 e0 x with
   |some (.map none)=>some (.normal,jR e0 keep,[],h0)
   |some (.map (some m))=>match lQ h0 m with
    |some (.map es)=>Gw out (jR e0 keep) h0 (pG (λe h=>F.ops (h0.next+1) rnd ops2 e [] h) (λe h=>F.exec (h0.next+1) rnd body e [] h) nxt pr k2 (itE it h0 (jR e0 keep)) (jR e0 keep) ((roM h0 m es).push .dead) es)
    |_=>none
   |_=>none
 |r=>r
def AV(T:Nat->Option af)(F:Fam)(base:Nat)(rnd:Option Nat)(f:Operand)(ps:List Nat)(asg body:aQ)(e:Env)(ds:Dfs)(h:Heap):Option (br×Env×Dfs×Heap):=bif og h rnd then match evQ h e f with
 |some (.func (.func g) first cap)=>bif gT (T g)then none else
  match F.call g (dP first.toList (dP [.func (.yield h.next) #[] #[]] cap.toList)) {h.push (.loop e ps asg body 0 .normal)with log:=[]}with
  |some (.ret _,h2)=>match lQ h2 h.next with
   |some (.loop _ _ _ _ st ic)=>bif Nat.beq st 1 then none else
    some (ic,e,ds,Heap.wr {h2 with log:=aF base h.log h2.log} base h.next .dead)
   |_=>none
  |some (.panic v,h2)=>some (.panic v,e,ds,{h2 with log:=aF base h.log h2.log})
  |none=>none
 |_=>none
 else none
def AW(F:Fam)(l:Nat)(args:List Value)(h:Heap):Option (Res×Heap):=match lQ h l with
 |some (.loop e ps asg body 0 .normal)=>match iS e ps args with
  |some e1=>match F.exec h.next (some l) asg e1 [] h with
   |some (.normal,e2,ds2,h2)=>bif notReady (lQ h2 l)then none else match F.exec h.next (some l) body e2 ds2 {h2 with b8:=soQ h2.b8 l (.loop e ps asg body 1 .normal)}with
    |some (.normal,_,_,h3)=>match lQ h3 l with
     |some (.loop _ _ _ _ 1 _)=>some (.ret (.bool true),gcA h {h3 with b8:=soQ h3.b8 l (.loop e ps asg body 0 .normal)} (.bool true))
     |_=>none
    |some (.exit i,_,_,h3)=>match lQ h3 l with
     |some (.loop _ _ _ _ 1 _)=>some (.ret (.bool false),h3.wr h.next l (.loop e ps asg body 2 (.exit i)))
     |_=>none
    |some (.ret,_,_,h3)=>match lQ h3 l with
     |some (.loop _ _ _ _ 1 _)=>some (.ret (.bool false),h3.wr h.next l (.loop e ps asg body 2 .ret))
     |_=>none
    |_=>none
   |_=>none
  |none=>none
 |_=>none
def FY(T:Nat->Option af)(F:Fam):Nat->Option Nat->aQ->Env->Dfs->Heap->Option (br×Env×Dfs×Heap):=λbase rnd c e ds h=>
 match c with
 | .skip=>some (.normal,e,ds,h)
 | .region ops keep=>match F.ops base rnd ops e ds h with
   |some (.normal,e',ds',h')=>some (.normal,jR e' keep,ds',h')
   |r=>r
 | .draw ops order before keep=>match F.draw base ops order before [] e h with
   |some (.normal,e',h')=>some (.normal,jR e' keep,ds,h')
   |some (x,e',h')=>some (x,e',ds,h')
   |none=>none
 | .seq a b=>match F.exec base rnd a e ds h with
   |some (.normal,e',ds',h')=>F.exec base rnd b e' ds' h'
   |r=>r
 | .cond c a b=>match evQ h e c with
   |some (.bool true)=>F.exec base rnd a e ds h
   |some (.bool false)=>F.exec base rnd b e ds h
   |_=>none
 | .block id b=>match F.exec base rnd b e ds h with
   |some (.exit i,e',ds',h')=>bif Nat.beq i id then some (.normal,e',ds',h')else some (.exit i,e',ds',h')
   |r=>r
 | .loop b=>match F.exec base rnd b e ds h with
   |some (.normal,e',ds',h')=>F.exec base rnd (.loop b) e' ds' h'
   |r=>r
 | .scope b=>F.exec base rnd b e ds h
 | .rangeFunc f ps asg body=>AV T F base rnd f ps asg body e ds h
 | .rangeMap ops it x keep out nxt pr ops2 k2 body=>IM T F base rnd ops it x keep out nxt pr ops2 k2 body e ds h
 | .exit id=>some (.exit id,e,ds,h)
 | .ret=>some (.ret,e,ds,h)
def MI(T:Nat->Option af)(F:Fam):Nat->Option Nat->List bg->Env->Dfs->Heap->Option (br×Env×Dfs×Heap):=λbase rnd ops e ds h=>
 match ops with
 |[]=>some (.normal,e,ds,h)
 |o::os=>match rB e o.guard with
  |some false=>F.ops base rnd os (cI e o.dst (.tuple #[])) ds h
  |some true=>match Bu h base e o.op with
   |some (.val v h')=>F.ops base rnd os (cI e o.dst v) ds h'
   |some (.call fn args h')=>match F.iX fn args {h' with log:=[]}with
    |some (.ret v,h2)=>F.ops base rnd os (cI e o.dst v) ds {h2 with log:=aF base h'.log h2.log}
    |some (.panic v,h2)=>some (.panic v,e,ds,{h2 with log:=aF base h'.log h2.log})
    |none=>none
   |some (.jv f args)=>match rnd with|some _=>none|none=>F.ops base rnd os (cI e o.dst (.tuple #[])) ((f,args)::ds) h
   |some (.panic v h')=>some (.panic v,e,ds,h')
   |_=>none
  |none=>none
def FV(T:Nat->Option af)(F:Fam):Nat->List bg->List Nat->List Nat->List Rec->Env->Heap->Option (br×Env×Heap):=λbase ops order before rs e h=>
 match order with
 |[]=>some (.normal,e,h)
 |i::is=>match aT ops i,aT before i with
  |some o,some mask=>
   match rB (jR e (kj o)) o.guard with
   |some false=>F.draw base ops is before (⟨i,o,jR e (kj o), .tuple #[], .skip⟩::rs) (cI e o.dst (.tuple #[])) h
   |some true=>
    bif xQ o.op then
     match Bu h base (jR e (kj o)) o.op with
     |some (.val v h')=>
      bif BG o.op then
       bif zg h' base rs then F.draw base ops is before (⟨i,o,jR e (kj o),v, .made h.next⟩::rs) (cI e o.dst v) h' else none
      else bif Nat.beq h'.next h.next then F.draw base ops is before (⟨i,o,jR e (kj o),v, .quiet⟩::rs) (cI e o.dst v) h
      else bif zO before i is then
       match Bu {h with log:=[]} h.next (jR e (kj o)) o.op with
       |some (.val v h2)=>match iM {h2 with log:=aF base h.log h2.log} base h2.log mask rs with
        |some rs'=>F.draw base ops is before rs' (cI e o.dst v) {h2 with log:=aF base h.log h2.log}
        |none=>none
       |_=>none
      else none
     |_=>none
    else
     match Bu {h with log:=[]} h.next (jR e (kj o)) o.op with
     |some (.val v h2)=>match iM {h2 with log:=aF base h.log h2.log} base h2.log mask rs with
      |some rs'=>F.draw base ops is before rs' (cI e o.dst v) {h2 with log:=aF base h.log h2.log}
      |none=>none
     |some (.call fn args _)=>match F.iX fn args {h with log:=[]}with
      |some (.ret v,h2)=>match iM {h2 with log:=aF base h.log h2.log} base h2.log mask rs with
       |some rs'=>F.draw base ops is before rs' (cI e o.dst v) {h2 with log:=aF base h.log h2.log}
       |none=>none
      |some (.panic v,h2)=>some (.panic v,[],{h2 with log:=aF base h.log h2.log})
      |none=>none
     |_=>none
   |none=>none
  |_,_=>none
def CQ(T:Nat->Option af)(F:Fam):Fn->List Value->Heap->Option (Res×Heap):=λfn args h=>
 match fn with
 | .func f=>F.call f args h
 | .yield l=>AW F l args h
 |_=>none
def FU(T:Nat->Option af)(F:Fam):Nat->List Value->Heap->Option (Res×Heap):=λf args h=>
 match T f with
 |none=>none
 |some (.mQ p)=>match p args h with
  |some (v,h')=>some (.ret v,h')
  |none=>none
 |some (.code code results)=>match F.exec h.next none code (eM 0 args) [] h with
  |some (.panic v,e,ds,h1)=>F.unw results ds (some v) e h h1
  |some (.exit _,_,_,_)=>none
  |some (_,e,ds,h1)=>F.unw results ds none e h h1
  |none=>none
def ML(T:Nat->Option af)(F:Fam):List (Nat×Option (Option Nat))->Dfs->Option Value->Env->Heap->Heap->Option (Res×Heap):=λresults ds pan e h h1=>
 match ds with
 |[]=>match pan with
  |some v=>some (.panic v,h1)
  |none=>match I7 h1 e results with
   |some vs=>some (.ret (fH vs),gcA h h1 (fH vs))
   |none=>none
 |(.func (.func g) first cap,args)::ds=>match F.defer g (dP first.toList (dP args cap.toList)) pan {h1 with log:=[]}with
  |some (pan',h2)=>F.unw results ds pan' e h {h2 with log:=aF h.next h1.log h2.log}
  |none=>none
 |_=>none
def CR(T:Nat->Option af)(F:Fam):Nat->List Value->Option Value->Heap->Option (Option Value×Heap):=λg args pan h=>
 match T g with
 |some (.code code [])=>match F.gX h.next code (eM 0 args) pan h with
  |some (.normal,_,pan',h')=>some (pan',h')
  |some (.ret,_,pan',h')=>some (pan',h')
  |_=>none
 |_=>none
def CT(T:Nat->Option af)(F:Fam):Nat->aQ->Env->Option Value->Heap->Option (br×Env×Option Value×Heap):=λbase c e pan h=>
 match c with
 | .skip=>some (.normal,e,pan,h)
 | .region ops keep=>match F.lT base ops e pan h with
   |some (.normal,e',pan',h')=>some (.normal,jR e' keep,pan',h')
   |r=>r
 | .seq a b=>match F.gX base a e pan h with
   |some (.normal,e',pan',h')=>F.gX base b e' pan' h'
   |r=>r
 | .cond c a b=>match evQ h e c with
   |some (.bool true)=>F.gX base a e pan h
   |some (.bool false)=>F.gX base b e pan h
   |_=>none
 | .ret=>some (.ret,e,pan,h)
 |_=>none
def FZ(T:Nat->Option af)(F:Fam):Nat->List bg->Env->Option Value->Heap->Option (br×Env×Option Value×Heap):=λbase ops e pan h=>
 match ops with
 |[]=>some (.normal,e,pan,h)
 |o::os=>match rB e o.guard with
  |some false=>F.lT base os (cI e o.dst (.tuple #[])) pan h
  |some true=>match Bu h base e o.op with
   |some (.val v h')=>F.lT base os (cI e o.dst v) pan h'
   |some .recover=>match pan with
    |some v=>F.lT base os (cI e o.dst v) none h
    |none=>F.lT base os (cI e o.dst .nilIface) none h
   |_=>none
  |none=>none
def Fam.Jr(T:Nat->Option af)(F:Fam):Fam where
 exec:=FY T F
 ops:=MI T F
 draw:=FV T F
 iX:=CQ T F
 call:=FU T F
 unw:=ML T F
 defer:=CR T F
 gX:=CT T F
 lT:=FZ T F
def nN(T:Nat->Option af)(n:Nat):Fam:=Nat.rec Fam.none (λ_ F=>Fam.Jr T F) n
theorem Db(T:Nat->Option af):∀n,nN T n={exec:=ct T n,ops:=gh T n,draw:=eH T n,iX:=fN T n,call:=iV T n,unw:=nA T n,defer:=jW T n,gX:=ir T n,lT:=jo T n}
 |0=>by
  show Fam.none=_;unfold Fam.none;simp only[Fam.mk.injEq];refine⟨?_,?_,?_,?_,?_,?_,?_,?_,?_⟩
  ·funext x0 x1 x2 x3 x4 x5;simp only[ct]
  ·funext x0 x1 x2 x3 x4 x5;simp only[gh]
  ·funext x0 x1 x2 x3 x4 x5 x6;simp only[eH]
  ·funext x0 x1 x2;simp only[fN]
  ·funext x0 x1 x2;simp only[iV]
  ·funext x0 x1 x2 x3 x4 x5;simp only[nA]
  ·funext x0 x1 x2 x3;simp only[jW]
  ·funext x0 x1 x2 x3 x4;simp only[ir]
  ·funext x0 x1 x2 x3 x4;simp only[jo]
 |n+1=>by
  show Fam.Jr T (nN T n)=_;rw[Db T n];unfold Fam.Jr;simp only[Fam.mk.injEq];refine⟨?_,?_,?_,?_,?_,?_,?_,?_,?_⟩
  ·funext x0 x1 x2 x3 x4 x5;refine Eq.trans ?_ (ct.eq_def T (n+1) x0 x1 x2 x3 x4 x5).symm;unfold FY AV IM;first|rfl|(simp only[bP,bD,bE,bT,lV,jb,gz,kg,jy,jE,ig,eN,aU,gw,gj,gL];rfl)
  ·funext x0 x1 x2 x3 x4 x5;refine Eq.trans ?_ (gh.eq_def T (n+1) x0 x1 x2 x3 x4 x5).symm;unfold MI;first|rfl|(simp only[bP,bD,bE,bT,lV,jb,gz,kg,jy,jE,ig,eN,aU,gw,gj,gL];rfl)
  ·funext x0 x1 x2 x3 x4 x5 x6;refine Eq.trans ?_ (eH.eq_def T (n+1) x0 x1 x2 x3 x4 x5 x6).symm;unfold FV;first|rfl|(simp only[bP,bD,bE,bT,lV,jb,gz,kg,jy,jE,ig,eN,aU,gw,gj,gL];rfl)
  ·funext x0 x1 x2;refine Eq.trans ?_ (fN.eq_def T (n+1) x0 x1 x2).symm;unfold CQ AW;first|rfl|(simp only[bP,bD,bE,bT,lV,jb,gz,kg,jy,jE,ig,eN,aU,gw,gj,gL];rfl)
  ·funext x0 x1 x2;refine Eq.trans ?_ (iV.eq_def T (n+1) x0 x1 x2).symm;unfold FU;first|rfl|(simp only[bP,bD,bE,bT,lV,jb,gz,kg,jy,jE,ig,eN,aU,gw,gj,gL];rfl)
  ·funext x0 x1 x2 x3 x4 x5;refine Eq.trans ?_ (nA.eq_def T (n+1) x0 x1 x2 x3 x4 x5).symm;unfold ML;first|rfl|(simp only[bP,bD,bE,bT,lV,jb,gz,kg,jy,jE,ig,eN,aU,gw,gj,gL];rfl)
  ·funext x0 x1 x2 x3;refine Eq.trans ?_ (jW.eq_def T (n+1) x0 x1 x2 x3).symm;unfold CR;first|rfl|(simp only[bP,bD,bE,bT,lV,jb,gz,kg,jy,jE,ig,eN,aU,gw,gj,gL];rfl)
  ·funext x0 x1 x2 x3 x4;refine Eq.trans ?_ (ir.eq_def T (n+1) x0 x1 x2 x3 x4).symm;unfold CT;first|rfl|(simp only[bP,bD,bE,bT,lV,jb,gz,kg,jy,jE,ig,eN,aU,gw,gj,gL];rfl)
  ·funext x0 x1 x2 x3 x4;refine Eq.trans ?_ (jo.eq_def T (n+1) x0 x1 x2 x3 x4).symm;unfold FZ;first|rfl|(simp only[bP,bD,bE,bT,lV,jb,gz,kg,jy,jE,ig,eN,aU,gw,gj,gL];rfl)
end Go.A
