/- The runs once more, for the kernel. -/
import Derived.Test.YtjancmjkjgpfpaaGreatDoorVA
set_option linter.all false
noncomputable section
namespace Go.A
def UL(k:IntKind):Nat:=IntKind.rec (motive:=λ_=>Nat) 0 1 2 3 4 5 6 7 k
def kEq(a b:IntKind):Bool:=Nat.beq (UL a) (UL b)
theorem AK(a b:IntKind):kEq a b=decide (a=b):=by cases a<;>cases b<;>rfl
def Ki(m:Nat)(b:Int):Bool:=Int.rec (motive:=λ_=>Bool) (λn=>Nat.beq m n) (λ_=>false) b
def Kh(m:Nat)(b:Int):Bool:=Int.rec (motive:=λ_=>Bool) (λ_=>false) (λn=>Nat.beq m n) b
def iEq(a b:Int):Bool:=Int.rec (motive:=λ_=>Int->Bool) Ki Kh a b
theorem Eu(a b:Int):iEq a b=(a==b):=by
 rw[Bool.eq_iff_iff];simp only[beq_iff_eq];cases a<;>cases b<;>simp[iEq,Ki,Kh,Nat.beq_eq]<;>omega
def Kk(m:Nat)(b:Int):Bool:=Int.rec (motive:=λ_=>Bool) (λn=>Nat.blt m n) (λ_=>false) b
def Kj(m:Nat)(b:Int):Bool:=Int.rec (motive:=λ_=>Bool) (λ_=>true) (λn=>Nat.blt n m) b
def iLt(a b:Int):Bool:=Int.rec (motive:=λ_=>Int->Bool) Kk Kj a b
theorem RH(a b:Int):iLt a b=decide (a<b):=by
 rw[Bool.eq_iff_iff];simp only[decide_eq_true_eq];cases a<;>cases b<;>simp[iLt,Kk,Kj,Nat.blt_eq]<;>omega
def topP(k:IntKind):Nat:=IntKind.rec (motive:=λ_=>Nat) 128 32768 2147483648 9223372036854775808 256 65536 4294967296 18446744073709551616 k
def topN(k:IntKind):Nat:=IntKind.rec (motive:=λ_=>Nat) 128 32768 2147483648 9223372036854775808 0 0 0 0 k
def Q7(k:IntKind)(n:Int):Int:=Int.rec (motive:=λ_=>Int) (λm=>bif Nat.blt m (topP k)then .ofNat m else k.wrap (.ofNat m)) (λm=>bif Nat.blt m (topN k)then .negSucc m else k.wrap (.negSucc m)) n
theorem NC(k:IntKind)(n:Int):Q7 k n=fN k n:=by cases n<;>cases k<;>rfl
def R6{α:Type}(m:Nat)(f:Nat->α):α:=Nat.rec (motive:=λ_=>α) (f 0) (λn _=>f (Nat.succ n)) m
theorem OK{α:Type}(m:Nat)(f:Nat->α):R6 m f=f m:=by cases m<;>rfl
def RI{α:Type}(m:Int)(f:Int->α):α:=Int.rec (motive:=λ_=>α) (λn=>R6 n λn=>f (.ofNat n)) (λn=>R6 n λn=>f (.negSucc n)) m
theorem Ou{α:Type}(m:Int)(f:Int->α):RI m f=f m:=by cases m<;>simp[RI,OK]
def mkI(k:IntKind)(n:Int):Option Value:=RI (Q7 k n) λn=>some (.int k n)
def Jg(k:IntKind)(x y:Int):Option Value:=mkI k (x+y)
def Jr(k:IntKind)(x y:Int):Option Value:=mkI k (x-y)
def Jn(k:IntKind)(x y:Int):Option Value:=mkI k (x*y)
def Ji(_:IntKind)(x y:Int):Option Value:=some (.bool (iEq x y))
def Jo(_:IntKind)(x y:Int):Option Value:=some (.bool (Bool.rec true false (iEq x y)))
def Jm(_:IntKind)(x y:Int):Option Value:=some (.bool (iLt x y))
def Jl(_:IntKind)(x y:Int):Option Value:=some (.bool (Bool.rec true false (iLt y x)))
def Jk(_:IntKind)(x y:Int):Option Value:=some (.bool (iLt y x))
def Jj(_:IntKind)(x y:Int):Option Value:=some (.bool (Bool.rec true false (iLt x y)))
def Jp(k:IntKind)(x y:Int):Option Value:=arith .quo k x y
def Jq(k:IntKind)(x y:Int):Option Value:=arith .rem k x y
def Jh(k:IntKind)(x y:Int):Option Value:=arith .and k x y
def QI(k:IntKind)(x y:Int):Option Value:=arith .or k x y
def Js(k:IntKind)(x y:Int):Option Value:=arith .xor k x y
def y7(k:IntKind)(x y:Int):Option Value:=arith .andNot k x y
def La(k:IntKind)(x:Int)(k':IntKind)(y:Int):Option Value:=Bool.rec none (Jg k x y) (kEq k k')
def Lo(k:IntKind)(x:Int)(k':IntKind)(y:Int):Option Value:=Bool.rec none (Jr k x y) (kEq k k')
def Lh(k:IntKind)(x:Int)(k':IntKind)(y:Int):Option Value:=Bool.rec none (Jn k x y) (kEq k k')
def Lj(k:IntKind)(x:Int)(k':IntKind)(y:Int):Option Value:=Bool.rec none (Jp k x y) (kEq k k')
def Ll(k:IntKind)(x:Int)(k':IntKind)(y:Int):Option Value:=Bool.rec none (Jq k x y) (kEq k k')
def Lb(k:IntKind)(x:Int)(k':IntKind)(y:Int):Option Value:=Bool.rec none (Jh k x y) (kEq k k')
def R5(k:IntKind)(x:Int)(k':IntKind)(y:Int):Option Value:=Bool.rec none (QI k x y) (kEq k k')
def Lp(k:IntKind)(x:Int)(k':IntKind)(y:Int):Option Value:=Bool.rec none (Js k x y) (kEq k k')
def Lm(k:IntKind)(x:Int)(_:IntKind)(y:Int):Option Value:=ot .shl k x y
def Ln(k:IntKind)(x:Int)(_:IntKind)(y:Int):Option Value:=ot .shr k x y
def wS(k:IntKind)(x:Int)(k':IntKind)(y:Int):Option Value:=Bool.rec none (y7 k x y) (kEq k k')
def Lc(k:IntKind)(x:Int)(k':IntKind)(y:Int):Option Value:=Bool.rec none (Ji k x y) (kEq k k')
def Li(k:IntKind)(x:Int)(k':IntKind)(y:Int):Option Value:=Bool.rec none (Jo k x y) (kEq k k')
def Lg(k:IntKind)(x:Int)(k':IntKind)(y:Int):Option Value:=Bool.rec none (Jm k x y) (kEq k k')
def Lf(k:IntKind)(x:Int)(k':IntKind)(y:Int):Option Value:=Bool.rec none (Jl k x y) (kEq k k')
def Le(k:IntKind)(x:Int)(k':IntKind)(y:Int):Option Value:=Bool.rec none (Jk k x y) (kEq k k')
def Ld(k:IntKind)(x:Int)(k':IntKind)(y:Int):Option Value:=Bool.rec none (Jj k x y) (kEq k k')
def Lu(op:BinOp):IntKind->Int->IntKind->Int->Option Value:=BinOp.rec (motive:=λ_=>IntKind->Int->IntKind->Int->Option Value) La Lo Lh Lj Ll Lb R5 Lp Lm Ln wS Lc Li Lg Lf Le Ld op
def R7(op:BinOp)(x y:Value):Option Value:=
 match x with
 | .int k a=>match y with
   | .int k' b=>Lu op k a k' b
   |_=>none
 | .string a=>match y with
   | .string b=>DV op a b
   |_=>none
 |_=>none
theorem Jv{α:Type}(x y:α)(b:Bool):(Bool.rec x y b:α)=bif b then y else x:=by cases b<;>rfl
theorem RY(k:IntKind)(n:Int):mkI k n=some (.int k (fN k n)):=by simp[mkI,Ou,NC]
theorem bM:R7=aq:=by
 funext op x y;unfold R7;split
 ·rename_i k a;split
  ·rename_i k' b;by_cases hk:k=k'
   ·subst hk;cases op<;>simp[Lu,aq,La,Lo,Lh,Lj,Ll,Lb,R5,Lp,Lm,Ln,wS,Lc,Li,Lg,Lf,Le,Ld,Jg,Jr,Jn,Jp,Jq,Jh,QI,Js,y7,Ji,Jo,Jm,Jl,Jk,Jj,AK,Jv,RY,arith,mH,Eu,RH]
    all_goals first
     |(simp[bne];done)
     |(rw[Bool.eq_iff_iff];simp;done)
     |(rw[Bool.eq_iff_iff];simp;omega)
   ·cases op<;>simp[Lu,aq,La,Lo,Lh,Lj,Ll,Lb,R5,Lp,Lm,Ln,wS,Lc,Li,Lg,Lf,Le,Ld,AK,Jv,hk]
  ·rename_i hy;cases op<;>cases y<;>first|rfl|exact(hy _ _ rfl).elim
 ·split
  ·cases op<;>rfl
  ·rename_i hy;cases op<;>cases y<;>first|rfl|exact(hy _ rfl).elim
 ·rename_i h1 h2;cases op<;>cases x<;>first|rfl|exact(h1 _ _ rfl).elim|exact(h2 _ rfl).elim
def WK(_:Nat):Option Value:=none
def WI(p:Nat×Value)(_:Env)(ih:Nat->Option Value)(t:Nat):Option Value:=Bool.rec (ih t) (some p.2) (Nat.beq p.1 t)
def geQ(e:Env)(t:Nat):Option Value:=List.rec (motive:=λ_=>Nat->Option Value) WK WI e t
theorem jS:geQ=geT:=by
 funext e t;induction e with
 |nil=>rfl
 |cons p e ih=>
  obtain⟨k,v⟩:=p;show(Bool.rec (geQ e t) (some v) (Nat.beq k t):Option Value)=_;rw[Jv,ih];rfl
def UO(t:Nat)(l:Env)(v:Value):Env:=(t,v)::l
def WW(_:Env):Env:=[]
def WV(t:Nat)(_:List Nat)(ih:Env->Env)(e:Env):Env:=Option.rec (motive:=λ_=>Env) (ih e) (UO t (ih e)) (geQ e t)
def kg(e:Env)(l:List Nat):Env:=List.rec (motive:=λ_=>Env->Env) WW WV l e
theorem jC:kg=bO:=by
 funext e l;induction l with
 |nil=>rfl
 |cons t l ih=>
  show(Option.rec (kg e l) (UO t (kg e l)) (geQ e t):Env)=_;rw[jS,ih];simp only[bO];cases geT e t<;>rfl
def WN(_:Nat):Option bG:=none
def WL(p:Nat×bG)(_:List (Nat×bG))(ih:Nat->Option bG)(t:Nat):Option bG:=Bool.rec (ih t) (some p.2) (Nat.beq p.1 t)
def goQ(e:List (Nat×bG))(t:Nat):Option bG:=List.rec (motive:=λ_=>Nat->Option bG) WN WL e t
theorem RE:goQ=fm:=by
 funext e t;induction e with
 |nil=>rfl
 |cons p e ih=>
  obtain⟨k,v⟩:=p;show(Bool.rec (goQ e t) (some v) (Nat.beq k t):Option bG)=_;rw[Jv,ih];rfl
def mI(h:Heap)(b:Nat):Option bG:=goQ h.cE b
theorem bw:mI=Heap.get:=by funext h b;simp[mI,Heap.get,RE]
def Xe(_:Nat)(_:bG):List (Nat×bG):=[]
def Xd(p:Nat×bG)(l:List (Nat×bG))(ih:Nat->bG->List (Nat×bG))(t:Nat)(o:bG):List (Nat×bG):=Bool.rec (p::ih t o) ((p.1,o)::l) (Nat.beq p.1 t)
def soQ(e:List (Nat×bG))(t:Nat)(o:bG):List (Nat×bG):=List.rec (motive:=λ_=>Nat->bG->List (Nat×bG)) Xe Xd e t o
theorem mP:soQ=iS:=by
 funext e t o;induction e with
 |nil=>rfl
 |cons p e ih=>
  obtain⟨k,v⟩:=p;show(Bool.rec ((k,v)::soQ e t o) ((k,o)::e) (Nat.beq k t):List (Nat×bG))=_;rw[Jv,ih];rfl
def wrQ(h:Heap)(base b:Nat)(o:bG):Heap:={h with cE:=soQ h.cE b o,log:=bif Nat.blt b base then(bif fF h.log b then h.log else b::h.log)else h.log}
theorem bT:wrQ=Heap.wr:=by funext h base b o;simp[wrQ,Heap.wr,mP]
def evQ(h:Heap)(e:Env)(x:Operand):Option Value:=Operand.rec (motive:=λ_=>Env->Heap->Option Value) (λt e _=>geQ e t) (λv _ _=>some v) (λg _ h=>ev h [] (.global g)) (λf _ _=>some (.func (.func f) #[] #[])) x e h
theorem bP:evQ=ev:=by
 funext h e x;cases x<;>first|rfl|(show geQ e _=_;rw[jS];rfl)
def CE(h:Heap)(e:Env):List Operand->Option (List Value)
 |[]=>some []
 |x::xs=>match evQ h e x with
  |some v=>match CE h e xs with
   |some vs=>some (v::vs)
   |none=>none
  |none=>none
theorem bt:CE=evs:=by
 funext h e l;induction l with
 |nil=>rfl
 |cons x l ih=>(simp only[CE,evs,bP,ih];rfl)
def CF(h:Heap)(e:Env)(z:List Value):List (Nat×Nat×Operand)->Option (List Value)
 |[]=>some z
 |(off,size,x)::ps=>match evQ h e x with
  |some v=>bif Nat.beq (cm (cellsOf v)) size&&Nat.ble (off+size) (cm z)then CF h e (cU z off (cellsOf v)) ps else none
  |none=>none
theorem bk:CF=iW:=by
 funext h e z l;induction l generalizing z with
 |nil=>rfl
 |cons p l ih=>obtain⟨a,b,x⟩:=p;(simp only[CF,iW,bP,ih];rfl)
def sZ(e:Env)(g:Option (Nat×Bool)):Option Bool:=
 match g with
 |none=>some true
 |some (t,b)=>match geQ e t with
  |some (.bool x)=>some (x==b)
  |some _=>some false
  |none=>none
theorem gV:sZ=bN:=by
 funext e g;cases g with
 |none=>rfl
 |some p=>obtain⟨t,b⟩:=p;(simp only[sZ,bN,jS];rfl)
def Mz(h:Heap)(e:Env):List (Nat×Option (Option Nat))->Option (List Value)
 |[]=>some []
 |(t,none)::rs=>match geQ e t with
  |some v=>match Mz h e rs with
   |some vs=>some (v::vs)
   |none=>none
  |none=>none
 |(t,some n)::rs=>match geQ e t with
  |some a=>match pn h n a with
   |some v=>match Mz h e rs with
    |some vs=>some (v::vs)
    |none=>none
   |none=>none
  |none=>none
theorem kU:Mz=bR:=by
 funext h e l;induction l with
 |nil=>rfl
 |cons p l ih=>
  obtain⟨t,n⟩:=p;cases n<;>(simp only[Mz,bR,jS,ih];rfl)
def Kz(l:dU)(x y:Value):Option Bool:=
 match l with
 | .i q=>match x with
   | .int k a=>match y with
     | .int k' b=>bif kEq k q&&kEq k' q then some (iEq a b)else none
     |_=>none
   |_=>none
 |l=>iR l x y
theorem KA:Kz=iR:=by
 funext l x y;unfold Kz;split
 ·rename_i q;split
  ·rename_i k a;split
   ·rename_i k' b;simp only[iR,AK,Eu,cond_eq_ite,Bool.and_eq_true,decide_eq_true_eq];by_cases h1:k=q<;>by_cases h2:k'=q<;>simp[h1,h2]
   ·rename_i hy;cases y<;>first|rfl|exact(hy _ _ rfl).elim
  ·rename_i hx;cases x<;>first|rfl|exact(hx _ _ rfl).elim
 ·rfl
def nW:List dU->List Value->List Value->Option Bool
 |[],[],[]=>some true
 |l::ls,x::xs,y::ys=>match Kz l x y with
  |some true=>nW ls xs ys
  |some false=>match nW ls xs ys with
   |some _=>some false
   |none=>none
  |none=>none
 |_,_,_=>none
theorem aM:nW=bJ:=by
 funext ls;induction ls with
 |nil=>funext xs ys;cases xs<;>cases ys<;>rfl
 |cons l ls ih=>
  funext xs ys;cases xs<;>cases ys<;>first|rfl|(simp only[nW,bJ,KA,ih];rfl)
def qT(ag:Bool)(ls:List dU)(k:Value):Bool:=
 match qS k==ag,nW ls (cellsOf k) (cellsOf k)with
 |true,some _=>true
 |_,_=>false
theorem aP:qT=jM:=by funext ag ls k;(simp only[qT,jM,aM];rfl)
def Ez(ag:Bool)(ls:List dU)(k k':Value):Option Bool:=
 match qS k'==ag with
 |true=>nW ls (cellsOf k) (cellsOf k')
 |false=>none
theorem Hx:Ez=oZ:=by funext ag ls k k';(simp only[Ez,oZ,aM];rfl)
def zl(ag:Bool)(ls:List dU)(k:Value):Nat->List (Value×Value)->Option (Option (Nat×Value))
 |_,[]=>some none
 |i,(k',v)::es=>match Ez ag ls k k' with
  |some true=>some (some (i,v))
  |some false=>zl ag ls k (i+1) es
  |none=>none
theorem br:zl=oE:=by
 funext ag ls k i es;induction es generalizing i with
 |nil=>rfl
 |cons p es ih=>obtain⟨a,b⟩:=p;(simp only[zl,oE,Hx,ih];rfl)
def By(x y:Value):Bool:=
 match x with
 | .int k a=>match y with
   | .int k' b=>kEq k k'&&iEq a b
   |_=>false
 |x=>jo x y
theorem zR:By=jo:=by
 funext x y;unfold By;split
 ·rename_i k a;split
  ·rename_i k' b;simp only[jo,AK,Eu];by_cases h:k=k'<;>simp[h]
  ·rename_i hy;cases y<;>first|rfl|exact(hy _ _ rfl).elim
 ·rfl
def KH(h:Heap)(n:Option Nat):Value->Option Value
 | .pointer (some ⟨b,o,none⟩)=>match mI h b with
   |some (.cells vs _ _)=>match n with
    |none=>bH vs o
    |some n=>let l:=cw n (bU o vs);bif Nat.beq (cm l) n then some (.agg l.toArray)else none
   |_=>none
 |_=>none
def Fq(h:Heap)(base n:Nat)(v:Value):Value->Option Heap
 | .pointer (some ⟨b,o,none⟩)=>match mI h b with
   |some (.cells vs true sz)=>bif Nat.beq (cm (cellsOf v)) n&&Nat.ble (o+n) (cm vs)&&dY (cellsOf v)then some (wrQ h base b (.cells (cU vs o (cellsOf v)) true sz))else none
   |_=>none
 |_=>none
def Ek(h:Heap)(e:Env)(dflt:Nat):Option Operand->Option Nat
 |none=>some dflt
 |some x=>match evQ h e x with
  |some v=>oF v
  |none=>none
def BD(h:Heap)(e:Env)(size:Nat)(a:Option Addr)(len cap:Nat)(lo hi mx:Option Operand):Option (Value×Heap):=
 match Ek h e 0 lo,Ek h e len hi with
 |some l,some u=>
  match mx with
  |some _=>match Ek h e 0 mx with
   |some m=>bif Nat.ble l u&&Nat.ble u m&&Nat.ble m (bif Nat.beq cap UNK then len else cap)&&Nat.blt m UNK then
    some (.slice (bif Nat.beq m l then a else match a with|some ⟨b,o,none⟩=>some ⟨b,o+l*size,none⟩|a=>a) (u-l) (m-l),h)
    else none
   |none=>none
  |none=>
   bif Nat.beq cap UNK then
    match a with
    |some ⟨b,o,none⟩=>match mI h b with
     |some (.cells vs _ sz)=>
      bif Nat.beq sz size&&Nat.ble l u&&(Nat.ble u len||Nat.ble (o+u*size) (cm vs))then
       bif Nat.blt l len||Nat.blt l u then some (.slice (some ⟨b,o+l*size,none⟩) (u-l) UNK,h)
       else bif Nat.beq l 0 then some (.slice (some ⟨b,o,none⟩) 0 UNK,h)
       else some (.slice (some ⟨h.next,0,none⟩) 0 UNK,h.push (.cells [] false size))
      else none
     |_=>none
    |_=>none
   else bif Nat.ble l u&&Nat.ble u cap then
    some (.slice (bif Nat.beq cap l then a else match a with|some ⟨b,o,none⟩=>some ⟨b,o+l*size,none⟩|a=>a) (u-l) (cap-l),h)
    else none
 |_,_=>none
def PJ(h:Heap)(size:Nat):Value->Option (List Value×Nat)
 | .slice none n _=>bif Nat.beq n 0 then some ([],0)else none
 | .slice (some ⟨b,o,none⟩) n _=>match mI h b with
   |some (.cells vs _ _)=>let l:=cw (n*size) (bU o vs);bif Nat.beq (cm l) (n*size)then some (l,n)else none
   |_=>none
 | .slice (some ⟨_,_,some _⟩) n _=>bif Nat.beq n 0 then some ([],0)else none
 | .string s=>bif Nat.beq size 1 then some (s.data.toList.map λb=> .int .u8 b.toNat,s.size)else none
 |_=>none
def uT(h:Heap)(base size bytes:Nat)(s:Value)(new:List Value)(n:Nat):Option (Value×Heap):=
 match s with
 | .slice a len cap=>
   bif Nat.beq n 0 then(bif Nat.ble len cap then some (s,h)else none)else
   bif Nat.ble ((2*(len+n)+768)*bytes) 281474976710656 then
    match a with
    |none=>bif Nat.beq len 0&&Nat.beq cap 0 then some (.slice (some ⟨h.next,0,none⟩) n UNK,h.push (.cells new true size))else none
    |some ⟨b,o,none⟩=>match mI h b with
     |some (.cells vs own sz)=>
      bif Nat.beq cap UNK then
       bif own&&Nat.beq sz size then
        bif Nat.ble (o+(len+n)*size) (cm vs)&&dY new then
         some (.slice (some ⟨b,o,none⟩) (len+n) UNK,wrQ h base b (.cells (cU vs (o+len*size) new) true sz))
        else bif Nat.beq o 0&&Nat.beq (len*size) (cm vs)&&dY new then
         some (.slice (some ⟨h.next,0,none⟩) (len+n) UNK,(wrQ h base b .dead).push (.cells (eD vs new) true size))
        else none
       else none
      else bif Nat.ble (len+n) cap then
       bif own&&Nat.ble (o+(len+n)*size) (cm vs)&&dY new then
        some (.slice (some ⟨b,o,none⟩) (len+n) cap,wrQ h base b (.cells (cU vs (o+len*size) new) true sz))
       else none
      else bif Nat.ble (o+len*size) (cm vs)then
       some (.slice (some ⟨h.next,0,none⟩) (len+n) UNK,h.push (.cells (eD (cw (len*size) (bU o vs)) new) true size))
      else none
     |_=>none
    |_=>none
   else none
 |_=>none
theorem aY:KH=pn:=by
 funext h n v;unfold KH pn;simp only[bP,bt,bk,bM,br,aP,aM,bw,bT];rfl
theorem bg:Fq=rC:=by
 funext h base n v x;unfold Fq rC;simp only[bP,bt,bk,bM,br,aP,aM,bw,bT];rfl
theorem cg:Ek=bnd:=by
 funext h e d x;unfold Ek bnd;simp only[bP,bt,bk,bM,br,aP,aM,bw,bT];rfl
theorem aZ:BD=iz:=by
 funext h e size a len cap lo hi mx;unfold BD iz;simp only[bP,bt,bk,bM,br,aP,aM,bw,bT,cg];rfl
theorem cA:PJ=dn:=by
 funext h size v;unfold PJ dn;simp only[bP,bt,bk,bM,br,aP,aM,bw,bT];rfl
theorem aN:uT=jb:=by
 funext h base size bytes s new n;unfold uT jb;simp only[bP,bt,bk,bM,br,aP,aM,bw,bT];rfl
def Mi(h:Heap)(base:Nat)(e:Env)(x:Operand):Option cQ:=cH (evQ h e x) λv=>some (.val v h)
def E8(h:Heap)(base:Nat)(e:Env)(c:Operand)(a:Operand)(b:Operand):Option cQ:=match evQ h e c with
 |some (.bool true)=>cH (evQ h e a) λv=>some (.val v h)
 |some (.bool false)=>cH (evQ h e b) λv=>some (.val v h)
 |_=>none
def Mj(h:Heap)(base:Nat)(e:Env)(z:List Value):Option cQ:=some (.val (.pointer (some ⟨h.next,0,none⟩)) (h.push (.cells z true 1)))
def Mg(h:Heap)(base:Nat)(e:Env)(x:Operand):Option cQ:=cH (evQ h e x) λv=>some (.val (.pointer (some ⟨h.next,0,none⟩)) (h.push (.cells (cellsOf v) true 1)))
def Bg(h:Heap)(base:Nat)(e:Env)(z:List Value)(ps:List (Nat×Nat×Operand)):Option cQ:=match CF h e z ps with
 |some cs=>some (.val (.agg cs.toArray) h)
 |none=>none
def xF(h:Heap)(base:Nat)(e:Env)(z:List Value)(n:Nat)(ps:List (Nat×Nat×Operand)):Option cQ:=match CF h e (eS n z) ps with
 |some cs=>some (.val (.slice (some ⟨h.next,0,none⟩) n n) (h.push (.cells cs true (cm z))))
 |none=>none
def E6(h:Heap)(base:Nat)(e:Env)(n:Option Nat)(a:Operand):Option cQ:=cH (evQ h e a) λa=>cH (KH h n a) λv=>some (.val v h)
def Bq(h:Heap)(base:Nat)(e:Env)(n:Nat)(a:Operand)(v:Operand):Option cQ:=cH (evQ h e a) λa=>cH (evQ h e v) λv=>match Fq h base n v a with
 |some h'=>some (.val (.tuple #[]) h')
 |none=>none
def xR(h:Heap)(base:Nat)(e:Env)(x:Operand):Option cQ:=cH (evQ h e x) λv=>match v with
 | .pointer none| .nilIface| .nilFunc=>none
 | .func (.method _) _ _=>none
 |v=>some (.val v h)
def Mf(h:Heap)(base:Nat)(e:Env):Ea->Operand->Operand->Option cQ
 |(.num op),x,y=>cH (evQ h e x) λx=>cH (evQ h e y) λy=>cH (R7 op x y) λv=>some (.val v h)
 |(.beq neq),x,y=>match evQ h e x,evQ h e y with
  |some (.bool a),some (.bool b)=>some (.val (.bool (bif neq then !(a==b)else a==b)) h)
  |_,_=>none
 |(.nil k neq),x,y=>cH (evQ h e x) λx=>cH (evQ h e y) λy=>match pG k x y with
  |some b=>some (.val (.bool (bif neq then !b else b)) h)
  |none=>none
 |(.agg neq ls),x,y=>cH (evQ h e x) λx=>cH (evQ h e y) λy=>match x,y with
  | .agg xs, .agg ys=>match nW ls xs.toList ys.toList with
    |some b=>some (.val (.bool (bif neq then !b else b)) h)
    |none=>none
  |_,_=>none
def SC(h:Heap)(base:Nat)(e:Env)(op:UnOp)(x:Operand):Option cQ:=cH (evQ h e x) λx=>cH (yg op x) λv=>some (.val v h)
def EX(h:Heap)(base:Nat)(e:Env)(c:Cv)(x:Operand):Option cQ:=cH (evQ h e x) λx=>fC (vU h c x)
def tS(h:Heap)(base:Nat)(e:Env)(t:TypeId)(x:Operand):Option cQ:=cH (evQ h e x) λv=>some (.val (.iface t v) h)
def xQ(h:Heap)(base:Nat)(e:Env)(fn:Fn)(fs:List Operand)(cs:List Operand):Option cQ:=match CE h e fs,CE h e cs with
 |some fs,some cs=>some (.val (.func fn fs.toArray cs.toArray) h)
 |_,_=>none
def Bm(h:Heap)(base:Nat)(e:Env):Option cQ:=some (.val (.map (some h.next)) (h.push (.map [])))
def tT(h:Heap)(base:Nat)(e:Env)(z:List Value)(bytes:Nat)(l:Operand)(c:Operand):Option cQ:=match evQ h e l,evQ h e c with
 |some l,some c=>match oF l,oF c with
  |some l,some c=>bif Nat.ble l c&&Nat.ble (bytes*c) 281474976710656&&Nat.blt c UNK then
   some (.val (.slice (some ⟨h.next,0,none⟩) l c) (h.push (.cells (eS c z) true (cm z))))
   else none
  |_,_=>none
 |_,_=>none
def Bp(h:Heap)(base:Nat)(e:Env):ASl->Operand->Option Operand->Option Operand->Option Operand->Option cQ
 | .str,x,lo,hi,none=>match evQ h e x with
   |some (.string s)=>match Ek h e 0 lo,Ek h e s.size hi with
    |some l,some u=>bif Nat.ble l u&&Nat.ble u s.size then some (.val (.string (s.extract l u)) h)else none
    |_,_=>none
   |_=>none
 |(.sl size),x,lo,hi,mx=>match evQ h e x with
  |some (.slice a len cap)=>fC (BD h e size a len cap lo hi mx)
  |_=>none
 |(.arr n size),x,lo,hi,mx=>match evQ h e x with
  |some (.pointer (some a))=>fC (BD h e size (some a) n n lo hi mx)
  |_=>none
 | .str,_,_,_,(some _)=>none
def Bj(h:Heap)(base:Nat)(e:Env)(off:Nat)(x:Operand):Option cQ:=match evQ h e x with
 |some (.pointer (some ⟨b,o,none⟩))=>some (.val (.pointer (some ⟨b,o+off,none⟩)) h)
 |_=>none
def Bk(h:Heap)(base:Nat)(e:Env)(off:Nat)(n:Option Nat)(x:Operand):Option cQ:=match evQ h e x with
 |some (.agg cs)=>match n with
  |none=>cH (bH cs.toList off) λv=>some (.val v h)
  |some n=>let l:=cw n (bU off cs.toList);bif Nat.beq (cm l) n then some (.val (.agg l.toArray) h)else none
 |_=>none
def xI(h:Heap)(base:Nat)(e:Env)(len:Nat)(size:Nat)(x:Operand)(i:Operand):Option cQ:=match evQ h e x,evQ h e i with
 |some (.pointer (some ⟨b,o,none⟩)),some (.int _ (.ofNat i))=>bif Nat.blt i len then some (.val (.pointer (some ⟨b,o+i*size,none⟩)) h)else none
 |_,_=>none
def xK(h:Heap)(base:Nat)(e:Env)(size:Nat)(x:Operand)(i:Operand):Option cQ:=match evQ h e x,evQ h e i with
 |some (.slice (some ⟨b,o,none⟩) len _),some (.int _ (.ofNat i))=>bif Nat.blt i len then some (.val (.pointer (some ⟨b,o+i*size,none⟩)) h)else none
 |_,_=>none
def E3(h:Heap)(base:Nat)(e:Env)(len:Nat)(size:Nat)(n:Option Nat)(x:Operand)(i:Operand):Option cQ:=match evQ h e x,evQ h e i with
 |some (.agg cs),some (.int _ (.ofNat i))=>bif Nat.blt i len then
  match n with
  |none=>cH (bH cs.toList (i*size)) λv=>some (.val v h)
  |some n=>let l:=cw n (bU (i*size) cs.toList);bif Nat.beq (cm l) n then some (.val (.agg l.toArray) h)else none
  else none
 |_,_=>none
def E4(h:Heap)(base:Nat)(e:Env)(x:Operand)(i:Operand):Option cQ:=match evQ h e x,evQ h e i with
 |some (.string s),some (.int _ (.ofNat i))=>match bH s.data.toList i with
  |some b=>some (.val (.int .u8 b.toNat) h)
  |none=>none
 |_,_=>none
def xN(h:Heap)(base:Nat)(e:Env)(ag:Bool)(ls:List dU)(z:Value)(ok:Bool)(m:Operand)(k:Operand):Option cQ:=match evQ h e m,evQ h e k with
 |some (.map none),some k=>bif qT ag ls k then some (.val (bif ok then .tuple #[z, .bool false]else z) h)else none
 |some (.map (some r)),some k=>match sA (mI h r)with
  |some es=>bif qT ag ls k then match zl ag ls k 0 es with
   |some (some (_,v))=>some (.val (bif ok then .tuple #[v, .bool true]else v) h)
   |some none=>some (.val (bif ok then .tuple #[z, .bool false]else z) h)
   |none=>none else none
  |none=>none
 |_,_=>none
def Bl(h:Heap)(base:Nat)(e:Env)(ag:Bool)(ls:List dU)(m:Operand)(k:Operand)(v:Operand):Option cQ:=match evQ h e m,evQ h e k,evQ h e v with
 |some (.map (some r)),some k,some v=>match mI h r with
  |some (.map es)=>bif qT ag ls k then match zl ag ls k 0 es with
   |some (some (i,_))=>some (.val (.tuple #[]) (wrQ h base r (.map (qY es i (k,v)))))
   |some none=>some (.val (.tuple #[]) (wrQ h base r (.map (eD es [(k,v)]))))
   |none=>none else none
  |_=>none
 |_,_,_=>none
def tV(h:Heap)(base:Nat)(e:Env)(t:TypeId)(ok:Bool)(z:Value)(x:Operand):Option cQ:=match evQ h e x with
 |some .nilIface=>bif ok then some (.val (.tuple #[z, .bool false]) h)else none
 |some (.iface t' v)=>if t'=t then some (.val (bif ok then .tuple #[v, .bool true]else v) h)
  else bif ok then some (.val (.tuple #[z, .bool false]) h)else none
 |_=>none
def tR(h:Heap)(base:Nat)(e:Env)(t:Operand)(i:Nat):Option cQ:=match evQ h e t with
 |some (.tuple vs)=>cH (bH vs.toList i) λv=>some (.val v h)
 |_=>none
def EW(h:Heap)(base:Nat)(e:Env)(f:Operand)(args:List Operand):Option cQ:=match evQ h e f,CE h e args with
 |some f,some args=>oU f args h
 |_,_=>none
def xL(h:Heap)(base:Nat)(e:Env):Nat->Operand->Option cQ
 |0,x=>match evQ h e x with
  |some (.string s)=>some (.val (.int .i64 s.size) h)
  |_=>none
 |1,x=>match evQ h e x with
  |some (.slice _ n _)=>some (.val (.int .i64 n) h)
  |_=>none
 |_,x=>match evQ h e x with
  |some (.map none)=>some (.val (.int .i64 0) h)
  |some (.map (some r))=>match sA (mI h r)with
   |some es=>some (.val (.int .i64 (cm es)) h)
   |none=>none
  |_=>none
def xM(h:Heap)(base:Nat)(e:Env)(n:Nat):Option cQ:=some (.val (.int .i64 n) h)
def Mh(h:Heap)(base:Nat)(e:Env)(x:Operand):Option cQ:=match evQ h e x with
 |some (.slice _ _ c)=>bif Nat.beq c UNK then none else some (.val (.int .i64 c) h)
 |_=>none
def xE(h:Heap)(base:Nat)(e:Env)(size:Nat)(bytes:Nat)(s:Operand)(x:Operand):Option cQ:=match evQ h e s,evQ h e x with
 |some s,some x=>match PJ h size x with
  |some (l,n)=>fC (uT h base size bytes s l n)
  |none=>none
 |_,_=>none
def tQ(h:Heap)(base:Nat)(e:Env)(z:List Value)(bytes:Nat)(s:Operand)(n:Operand):Option cQ:=match evQ h e s,evQ h e n with
 |some s,some n=>match oF n with
  |some n=>bif Nat.blt n 9223372036854775808&&Nat.ble (n*bytes) 281474976710656 then fC (uT h base (cm z) bytes s (eS n z) n)else none
  |none=>none
 |_,_=>none
def EY(h:Heap)(base:Nat)(e:Env)(size:Nat)(d:Operand)(s:Operand):Option cQ:=match evQ h e d,evQ h e s with
 |some (.slice a dl _),some s=>match PJ h size s with
  |some (l,n)=>
   let m:=Nat.min n dl
   match a with
   |none=>some (.val (.int .i64 m) h)
   |some ⟨b,o,none⟩=>match mI h b with
    |some (.cells vs true sz)=>bif Nat.ble (o+m*size) (cm vs)&&dY (cw (m*size) l)then
     some (.val (.int .i64 m) (wrQ h base b (.cells (cU vs o (cw (m*size) l)) true sz)))
     else none
    |_=>none
   |_=>none
  |none=>none
 |_,_=>none
def Bh(h:Heap)(base:Nat)(e:Env)(z:List Value)(x:Operand):Option cQ:=match evQ h e x with
 |some (.slice a n _)=>
  bif Nat.beq n 0 then some (.val (.tuple #[]) h)else
  match a with
  |none=>some (.val (.tuple #[]) h)
  |some ⟨b,o,none⟩=>match mI h b with
   |some (.cells vs true sz)=>bif Nat.ble (o+cm (eS n z)) (cm vs)&&dY (eS n z)then some (.val (.tuple #[]) (wrQ h base b (.cells (cU vs o (eS n z)) true sz)))else none
   |_=>none
  |_=>none
 |_=>none
def xO(h:Heap)(base:Nat)(e:Env)(mx:Bool)(args:List Operand):Option cQ:=match CE h e args with
 |some (x::l)=>cH (mmA mx x l) λv=>some (.val v h)
 |_=>none
def xH(h:Heap)(base:Nat)(e:Env)(ag:Bool)(ls:List dU)(m:Operand)(k:Operand):Option cQ:=match evQ h e m,evQ h e k with
 |some (.map (some r)),some k=>match mI h r with
  |some (.map es)=>bif qT ag ls k then match zl ag ls k 0 es with
   |some (some (i,_))=>some (.val (.tuple #[]) (wrQ h base r (.map (RN es i))))
   |some none=>some (.val (.tuple #[]) (wrQ h base r (.map es)))
   |none=>none else none
  |_=>none
 |some (.map none),some k=>bif qT ag ls k then some (.val (.tuple #[]) h)else none
 |_,_=>none
def EZ(h:Heap)(base:Nat)(e:Env)(f:Operand)(args:List Operand):Option cQ:=match evQ h e f,CE h e args with
 |some (.func (.func g) first cap),some args=>some (.j6 (.func (.func g) first cap) args)
 |_,_=>none
def tU(h:Heap)(base:Nat)(e:Env):Option cQ:=some .recover
def E9(h:Heap)(base:Nat)(e:Env)(x:Operand):Option cQ:=cH (evQ h e x) λv=>match v with
 | .iface _ _=>some (.panic v h)
 |_=>none
def Bn(h:Heap)(base:Nat)(e:Env)(x:Operand):Option cQ:=match evQ h e x with
 |some (.string s)=>some (.val (.pointer (some ⟨h.next,0,none⟩)) (h.push (.mD s 0)))
 |_=>none
def E7(h:Heap)(base:Nat)(e:Env):Operand->Bool->Option cQ
 |x,true=>match evQ h e x with
  |some (.pointer (some ⟨r,0,none⟩))=>match mI h r with
   |some (.mD s pos)=>bif Nat.blt pos s.size then
    let d:=Utf8.decode s pos
    some (.val (.tuple #[.bool true, .int .i64 pos, .int .i32 d.1]) (wrQ h base r (.mD s (pos+d.2))))
    else some (.val (.tuple #[.bool false]) h)
   |_=>none
  |_=>none
 |_,false=>none
def xS(h:Heap)(base:Nat)(e:Env)(_:Operand):Option cQ:=none
def Bi(h:Heap)(base:Nat)(e:Env)(_:Operand):Option cQ:=none
def Vh(x0:Operand)(h:Heap)(base:Nat)(e:Env):Option cQ:=Mi h base e x0
def SN(x0:Operand)(x1:Operand)(x2:Operand)(h:Heap)(base:Nat)(e:Env):Option cQ:=E8 h base e x0 x1 x2
def Vi(x0:List Value)(h:Heap)(base:Nat)(e:Env):Option cQ:=Mj h base e x0
def Ve(x0:Operand)(h:Heap)(base:Nat)(e:Env):Option cQ:=Mg h base e x0
def Pf(x0:List Value)(x1:List (Nat×Nat×Operand))(h:Heap)(base:Nat)(e:Env):Option cQ:=Bg h base e x0 x1
def Mn(x0:List Value)(x1:Nat)(x2:List (Nat×Nat×Operand))(h:Heap)(base:Nat)(e:Env):Option cQ:=xF h base e x0 x1 x2
def SL(x0:Option Nat)(x1:Operand)(h:Heap)(base:Nat)(e:Env):Option cQ:=E6 h base e x0 x1
def Pr(x0:Nat)(x1:Operand)(x2:Operand)(h:Heap)(base:Nat)(e:Env):Option cQ:=Bq h base e x0 x1 x2
def Mw(x0:Operand)(h:Heap)(base:Nat)(e:Env):Option cQ:=xR h base e x0
def Vd(x0:Ea)(x1:Operand)(x2:Operand)(h:Heap)(base:Nat)(e:Env):Option cQ:=Mf h base e x0 x1 x2
def Xb(x0:UnOp)(x1:Operand)(h:Heap)(base:Nat)(e:Env):Option cQ:=SC h base e x0 x1
def SF(x0:Cv)(x1:Operand)(h:Heap)(base:Nat)(e:Env):Option cQ:=EX h base e x0 x1
def Ig(x0:TypeId)(x1:Operand)(h:Heap)(base:Nat)(e:Env):Option cQ:=tS h base e x0 x1
def Mv(x0:Fn)(x1:List Operand)(x2:List Operand)(h:Heap)(base:Nat)(e:Env):Option cQ:=xQ h base e x0 x1 x2
def Po(h:Heap)(base:Nat)(e:Env):Option cQ:=Bm h base e
def Ih(x0:List Value)(x1:Nat)(x2:Operand)(x3:Operand)(h:Heap)(base:Nat)(e:Env):Option cQ:=tT h base e x0 x1 x2 x3
def Pq(x0:ASl)(x1:Operand)(x2:Option Operand)(x3:Option Operand)(x4:Option Operand)(h:Heap)(base:Nat)(e:Env):Option cQ:=Bp h base e x0 x1 x2 x3 x4
def Pj(x0:Nat)(x1:Operand)(h:Heap)(base:Nat)(e:Env):Option cQ:=Bj h base e x0 x1
def Pm(x0:Nat)(x1:Option Nat)(x2:Operand)(h:Heap)(base:Nat)(e:Env):Option cQ:=Bk h base e x0 x1 x2
def Mp(x0:Nat)(x1:Nat)(x2:Operand)(x3:Operand)(h:Heap)(base:Nat)(e:Env):Option cQ:=xI h base e x0 x1 x2 x3
def Mq(x0:Nat)(x1:Operand)(x2:Operand)(h:Heap)(base:Nat)(e:Env):Option cQ:=xK h base e x0 x1 x2
def SJ(x0:Nat)(x1:Nat)(x2:Option Nat)(x3:Operand)(x4:Operand)(h:Heap)(base:Nat)(e:Env):Option cQ:=E3 h base e x0 x1 x2 x3 x4
def SK(x0:Operand)(x1:Operand)(h:Heap)(base:Nat)(e:Env):Option cQ:=E4 h base e x0 x1
def Ms(x0:Bool)(x1:List dU)(x2:Value)(x3:Bool)(x4:Operand)(x5:Operand)(h:Heap)(base:Nat)(e:Env):Option cQ:=xN h base e x0 x1 x2 x3 x4 x5
def Pn(x0:Bool)(x1:List dU)(x2:Operand)(x3:Operand)(x4:Operand)(h:Heap)(base:Nat)(e:Env):Option cQ:=Bl h base e x0 x1 x2 x3 x4
def Ij(x0:TypeId)(x1:Bool)(x2:Value)(x3:Operand)(h:Heap)(base:Nat)(e:Env):Option cQ:=tV h base e x0 x1 x2 x3
def Ie(x0:Operand)(x1:Nat)(h:Heap)(base:Nat)(e:Env):Option cQ:=tR h base e x0 x1
def SD(x0:Operand)(x1:List Operand)(h:Heap)(base:Nat)(e:Env):Option cQ:=EW h base e x0 x1
def Vg(x0:Nat)(x1:Operand)(h:Heap)(base:Nat)(e:Env):Option cQ:=xL h base e x0 x1
def Mr(x0:Nat)(h:Heap)(base:Nat)(e:Env):Option cQ:=xM h base e x0
def Vf(x0:Operand)(h:Heap)(base:Nat)(e:Env):Option cQ:=Mh h base e x0
def Mm(x0:Nat)(x1:Nat)(x2:Operand)(x3:Operand)(h:Heap)(base:Nat)(e:Env):Option cQ:=xE h base e x0 x1 x2 x3
def Ic(x0:List Value)(x1:Nat)(x2:Operand)(x3:Operand)(h:Heap)(base:Nat)(e:Env):Option cQ:=tQ h base e x0 x1 x2 x3
def SH(x0:Nat)(x1:Operand)(x2:Operand)(h:Heap)(base:Nat)(e:Env):Option cQ:=EY h base e x0 x1 x2
def Pg(x0:List Value)(x1:Operand)(h:Heap)(base:Nat)(e:Env):Option cQ:=Bh h base e x0 x1
def Mt(x0:Bool)(x1:List Operand)(h:Heap)(base:Nat)(e:Env):Option cQ:=xO h base e x0 x1
def Mo(x0:Bool)(x1:List dU)(x2:Operand)(x3:Operand)(h:Heap)(base:Nat)(e:Env):Option cQ:=xH h base e x0 x1 x2 x3
def SI(x0:Operand)(x1:List Operand)(h:Heap)(base:Nat)(e:Env):Option cQ:=EZ h base e x0 x1
def Ii(h:Heap)(base:Nat)(e:Env):Option cQ:=tU h base e
def SO(x0:Operand)(h:Heap)(base:Nat)(e:Env):Option cQ:=E9 h base e x0
def Pp(x0:Operand)(h:Heap)(base:Nat)(e:Env):Option cQ:=Bn h base e x0
def SM(x0:Operand)(x1:Bool)(h:Heap)(base:Nat)(e:Env):Option cQ:=E7 h base e x0 x1
def Mx(x0:Operand)(h:Heap)(base:Nat)(e:Env):Option cQ:=xS h base e x0
def Ph(x0:Operand)(h:Heap)(base:Nat)(e:Env):Option cQ:=Bi h base e x0
def VS(o:AOp):Heap->Nat->Env->Option cQ:=AOp.rec (motive:=λ_=>Heap->Nat->Env->Option cQ) Vh SN Vi Ve Pf Mn SL Pr Mw Vd Xb SF Ig Mv Po Ih Pq Pj Pm Mp Mq SJ SK Ms Pn Ij Ie SD Vg Mr Vf Mm Ic SH Pg Mt Mo SI Ii SO Pp SM Mx Ph o
def Eg(h:Heap)(base:Nat)(e:Env)(o:AOp):Option cQ:=VS o h base e
theorem jW:Eg=aop:=by
 funext h base e o;cases o;case mov x0=>show Mi h base e x0=_;first|rfl|(unfold Mi;simp only[bP,bt,bk,bM,br,aP,aM,bw,bT,cg,aY,bg,aZ,cA,aN];rfl)
 case pick x0 x1 x2=>show E8 h base e x0 x1 x2=_;first|rfl|(unfold E8;simp only[bP,bt,bk,bM,br,aP,aM,bw,bT,cg,aY,bg,aZ,cA,aN];rfl)
 case new x0=>show Mj h base e x0=_;first|rfl|(unfold Mj;simp only[bP,bt,bk,bM,br,aP,aM,bw,bT,cg,aY,bg,aZ,cA,aN];rfl)
 case box x0=>show Mg h base e x0=_;first|rfl|(unfold Mg;simp only[bP,bt,bk,bM,br,aP,aM,bw,bT,cg,aY,bg,aZ,cA,aN];rfl)
 case build x0 x1=>show Bg h base e x0 x1=_;first|rfl|(unfold Bg;simp only[bP,bt,bk,bM,br,aP,aM,bw,bT,cg,aY,bg,aZ,cA,aN];rfl)
 case dz x0 x1 x2=>show xF h base e x0 x1 x2=_;first|rfl|(unfold xF;simp only[bP,bt,bk,bM,br,aP,aM,bw,bT,cg,aY,bg,aZ,cA,aN];rfl)
 case load x0 x1=>show E6 h base e x0 x1=_;first|rfl|(unfold E6;simp only[bP,bt,bk,bM,br,aP,aM,bw,bT,cg,aY,bg,aZ,cA,aN];rfl)
 case store x0 x1 x2=>show Bq h base e x0 x1 x2=_;first|rfl|(unfold Bq;simp only[bP,bt,bk,bM,br,aP,aM,bw,bT,cg,aY,bg,aZ,cA,aN];rfl)
 case bX x0=>show xR h base e x0=_;first|rfl|(unfold xR;simp only[bP,bt,bk,bM,br,aP,aM,bw,bT,cg,aY,bg,aZ,cA,aN];rfl)
 case un x0 x1=>show SC h base e x0 x1=_;first|rfl|(unfold SC;simp only[bP,bt,bk,bM,br,aP,aM,bw,bT,cg,aY,bg,aZ,cA,aN];rfl)
 case conv x0 x1=>show EX h base e x0 x1=_;first|rfl|(unfold EX;simp only[bP,bt,bk,bM,br,aP,aM,bw,bT,cg,aY,bg,aZ,cA,aN];rfl)
 case je x0 x1=>show tS h base e x0 x1=_;first|rfl|(unfold tS;simp only[bP,bt,bk,bM,br,aP,aM,bw,bT,cg,aY,bg,aZ,cA,aN];rfl)
 case eM x0 x1 x2=>show xQ h base e x0 x1 x2=_;first|rfl|(unfold xQ;simp only[bP,bt,bk,bM,br,aP,aM,bw,bT,cg,aY,bg,aZ,cA,aN];rfl)
 case mkMap=>show Bm h base e=_;first|rfl|(unfold Bm;simp only[bP,bt,bk,bM,br,aP,aM,bw,bT,cg,aY,bg,aZ,cA,aN];rfl)
 case mkSlice x0 x1 x2 x3=>show tT h base e x0 x1 x2 x3=_;first|rfl|(unfold tT;simp only[bP,bt,bk,bM,br,aP,aM,bw,bT,cg,aY,bg,aZ,cA,aN];rfl)
 case dN x0 x1=>show Bj h base e x0 x1=_;first|rfl|(unfold Bj;simp only[bP,bt,bk,bM,br,aP,aM,bw,bT,cg,aY,bg,aZ,cA,aN];rfl)
 case field x0 x1 x2=>show Bk h base e x0 x1 x2=_;first|rfl|(unfold Bk;simp only[bP,bt,bk,bM,br,aP,aM,bw,bT,cg,aY,bg,aZ,cA,aN];rfl)
 case dA x0 x1 x2 x3=>show xI h base e x0 x1 x2 x3=_;first|rfl|(unfold xI;simp only[bP,bt,bk,bM,br,aP,aM,bw,bT,cg,aY,bg,aZ,cA,aN];rfl)
 case aO x0 x1 x2=>show xK h base e x0 x1 x2=_;first|rfl|(unfold xK;simp only[bP,bt,bk,bM,br,aP,aM,bw,bT,cg,aY,bg,aZ,cA,aN];rfl)
 case qR x0 x1 x2 x3 x4=>show E3 h base e x0 x1 x2 x3 x4=_;first|rfl|(unfold E3;simp only[bP,bt,bk,bM,br,aP,aM,bw,bT,cg,aY,bg,aZ,cA,aN];rfl)
 case jv x0 x1=>show E4 h base e x0 x1=_;first|rfl|(unfold E4;simp only[bP,bt,bk,bM,br,aP,aM,bw,bT,cg,aY,bg,aZ,cA,aN];rfl)
 case lookup x0 x1 x2 x3 x4 x5=>show xN h base e x0 x1 x2 x3 x4 x5=_;first|rfl|(unfold xN;simp only[bP,bt,bk,bM,br,aP,aM,bw,bT,cg,aY,bg,aZ,cA,aN];rfl)
 case nk x0 x1 x2 x3 x4=>show Bl h base e x0 x1 x2 x3 x4=_;first|rfl|(unfold Bl;simp only[bP,bt,bk,bM,br,aP,aM,bw,bT,cg,aY,bg,aZ,cA,aN];rfl)
 case kX x0 x1 x2 x3=>show tV h base e x0 x1 x2 x3=_;first|rfl|(unfold tV;simp only[bP,bt,bk,bM,br,aP,aM,bw,bT,cg,aY,bg,aZ,cA,aN];rfl)
 case extract x0 x1=>show tR h base e x0 x1=_;first|rfl|(unfold tR;simp only[bP,bt,bk,bM,br,aP,aM,bw,bT,cg,aY,bg,aZ,cA,aN];rfl)
 case call x0 x1=>show EW h base e x0 x1=_;first|rfl|(unfold EW;simp only[bP,bt,bk,bM,br,aP,aM,bw,bT,cg,aY,bg,aZ,cA,aN];rfl)
 case mJ x0=>show xM h base e x0=_;first|rfl|(unfold xM;simp only[bP,bt,bk,bM,br,aP,aM,bw,bT,cg,aY,bg,aZ,cA,aN];rfl)
 case cap x0=>show Mh h base e x0=_;first|rfl|(unfold Mh;simp only[bP,bt,bk,bM,br,aP,aM,bw,bT,cg,aY,bg,aZ,cA,aN];rfl)
 case append x0 x1 x2 x3=>show xE h base e x0 x1 x2 x3=_;first|rfl|(unfold xE;simp only[bP,bt,bk,bM,br,aP,aM,bw,bT,cg,aY,bg,aZ,cA,aN];rfl)
 case mj x0 x1 x2 x3=>show tQ h base e x0 x1 x2 x3=_;first|rfl|(unfold tQ;simp only[bP,bt,bk,bM,br,aP,aM,bw,bT,cg,aY,bg,aZ,cA,aN];rfl)
 case copy x0 x1 x2=>show EY h base e x0 x1 x2=_;first|rfl|(unfold EY;simp only[bP,bt,bk,bM,br,aP,aM,bw,bT,cg,aY,bg,aZ,cA,aN];rfl)
 case clear x0 x1=>show Bh h base e x0 x1=_;first|rfl|(unfold Bh;simp only[bP,bt,bk,bM,br,aP,aM,bw,bT,cg,aY,bg,aZ,cA,aN];rfl)
 case eC x0 x1=>show xO h base e x0 x1=_;first|rfl|(unfold xO;simp only[bP,bt,bk,bM,br,aP,aM,bw,bT,cg,aY,bg,aZ,cA,aN];rfl)
 case delete x0 x1 x2 x3=>show xH h base e x0 x1 x2 x3=_;first|rfl|(unfold xH;simp only[bP,bt,bk,bM,br,aP,aM,bw,bT,cg,aY,bg,aZ,cA,aN];rfl)
 case j6 x0 x1=>show EZ h base e x0 x1=_;first|rfl|(unfold EZ;simp only[bP,bt,bk,bM,br,aP,aM,bw,bT,cg,aY,bg,aZ,cA,aN];rfl)
 case recover=>show tU h base e=_;first|rfl|(unfold tU;simp only[bP,bt,bk,bM,br,aP,aM,bw,bT,cg,aY,bg,aZ,cA,aN];rfl)
 case xy x0=>show E9 h base e x0=_;first|rfl|(unfold E9;simp only[bP,bt,bk,bM,br,aP,aM,bw,bT,cg,aY,bg,aZ,cA,aN];rfl)
 case range x0=>show Bn h base e x0=_;first|rfl|(unfold Bn;simp only[bP,bt,bk,bM,br,aP,aM,bw,bT,cg,aY,bg,aZ,cA,aN];rfl)
 case mN x0=>show xS h base e x0=_;first|rfl|(unfold xS;simp only[bP,bt,bk,bM,br,aP,aM,bw,bT,cg,aY,bg,aZ,cA,aN];rfl)
 case entry x0=>show Bi h base e x0=_;first|rfl|(unfold Bi;simp only[bP,bt,bk,bM,br,aP,aM,bw,bT,cg,aY,bg,aZ,cA,aN];rfl)
 case bin op x y=>show Mf h base e op x y=_;cases op<;>(simp only[Mf,aop,bP,bt,bk,bM,br,aP,aM,bw,bT,cg,aY,bg,aZ,cA,aN];first|done|rfl)
 case slice k x lo hi mx=>show Bp h base e k x lo hi mx=_;cases k<;>cases mx<;>(simp only[Bp,aop,bP,bt,bk,bM,br,aP,aM,bw,bT,cg,aY,bg,aZ,cA,aN];first|done|rfl)
 case len k x=>
  match k with
  |0=>show xL h base e 0 x=_;simp only[xL,aop,bP,bt,bk,bM,br,aP,aM,bw,bT,cg,aY,bg,aZ,cA,aN];first|done|rfl
  |1=>show xL h base e 1 x=_;simp only[xL,aop,bP,bt,bk,bM,br,aP,aM,bw,bT,cg,aY,bg,aZ,cA,aN];first|done|rfl
  |k+2=>show xL h base e (k+2) x=_;simp only[xL,aop,bP,bt,bk,bM,br,aP,aM,bw,bT,cg,aY,bg,aZ,cA,aN];first|done|rfl
 case next x s=>show E7 h base e x s=_;cases s<;>(simp only[E7,aop,bP,bt,bk,bM,br,aP,aM,bw,bT,cg,aY,bg,aZ,cA,aN];first|done|rfl)
structure Fam where
 exec:Nat->Option Nat->aR->Env->Dfs->Heap->Option (bB×Env×Dfs×Heap)
 ops:Nat->Option Nat->List aV->Env->Dfs->Heap->Option (bB×Env×Dfs×Heap)
 draw:Nat->List aV->List Nat->List Nat->List Rec->Env->Heap->Option (bB×Env×Heap)
 jA:Fn->List Value->Heap->Option (Res×Heap)
 call:Nat->List Value->Heap->Option (Res×Heap)
 unw:List (Nat×Option (Option Nat))->Dfs->Option Value->Env->Heap->Heap->Option (Res×Heap)
 defer:Nat->List Value->Option Value->Heap->Option (Option Value×Heap)
 iC:Nat->aR->Env->Option Value->Heap->Option (bB×Env×Option Value×Heap)
 mL:Nat->List aV->Env->Option Value->Heap->Option (bB×Env×Option Value×Heap)
def Fam.none:Fam where
 exec:=λ_ _ _ _ _ _=> .none
 ops:=λ_ _ _ _ _ _=> .none
 draw:=λ_ _ _ _ _ _ _=> .none
 jA:=λ_ _ _=> .none
 call:=λ_ _ _=> .none
 unw:=λ_ _ _ _ _ _=> .none
 defer:=λ_ _ _ _=> .none
 iC:=λ_ _ _ _ _=> .none
 mL:=λ_ _ _ _ _=> .none
def U3(x0:Operand):List Operand:=cZ (.mov x0)
def Sg(x0:Operand)(x1:Operand)(x2:Operand):List Operand:=cZ (.pick x0 x1 x2)
def U4(x0:List Value):List Operand:=cZ (.new x0)
def U0(x0:Operand):List Operand:=cZ (.box x0)
def ON(x0:List Value)(x1:List (Nat×Nat×Operand)):List Operand:=cZ (.build x0 x1)
def Ly(x0:List Value)(x1:Nat)(x2:List (Nat×Nat×Operand)):List Operand:=cZ (.dz x0 x1 x2)
def Se(x0:Option Nat)(x1:Operand):List Operand:=cZ (.load x0 x1)
def OX(x0:Nat)(x1:Operand)(x2:Operand):List Operand:=cZ (.store x0 x1 x2)
def LI(x0:Operand):List Operand:=cZ (.bX x0)
def UZ(x0:Ea)(x1:Operand)(x2:Operand):List Operand:=cZ (.bin x0 x1 x2)
def WX(x0:UnOp)(x1:Operand):List Operand:=cZ (.un x0 x1)
def R9(x0:Cv)(x1:Operand):List Operand:=cZ (.conv x0 x1)
def HI(x0:TypeId)(x1:Operand):List Operand:=cZ (.je x0 x1)
def LH(x0:Fn)(x1:List Operand)(x2:List Operand):List Operand:=cZ (.eM x0 x1 x2)
def OU:List Operand:=cZ (.mkMap)
def HJ(x0:List Value)(x1:Nat)(x2:Operand)(x3:Operand):List Operand:=cZ (.mkSlice x0 x1 x2 x3)
def OW(x0:ASl)(x1:Operand)(x2:Option Operand)(x3:Option Operand)(x4:Option Operand):List Operand:=cZ (.slice x0 x1 x2 x3 x4)
def OQ(x0:Nat)(x1:Operand):List Operand:=cZ (.dN x0 x1)
def OS(x0:Nat)(x1:Option Nat)(x2:Operand):List Operand:=cZ (.field x0 x1 x2)
def LA(x0:Nat)(x1:Nat)(x2:Operand)(x3:Operand):List Operand:=cZ (.dA x0 x1 x2 x3)
def LC(x0:Nat)(x1:Operand)(x2:Operand):List Operand:=cZ (.aO x0 x1 x2)
def Sc(x0:Nat)(x1:Nat)(x2:Option Nat)(x3:Operand)(x4:Operand):List Operand:=cZ (.qR x0 x1 x2 x3 x4)
def Sd(x0:Operand)(x1:Operand):List Operand:=cZ (.jv x0 x1)
def LF(x0:Bool)(x1:List dU)(x2:Value)(x3:Bool)(x4:Operand)(x5:Operand):List Operand:=cZ (.lookup x0 x1 x2 x3 x4 x5)
def OT(x0:Bool)(x1:List dU)(x2:Operand)(x3:Operand)(x4:Operand):List Operand:=cZ (.nk x0 x1 x2 x3 x4)
def HL(x0:TypeId)(x1:Bool)(x2:Value)(x3:Operand):List Operand:=cZ (.kX x0 x1 x2 x3)
def HH(x0:Operand)(x1:Nat):List Operand:=cZ (.extract x0 x1)
def R8(x0:Operand)(x1:List Operand):List Operand:=cZ (.call x0 x1)
def U2(x0:Nat)(x1:Operand):List Operand:=cZ (.len x0 x1)
def LD(x0:Nat):List Operand:=cZ (.mJ x0)
def U1(x0:Operand):List Operand:=cZ (.cap x0)
def Lw(x0:Nat)(x1:Nat)(x2:Operand)(x3:Operand):List Operand:=cZ (.append x0 x1 x2 x3)
def HF(x0:List Value)(x1:Nat)(x2:Operand)(x3:Operand):List Operand:=cZ (.mj x0 x1 x2 x3)
def Sa(x0:Nat)(x1:Operand)(x2:Operand):List Operand:=cZ (.copy x0 x1 x2)
def OO(x0:List Value)(x1:Operand):List Operand:=cZ (.clear x0 x1)
def LG(x0:Bool)(x1:List Operand):List Operand:=cZ (.eC x0 x1)
def Lz(x0:Bool)(x1:List dU)(x2:Operand)(x3:Operand):List Operand:=cZ (.delete x0 x1 x2 x3)
def Sb(x0:Operand)(x1:List Operand):List Operand:=cZ (.j6 x0 x1)
def HK:List Operand:=cZ (.recover)
def Sh(x0:Operand):List Operand:=cZ (.xy x0)
def OV(x0:Operand):List Operand:=cZ (.range x0)
def Sf(x0:Operand)(x1:Bool):List Operand:=cZ (.next x0 x1)
def LJ(x0:Operand):List Operand:=cZ (.mN x0)
def OP(x0:Operand):List Operand:=cZ (.entry x0)
def A4(o:AOp):List Operand:=AOp.rec (motive:=λ_=>List Operand) U3 Sg U4 U0 ON Ly Se OX LI UZ WX R9 HI LH OU HJ OW OQ OS LA LC Sc Sd LF OT HL HH R8 U2 LD U1 Lw HF Sa OO LG Lz Sb HK Sh OV Sf LJ OP o
theorem ET:A4=cZ:=by funext o;cases o<;>rfl
def Vw(x0:Operand):Bool:=cI (.mov x0)
def Tb(x0:Operand)(x1:Operand)(x2:Operand):Bool:=cI (.pick x0 x1 x2)
def Vx(x0:List Value):Bool:=cI (.new x0)
def Vt(x0:Operand):Bool:=cI (.box x0)
def PN(x0:List Value)(x1:List (Nat×Nat×Operand)):Bool:=cI (.build x0 x1)
def MX(x0:List Value)(x1:Nat)(x2:List (Nat×Nat×Operand)):Bool:=cI (.dz x0 x1 x2)
def S9(x0:Option Nat)(x1:Operand):Bool:=cI (.load x0 x1)
def PZ(x0:Nat)(x1:Operand)(x2:Operand):Bool:=cI (.store x0 x1 x2)
def M6(x0:Operand):Bool:=cI (.bX x0)
def Vs(x0:Ea)(x1:Operand)(x2:Operand):Bool:=cI (.bin x0 x1 x2)
def Xf(x0:UnOp)(x1:Operand):Bool:=cI (.un x0 x1)
def SZ(x0:Cv)(x1:Operand):Bool:=cI (.conv x0 x1)
def ID(x0:TypeId)(x1:Operand):Bool:=cI (.je x0 x1)
def M5(x0:Fn)(x1:List Operand)(x2:List Operand):Bool:=cI (.eM x0 x1 x2)
def PV:Bool:=cI (.mkMap)
def IE(x0:List Value)(x1:Nat)(x2:Operand)(x3:Operand):Bool:=cI (.mkSlice x0 x1 x2 x3)
def PY(x0:ASl)(x1:Operand)(x2:Option Operand)(x3:Option Operand)(x4:Option Operand):Bool:=cI (.slice x0 x1 x2 x3 x4)
def PS(x0:Nat)(x1:Operand):Bool:=cI (.dN x0 x1)
def PT(x0:Nat)(x1:Option Nat)(x2:Operand):Bool:=cI (.field x0 x1 x2)
def MZ(x0:Nat)(x1:Nat)(x2:Operand)(x3:Operand):Bool:=cI (.dA x0 x1 x2 x3)
def M0(x0:Nat)(x1:Operand)(x2:Operand):Bool:=cI (.aO x0 x1 x2)
def S7(x0:Nat)(x1:Nat)(x2:Option Nat)(x3:Operand)(x4:Operand):Bool:=cI (.qR x0 x1 x2 x3 x4)
def S8(x0:Operand)(x1:Operand):Bool:=cI (.jv x0 x1)
def M3(x0:Bool)(x1:List dU)(x2:Value)(x3:Bool)(x4:Operand)(x5:Operand):Bool:=cI (.lookup x0 x1 x2 x3 x4 x5)
def PU(x0:Bool)(x1:List dU)(x2:Operand)(x3:Operand)(x4:Operand):Bool:=cI (.nk x0 x1 x2 x3 x4)
def IG(x0:TypeId)(x1:Bool)(x2:Value)(x3:Operand):Bool:=cI (.kX x0 x1 x2 x3)
def IC(x0:Operand)(x1:Nat):Bool:=cI (.extract x0 x1)
def SY(x0:Operand)(x1:List Operand):Bool:=cI (.call x0 x1)
def Vv(x0:Nat)(x1:Operand):Bool:=cI (.len x0 x1)
def M1(x0:Nat):Bool:=cI (.mJ x0)
def Vu(x0:Operand):Bool:=cI (.cap x0)
def MW(x0:Nat)(x1:Nat)(x2:Operand)(x3:Operand):Bool:=cI (.append x0 x1 x2 x3)
def IB(x0:List Value)(x1:Nat)(x2:Operand)(x3:Operand):Bool:=cI (.mj x0 x1 x2 x3)
def S4(x0:Nat)(x1:Operand)(x2:Operand):Bool:=cI (.copy x0 x1 x2)
def PO(x0:List Value)(x1:Operand):Bool:=cI (.clear x0 x1)
def M4(x0:Bool)(x1:List Operand):Bool:=cI (.eC x0 x1)
def MY(x0:Bool)(x1:List dU)(x2:Operand)(x3:Operand):Bool:=cI (.delete x0 x1 x2 x3)
def S6(x0:Operand)(x1:List Operand):Bool:=cI (.j6 x0 x1)
def IF:Bool:=cI (.recover)
def Tc(x0:Operand):Bool:=cI (.xy x0)
def PX(x0:Operand):Bool:=cI (.range x0)
def Ta(x0:Operand)(x1:Bool):Bool:=cI (.next x0 x1)
def M7(x0:Operand):Bool:=cI (.mN x0)
def PR(x0:Operand):Bool:=cI (.entry x0)
def Gv(o:AOp):Bool:=AOp.rec (motive:=λ_=>Bool) Vw Tb Vx Vt PN MX S9 PZ M6 Vs Xf SZ ID M5 PV IE PY PS PT MZ M0 S7 S8 M3 PU IG IC SY Vv M1 Vu MW IB S4 PO M4 MY S6 IF Tc PX Ta M7 PR o
theorem Fb:Gv=cI:=by funext o;cases o<;>rfl
def VD(x0:Operand):Bool:=dG (.mov x0)
def Tp(x0:Operand)(x1:Operand)(x2:Operand):Bool:=dG (.pick x0 x1 x2)
def VE(x0:List Value):Bool:=dG (.new x0)
def VA(x0:Operand):Bool:=dG (.box x0)
def Qd(x0:List Value)(x1:List (Nat×Nat×Operand)):Bool:=dG (.build x0 x1)
def Ns(x0:List Value)(x1:Nat)(x2:List (Nat×Nat×Operand)):Bool:=dG (.dz x0 x1 x2)
def Tn(x0:Option Nat)(x1:Operand):Bool:=dG (.load x0 x1)
def Qo(x0:Nat)(x1:Operand)(x2:Operand):Bool:=dG (.store x0 x1 x2)
def NA(x0:Operand):Bool:=dG (.bX x0)
def Vz(x0:Ea)(x1:Operand)(x2:Operand):Bool:=dG (.bin x0 x1 x2)
def Xk(x0:UnOp)(x1:Operand):Bool:=dG (.un x0 x1)
def Ti(x0:Cv)(x1:Operand):Bool:=dG (.conv x0 x1)
def IN(x0:TypeId)(x1:Operand):Bool:=dG (.je x0 x1)
def Nz(x0:Fn)(x1:List Operand)(x2:List Operand):Bool:=dG (.eM x0 x1 x2)
def Ql:Bool:=dG (.mkMap)
def IP(x0:List Value)(x1:Nat)(x2:Operand)(x3:Operand):Bool:=dG (.mkSlice x0 x1 x2 x3)
def Qn(x0:ASl)(x1:Operand)(x2:Option Operand)(x3:Option Operand)(x4:Option Operand):Bool:=dG (.slice x0 x1 x2 x3 x4)
def Qg(x0:Nat)(x1:Operand):Bool:=dG (.dN x0 x1)
def Qi(x0:Nat)(x1:Option Nat)(x2:Operand):Bool:=dG (.field x0 x1 x2)
def Nu(x0:Nat)(x1:Nat)(x2:Operand)(x3:Operand):Bool:=dG (.dA x0 x1 x2 x3)
def Nv(x0:Nat)(x1:Operand)(x2:Operand):Bool:=dG (.aO x0 x1 x2)
def Tl(x0:Nat)(x1:Nat)(x2:Option Nat)(x3:Operand)(x4:Operand):Bool:=dG (.qR x0 x1 x2 x3 x4)
def Tm(x0:Operand)(x1:Operand):Bool:=dG (.jv x0 x1)
def Nx(x0:Bool)(x1:List dU)(x2:Value)(x3:Bool)(x4:Operand)(x5:Operand):Bool:=dG (.lookup x0 x1 x2 x3 x4 x5)
def Qk(x0:Bool)(x1:List dU)(x2:Operand)(x3:Operand)(x4:Operand):Bool:=dG (.nk x0 x1 x2 x3 x4)
def IS(x0:TypeId)(x1:Bool)(x2:Value)(x3:Operand):Bool:=dG (.kX x0 x1 x2 x3)
def IM(x0:Operand)(x1:Nat):Bool:=dG (.extract x0 x1)
def Th(x0:Operand)(x1:List Operand):Bool:=dG (.call x0 x1)
def VC(x0:Nat)(x1:Operand):Bool:=dG (.len x0 x1)
def Nw(x0:Nat):Bool:=dG (.mJ x0)
def VB(x0:Operand):Bool:=dG (.cap x0)
def Nr(x0:Nat)(x1:Nat)(x2:Operand)(x3:Operand):Bool:=dG (.append x0 x1 x2 x3)
def IL(x0:List Value)(x1:Nat)(x2:Operand)(x3:Operand):Bool:=dG (.mj x0 x1 x2 x3)
def Tj(x0:Nat)(x1:Operand)(x2:Operand):Bool:=dG (.copy x0 x1 x2)
def Qe(x0:List Value)(x1:Operand):Bool:=dG (.clear x0 x1)
def Ny(x0:Bool)(x1:List Operand):Bool:=dG (.eC x0 x1)
def Nt(x0:Bool)(x1:List dU)(x2:Operand)(x3:Operand):Bool:=dG (.delete x0 x1 x2 x3)
def Tk(x0:Operand)(x1:List Operand):Bool:=dG (.j6 x0 x1)
def IQ:Bool:=dG (.recover)
def Tq(x0:Operand):Bool:=dG (.xy x0)
def Qm(x0:Operand):Bool:=dG (.range x0)
def To(x0:Operand)(x1:Bool):Bool:=dG (.next x0 x1)
def NB(x0:Operand):Bool:=dG (.mN x0)
def Qf(x0:Operand):Bool:=dG (.entry x0)
def Ey(o:AOp):Bool:=AOp.rec (motive:=λ_=>Bool) VD Tp VE VA Qd Ns Tn Qo NA Vz Xk Ti IN Nz Ql IP Qn Qg Qi Nu Nv Tl Tm Nx Qk IS IM Th VC Nw VB Nr IL Tj Qe Ny Nt Tk IQ Tq Qm To NB Qf o
theorem ia:Ey=dG:=by funext o;cases o<;>rfl
def Ax(o:AOp):Bool:=Gv o||Ey o
theorem gM:Ax=jR:=by funext o;simp only[Ax,jR,Fb,ia]
def kV(o:aV):List Nat:=
 match o.guard with
 |some (t,_)=>t::zY (A4 o.op)
 |none=>zY (A4 o.op)
theorem gU:kV=cS:=by funext o;unfold kV cS;simp only[ET];rfl
def rB:List Value->List Value->Bool
 |[],[]=>true
 |x::xs,y::ys=>bif By x y then rB xs ys else false
 |_,_=>false
def Fh:Value->Value->Bool
 | .agg a, .agg b=>rB a.toList b.toList
 | .tuple a, .tuple b=>rB a.toList b.toList
 | .func (.func f) a' a, .func (.func g) b' b=>f==g&&(rB a'.toList b'.toList&&rB a.toList b.toList)
 |x,y=>By x y
def Gw(h:Heap)(base:Nat)(r:Rec):Bool:=
 match r.k with
 | .quiet=>match Eg h base r.e r.o.op with
   |some (.val v' h2)=>Fh r.v v'&&Nat.beq h2.next h.next
   |_=>false
 |_=>true
def Bs(h:Heap)(base:Nat):List Rec->Bool
 |[]=>true
 |r::rs=>bif Gw h base r then Bs h base rs else false
def jj(h:Heap)(base:Nat)(log:List Nat)(mask:Nat):List Rec->Option (List Rec)
 |[]=>some []
 |r::rs=>bif Nat.testBit mask r.i then jj h base log mask rs else
  bif Gw h base r&&Ik log r then match jj h base log mask rs with
   |some rs'=>some (r::rs')
   |none=>none
  else none
theorem Ir:rB=jN:=by
 funext a;induction a with
 |nil=>funext b;cases b<;>rfl
 |cons x a ih=>funext b;cases b<;>first|rfl|(simp only[rB,jN,zR,ih])
theorem Is:Fh=iy:=by
 funext a b;unfold Fh iy;simp only[Ir,zR];first|done|rfl
theorem DJ:Gw=rz:=by
 funext h base r;unfold Gw rz;simp only[jW,Is];first|done|rfl
theorem iL:Bs=oI:=by
 funext h base rs;induction rs with
 |nil=>rfl
 |cons r rs ih=>simp only[Bs,oI,DJ,ih]
theorem eT:jj=bC:=by
 funext h base log mask rs;induction rs with
 |nil=>rfl
 |cons r rs ih=>simp only[jj,bC,DJ,ih];first|done|rfl
def Ml(T:Nat->Option an)(F:Fam)(base:Nat)(rnd:Option Nat)(ops:List aV)(it:Nat)(x:Operand)(keep:List Nat)(out nxt pr:Nat)(ops2:List aV)(k2:List Nat)(body:aR)(e:Env)(ds:Dfs)(h:Heap):Option (bB×Env×Dfs×Heap):=match F.ops base rnd ops e ds h with
 |some (.normal,e0,ds0,h0)=>match ds0 with
  |_::_=>none
  |[]=>match evQ h0 e0 x with
   |some (.map none)=>some (.normal,kg e0 keep,[],h0)
   |some (.map (some m))=>match mI h0 m with
    |some (.map es)=>JM out (kg e0 keep) h0 (nK (λe h=>F.ops (h0.next+1) rnd ops2 e [] h) (λe h=>F.exec (h0.next+1) rnd body e [] h) nxt pr k2 (itE it h0 (kg e0 keep)) (kg e0 keep) ((roM h0 m es).push .dead) es)
    |_=>none
   |_=>none
 |r=>r
def DF(T:Nat->Option an)(F:Fam)(base:Nat)(rnd:Option Nat)(f:Operand)(ps:List Nat)(asg body:aR)(e:Env)(ds:Dfs)(h:Heap):Option (bB×Env×Dfs×Heap):=bif oq h rnd then match evQ h e f with
 |some (.func (.func g) first cap)=>bif gi (T g)then none else
  match F.call g (eD first.toList (eD [.func (.yield h.next) #[] #[]] cap.toList)) {h.push (.loop e ps asg body 0 .normal)with log:=[]}with
  |some (.ret _,h2)=>match mI h2 h.next with
   |some (.loop _ _ _ _ st iK)=>bif Nat.beq st 1 then none else
    some (iK,e,ds,Heap.wr {h2 with log:=aC base h.log h2.log} base h.next .dead)
   |_=>none
  |some (.panic v,h2)=>some (.panic v,e,ds,{h2 with log:=aC base h.log h2.log})
  |none=>none
 |_=>none
 else none
def DG(F:Fam)(l:Nat)(args:List Value)(h:Heap):Option (Res×Heap):=match mI h l with
 |some (.loop e ps asg body 0 .normal)=>match jq e ps args with
  |some e1=>match F.exec h.next (some l) asg e1 [] h with
   |some (.normal,e2,ds2,h2)=>bif notReady (mI h2 l)then none else match F.exec h.next (some l) body e2 ds2 {h2 with cE:=soQ h2.cE l (.loop e ps asg body 1 .normal)}with
    |some (.normal,_,_,h3)=>match mI h3 l with
     |some (.loop _ _ _ _ 1 _)=>some (.ret (.bool true),gcA h {h3 with cE:=soQ h3.cE l (.loop e ps asg body 0 .normal)} (.bool true))
     |_=>none
    |some (.exit i,_,_,h3)=>match mI h3 l with
     |some (.loop _ _ _ _ 1 _)=>some (.ret (.bool false),h3.wr h.next l (.loop e ps asg body 2 (.exit i)))
     |_=>none
    |some (.ret,_,_,h3)=>match mI h3 l with
     |some (.loop _ _ _ _ 1 _)=>some (.ret (.bool false),h3.wr h.next l (.loop e ps asg body 2 .ret))
     |_=>none
    |_=>none
   |_=>none
  |none=>none
 |_=>none
def Jd(T:Nat->Option an)(F:Fam):Nat->Option Nat->aR->Env->Dfs->Heap->Option (bB×Env×Dfs×Heap):=λbase rnd c e ds h=>
 match c with
 | .skip=>some (.normal,e,ds,h)
 | .region ops keep=>match F.ops base rnd ops e ds h with
   |some (.normal,e',ds',h')=>some (.normal,kg e' keep,ds',h')
   |r=>r
 | .draw ops order before keep=>match F.draw base ops order before [] e h with
   |some (.normal,e',h')=>some (.normal,kg e' keep,ds,h')
   |some (x,e',h')=>some (x,e',ds,h')
   |none=>none
 | .seq a b=>match F.exec base rnd a e ds h with
   |some (.normal,e',ds',h')=>F.exec base rnd b e' ds' h'
   |r=>r
 | .cond c a b=>match evQ h e c with
   |some (.bool true)=>F.exec base rnd a e ds h
   |some (.bool false)=>F.exec base rnd b e ds h
   |_=>none
 | .block id b=>match F.exec base rnd b e ds h with
   |some (.exit i,e',ds',h')=>bif Nat.beq i id then some (.normal,e',ds',h')else some (.exit i,e',ds',h')
   |r=>r
 | .loop b=>match F.exec base rnd b e ds h with
   |some (.normal,e',ds',h')=>F.exec base rnd (.loop b) e' ds' h'
   |r=>r
 | .scope b=>F.exec base rnd b e ds h
 | .rangeFunc f ps asg body=>DF T F base rnd f ps asg body e ds h
 | .rangeMap ops it x keep out nxt pr ops2 k2 body=>Ml T F base rnd ops it x keep out nxt pr ops2 k2 body e ds h
 | .exit id=>some (.exit id,e,ds,h)
 | .ret=>some (.ret,e,ds,h)
def QF(T:Nat->Option an)(F:Fam):Nat->Option Nat->List aV->Env->Dfs->Heap->Option (bB×Env×Dfs×Heap):=λbase rnd ops e ds h=>
 match ops with
 |[]=>some (.normal,e,ds,h)
 |o::os=>match sZ e o.guard with
  |some false=>F.ops base rnd os (cC e o.dst (.tuple #[])) ds h
  |some true=>match Eg h base e o.op with
   |some (.val v h')=>F.ops base rnd os (cC e o.dst v) ds h'
   |some (.call fn args h')=>match F.jA fn args {h' with log:=[]}with
    |some (.ret v,h2)=>F.ops base rnd os (cC e o.dst v) ds {h2 with log:=aC base h'.log h2.log}
    |some (.panic v,h2)=>some (.panic v,e,ds,{h2 with log:=aC base h'.log h2.log})
    |none=>none
   |some (.j6 f args)=>match rnd with|some _=>none|none=>F.ops base rnd os (cC e o.dst (.tuple #[])) ((f,args)::ds) h
   |some (.panic v h')=>some (.panic v,e,ds,h')
   |_=>none
  |none=>none
def Jb(T:Nat->Option an)(F:Fam):Nat->List aV->List Nat->List Nat->List Rec->Env->Heap->Option (bB×Env×Heap):=λbase ops order before rs e h=>
 match order with
 |[]=>some (.normal,e,h)
 |i::is=>match bH ops i,bH before i with
  |some o,some mask=>
   match sZ (kg e (kV o)) o.guard with
   |some false=>F.draw base ops is before (⟨i,o,kg e (kV o), .tuple #[], .skip⟩::rs) (cC e o.dst (.tuple #[])) h
   |some true=>
    bif Ax o.op then
     match Eg h base (kg e (kV o)) o.op with
     |some (.val v h')=>
      bif Ey o.op then
       bif Bs h' base rs then F.draw base ops is before (⟨i,o,kg e (kV o),v, .made h.next⟩::rs) (cC e o.dst v) h' else none
      else bif Nat.beq h'.next h.next then F.draw base ops is before (⟨i,o,kg e (kV o),v, .quiet⟩::rs) (cC e o.dst v) h
      else bif Ci before i is then
       match Eg {h with log:=[]} h.next (kg e (kV o)) o.op with
       |some (.val v h2)=>match jj {h2 with log:=aC base h.log h2.log} base h2.log mask rs with
        |some rs'=>F.draw base ops is before rs' (cC e o.dst v) {h2 with log:=aC base h.log h2.log}
        |none=>none
       |_=>none
      else none
     |_=>none
    else
     match Eg {h with log:=[]} h.next (kg e (kV o)) o.op with
     |some (.val v h2)=>match jj {h2 with log:=aC base h.log h2.log} base h2.log mask rs with
      |some rs'=>F.draw base ops is before rs' (cC e o.dst v) {h2 with log:=aC base h.log h2.log}
      |none=>none
     |some (.call fn args _)=>match F.jA fn args {h with log:=[]}with
      |some (.ret v,h2)=>match jj {h2 with log:=aC base h.log h2.log} base h2.log mask rs with
       |some rs'=>F.draw base ops is before rs' (cC e o.dst v) {h2 with log:=aC base h.log h2.log}
       |none=>none
      |some (.panic v,h2)=>some (.panic v,[],{h2 with log:=aC base h.log h2.log})
      |none=>none
     |_=>none
   |none=>none
  |_,_=>none
def FM(T:Nat->Option an)(F:Fam):Fn->List Value->Heap->Option (Res×Heap):=λfn args h=>
 match fn with
 | .func f=>F.call f args h
 | .yield l=>DG F l args h
 |_=>none
def Ja(T:Nat->Option an)(F:Fam):Nat->List Value->Heap->Option (Res×Heap):=λf args h=>
 match T f with
 |none=>none
 |some (.kT p)=>match p args h with
  |some (v,h')=>some (.ret v,h')
  |none=>none
 |some (.code code results)=>match F.exec h.next none code (dZ 0 args) [] h with
  |some (.panic v,e,ds,h1)=>F.unw results ds (some v) e h h1
  |some (.exit _,_,_,_)=>none
  |some (_,e,ds,h1)=>F.unw results ds none e h h1
  |none=>none
def QJ(T:Nat->Option an)(F:Fam):List (Nat×Option (Option Nat))->Dfs->Option Value->Env->Heap->Heap->Option (Res×Heap):=λresults ds pan e h h1=>
 match ds with
 |[]=>match pan with
  |some v=>some (.panic v,h1)
  |none=>match Mz h1 e results with
   |some vs=>some (.ret (eE vs),gcA h h1 (eE vs))
   |none=>none
 |(.func (.func g) first cap,args)::ds=>match F.defer g (eD first.toList (eD args cap.toList)) pan {h1 with log:=[]}with
  |some (pan',h2)=>F.unw results ds pan' e h {h2 with log:=aC h.next h1.log h2.log}
  |none=>none
 |_=>none
def FN(T:Nat->Option an)(F:Fam):Nat->List Value->Option Value->Heap->Option (Option Value×Heap):=λg args pan h=>
 match T g with
 |some (.code code [])=>match F.iC h.next code (dZ 0 args) pan h with
  |some (.normal,_,pan',h')=>some (pan',h')
  |some (.ret,_,pan',h')=>some (pan',h')
  |_=>none
 |_=>none
def FO(T:Nat->Option an)(F:Fam):Nat->aR->Env->Option Value->Heap->Option (bB×Env×Option Value×Heap):=λbase c e pan h=>
 match c with
 | .skip=>some (.normal,e,pan,h)
 | .region ops keep=>match F.mL base ops e pan h with
   |some (.normal,e',pan',h')=>some (.normal,kg e' keep,pan',h')
   |r=>r
 | .seq a b=>match F.iC base a e pan h with
   |some (.normal,e',pan',h')=>F.iC base b e' pan' h'
   |r=>r
 | .cond c a b=>match evQ h e c with
   |some (.bool true)=>F.iC base a e pan h
   |some (.bool false)=>F.iC base b e pan h
   |_=>none
 | .ret=>some (.ret,e,pan,h)
 |_=>none
def Jf(T:Nat->Option an)(F:Fam):Nat->List aV->Env->Option Value->Heap->Option (bB×Env×Option Value×Heap):=λbase ops e pan h=>
 match ops with
 |[]=>some (.normal,e,pan,h)
 |o::os=>match sZ e o.guard with
  |some false=>F.mL base os (cC e o.dst (.tuple #[])) pan h
  |some true=>match Eg h base e o.op with
   |some (.val v h')=>F.mL base os (cC e o.dst v) pan h'
   |some .recover=>match pan with
    |some v=>F.mL base os (cC e o.dst v) none h
    |none=>F.mL base os (cC e o.dst .nilIface) none h
   |_=>none
  |none=>none
def Fam.MV(T:Nat->Option an)(F:Fam):Fam where
 exec:=Jd T F
 ops:=QF T F
 draw:=Jb T F
 jA:=FM T F
 call:=Ja T F
 unw:=QJ T F
 defer:=FN T F
 iC:=FO T F
 mL:=Jf T F
def Az(T:Nat->Option an)(n:Nat):Fam:=Nat.rec Fam.none (λ_ F=>Fam.MV T F) n
theorem F2(T:Nat->Option an):∀n,Az T n={exec:=cB T n,ops:=gw T n,draw:=eR T n,jA:=gu T n,call:=iU T n,unw:=oP T n,defer:=kH T n,iC:=iP T n,mL:=jL T n}
 |0=>by
  show Fam.none=_;unfold Fam.none;simp only[Fam.mk.injEq];refine⟨?_,?_,?_,?_,?_,?_,?_,?_,?_⟩
  ·funext x0 x1 x2 x3 x4 x5;simp only[cB]
  ·funext x0 x1 x2 x3 x4 x5;simp only[gw]
  ·funext x0 x1 x2 x3 x4 x5 x6;simp only[eR]
  ·funext x0 x1 x2;simp only[gu]
  ·funext x0 x1 x2;simp only[iU]
  ·funext x0 x1 x2 x3 x4 x5;simp only[oP]
  ·funext x0 x1 x2 x3;simp only[kH]
  ·funext x0 x1 x2 x3 x4;simp only[iP]
  ·funext x0 x1 x2 x3 x4;simp only[jL]
 |n+1=>by
  show Fam.MV T (Az T n)=_;rw[F2 T n];unfold Fam.MV;simp only[Fam.mk.injEq];refine⟨?_,?_,?_,?_,?_,?_,?_,?_,?_⟩
  ·funext x0 x1 x2 x3 x4 x5;refine Eq.trans ?_ (cB.eq_def T (n+1) x0 x1 x2 x3 x4 x5).symm;unfold Jd DF Ml;first|rfl|(simp only[bP,bt,bw,bT,mP,jC,gV,kU,jS,jW,iL,eT,aY,gU,gM,ia];rfl)
  ·funext x0 x1 x2 x3 x4 x5;refine Eq.trans ?_ (gw.eq_def T (n+1) x0 x1 x2 x3 x4 x5).symm;unfold QF;first|rfl|(simp only[bP,bt,bw,bT,mP,jC,gV,kU,jS,jW,iL,eT,aY,gU,gM,ia];rfl)
  ·funext x0 x1 x2 x3 x4 x5 x6;refine Eq.trans ?_ (eR.eq_def T (n+1) x0 x1 x2 x3 x4 x5 x6).symm;unfold Jb;first|rfl|(simp only[bP,bt,bw,bT,mP,jC,gV,kU,jS,jW,iL,eT,aY,gU,gM,ia];rfl)
  ·funext x0 x1 x2;refine Eq.trans ?_ (gu.eq_def T (n+1) x0 x1 x2).symm;unfold FM DG;first|rfl|(simp only[bP,bt,bw,bT,mP,jC,gV,kU,jS,jW,iL,eT,aY,gU,gM,ia];rfl)
  ·funext x0 x1 x2;refine Eq.trans ?_ (iU.eq_def T (n+1) x0 x1 x2).symm;unfold Ja;first|rfl|(simp only[bP,bt,bw,bT,mP,jC,gV,kU,jS,jW,iL,eT,aY,gU,gM,ia];rfl)
  ·funext x0 x1 x2 x3 x4 x5;refine Eq.trans ?_ (oP.eq_def T (n+1) x0 x1 x2 x3 x4 x5).symm;unfold QJ;first|rfl|(simp only[bP,bt,bw,bT,mP,jC,gV,kU,jS,jW,iL,eT,aY,gU,gM,ia];rfl)
  ·funext x0 x1 x2 x3;refine Eq.trans ?_ (kH.eq_def T (n+1) x0 x1 x2 x3).symm;unfold FN;first|rfl|(simp only[bP,bt,bw,bT,mP,jC,gV,kU,jS,jW,iL,eT,aY,gU,gM,ia];rfl)
  ·funext x0 x1 x2 x3 x4;refine Eq.trans ?_ (iP.eq_def T (n+1) x0 x1 x2 x3 x4).symm;unfold FO;first|rfl|(simp only[bP,bt,bw,bT,mP,jC,gV,kU,jS,jW,iL,eT,aY,gU,gM,ia];rfl)
  ·funext x0 x1 x2 x3 x4;refine Eq.trans ?_ (jL.eq_def T (n+1) x0 x1 x2 x3 x4).symm;unfold Jf;first|rfl|(simp only[bP,bt,bw,bT,mP,jC,gV,kU,jS,jW,iL,eT,aY,gU,gM,ia];rfl)
end Go.A
