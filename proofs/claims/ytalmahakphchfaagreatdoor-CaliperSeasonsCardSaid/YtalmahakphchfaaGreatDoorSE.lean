/- The runs once more, for the kernel. -/
import Derived.Test.YtalmahakphchfaaGreatDoorSA
set_option linter.all false
namespace Go.A
noncomputable def NQ(k:IntKind):Nat:=IntKind.rec (motive:=fun _=>Nat) 0 1 2 3 4 5 6 7 k
noncomputable def kEq(a b:IntKind):Bool:=Nat.beq (NQ a) (NQ b)
theorem vX(a b:IntKind):kEq a b=decide (a=b):=by cases a<;>cases b<;>rfl
noncomputable def EY(m:Nat)(b:Int):Bool:=Int.rec (motive:=fun _=>Bool) (fun n=>Nat.beq m n) (fun _=>false) b
noncomputable def EX(m:Nat)(b:Int):Bool:=Int.rec (motive:=fun _=>Bool) (fun _=>false) (fun n=>Nat.beq m n) b
noncomputable def iEq(a b:Int):Bool:=Int.rec (motive:=fun _=>Int→Bool) EY EX a b
theorem Ad(a b:Int):iEq a b=(a==b):=by
 rw[Bool.eq_iff_iff]
 simp only[beq_iff_eq]
 cases a<;>cases b<;>simp[iEq,EY,EX,Nat.beq_eq]<;>omega
noncomputable def E2(m:Nat)(b:Int):Bool:=Int.rec (motive:=fun _=>Bool) (fun n=>Nat.blt m n) (fun _=>false) b
noncomputable def EZ(m:Nat)(b:Int):Bool:=Int.rec (motive:=fun _=>Bool) (fun _=>true) (fun n=>Nat.blt n m) b
noncomputable def iLt(a b:Int):Bool:=Int.rec (motive:=fun _=>Int→Bool) E2 EZ a b
theorem K4(a b:Int):iLt a b=decide (a<b):=by
 rw[Bool.eq_iff_iff]
 simp only[decide_eq_true_eq]
 cases a<;>cases b<;>simp[iLt,E2,EZ,Nat.blt_eq]<;>omega
noncomputable def topP(k:IntKind):Nat:=IntKind.rec (motive:=fun _=>Nat) 128 32768 2147483648 9223372036854775808 256 65536 4294967296 18446744073709551616 k
noncomputable def topN(k:IntKind):Nat:=IntKind.rec (motive:=fun _=>Nat) 128 32768 2147483648 9223372036854775808 0 0 0 0 k
noncomputable def KA(k:IntKind)(n:Int):Int:=Int.rec (motive:=fun _=>Int) (fun m=>bif Nat.blt m (topP k)then .ofNat m else k.wrap (.ofNat m)) (fun m=>bif Nat.blt m (topN k)then .negSucc m else k.wrap (.negSucc m)) n
theorem HQ(k:IntKind)(n:Int):KA k n=fI k n:=by cases n<;>cases k<;>rfl
noncomputable def Lr{α:Type}(m:Nat)(f:Nat→α):α:=Nat.rec (motive:=fun _=>α) (f 0) (fun n _=>f (Nat.succ n)) m
theorem Iv{α:Type}(m:Nat)(f:Nat→α):Lr m f=f m:=by cases m<;>rfl
noncomputable def K6{α:Type}(m:Int)(f:Int→α):α:=Int.rec (motive:=fun _=>α) (fun n=>Lr n fun n=>f (.ofNat n)) (fun n=>Lr n fun n=>f (.negSucc n)) m
theorem Io{α:Type}(m:Int)(f:Int→α):K6 m f=f m:=by cases m<;>simp[K6,Iv]
noncomputable def mkI(k:IntKind)(n:Int):Option Value:=K6 (KA k n) fun n=>some (.int k n)
noncomputable def Eh(k:IntKind)(x y:Int):Option Value:=mkI k (x+y)
noncomputable def Et(k:IntKind)(x y:Int):Option Value:=mkI k (x-y)
noncomputable def Eo(k:IntKind)(x y:Int):Option Value:=mkI k (x*y)
noncomputable def Ej(_:IntKind)(x y:Int):Option Value:=some (.bool (iEq x y))
noncomputable def Ep(_:IntKind)(x y:Int):Option Value:=some (.bool (Bool.rec true false (iEq x y)))
noncomputable def En(_:IntKind)(x y:Int):Option Value:=some (.bool (iLt x y))
noncomputable def Em(_:IntKind)(x y:Int):Option Value:=some (.bool (Bool.rec true false (iLt y x)))
noncomputable def El(_:IntKind)(x y:Int):Option Value:=some (.bool (iLt y x))
noncomputable def Ek(_:IntKind)(x y:Int):Option Value:=some (.bool (Bool.rec true false (iLt x y)))
def Er(k:IntKind)(x y:Int):Option Value:=arith .quo k x y
def Es(k:IntKind)(x y:Int):Option Value:=arith .rem k x y
def Ei(k:IntKind)(x y:Int):Option Value:=arith .and k x y
def Kg(k:IntKind)(x y:Int):Option Value:=arith .or k x y
def Eu(k:IntKind)(x y:Int):Option Value:=arith .xor k x y
def uI(k:IntKind)(x y:Int):Option Value:=arith .andNot k x y
noncomputable def FD(k:IntKind)(x:Int)(k':IntKind)(y:Int):Option Value:=Bool.rec none (Eh k x y) (kEq k k')
noncomputable def FQ(k:IntKind)(x:Int)(k':IntKind)(y:Int):Option Value:=Bool.rec none (Et k x y) (kEq k k')
noncomputable def FK(k:IntKind)(x:Int)(k':IntKind)(y:Int):Option Value:=Bool.rec none (Eo k x y) (kEq k k')
noncomputable def FM(k:IntKind)(x:Int)(k':IntKind)(y:Int):Option Value:=Bool.rec none (Er k x y) (kEq k k')
noncomputable def FN(k:IntKind)(x:Int)(k':IntKind)(y:Int):Option Value:=Bool.rec none (Es k x y) (kEq k k')
noncomputable def FE(k:IntKind)(x:Int)(k':IntKind)(y:Int):Option Value:=Bool.rec none (Ei k x y) (kEq k k')
noncomputable def Lq(k:IntKind)(x:Int)(k':IntKind)(y:Int):Option Value:=Bool.rec none (Kg k x y) (kEq k k')
noncomputable def FT(k:IntKind)(x:Int)(k':IntKind)(y:Int):Option Value:=Bool.rec none (Eu k x y) (kEq k k')
def FO(k:IntKind)(x:Int)(_:IntKind)(y:Int):Option Value:=mD .shl k x y
def FP(k:IntKind)(x:Int)(_:IntKind)(y:Int):Option Value:=mD .shr k x y
noncomputable def tC(k:IntKind)(x:Int)(k':IntKind)(y:Int):Option Value:=Bool.rec none (uI k x y) (kEq k k')
noncomputable def FF(k:IntKind)(x:Int)(k':IntKind)(y:Int):Option Value:=Bool.rec none (Ej k x y) (kEq k k')
noncomputable def FL(k:IntKind)(x:Int)(k':IntKind)(y:Int):Option Value:=Bool.rec none (Ep k x y) (kEq k k')
noncomputable def FJ(k:IntKind)(x:Int)(k':IntKind)(y:Int):Option Value:=Bool.rec none (En k x y) (kEq k k')
noncomputable def FI(k:IntKind)(x:Int)(k':IntKind)(y:Int):Option Value:=Bool.rec none (Em k x y) (kEq k k')
noncomputable def FH(k:IntKind)(x:Int)(k':IntKind)(y:Int):Option Value:=Bool.rec none (El k x y) (kEq k k')
noncomputable def FG(k:IntKind)(x:Int)(k':IntKind)(y:Int):Option Value:=Bool.rec none (Ek k x y) (kEq k k')
noncomputable def FV(op:BinOp):IntKind→Int→IntKind→Int→Option Value:=BinOp.rec (motive:=fun _=>IntKind→Int→IntKind→Int→Option Value) FD FQ FK FM FN FE Lq FT FO FP tC FF FL FJ FI FH FG op
noncomputable def Ls(op:BinOp)(x y:Value):Option Value:=
 match x with
 | .int k a=>match y with
   | .int k' b=>FV op k a k' b
   |_=>none
 | .string a=>match y with
   | .string b=>zH op a b
   |_=>none
 |_=>none
theorem Ez{α:Type}(x y:α)(b:Bool):(Bool.rec x y b:α)=bif b then y else x:=by cases b<;>rfl
theorem Lm(k:IntKind)(n:Int):mkI k n=some (.int k (fI k n)):=by simp[mkI,Io,HQ]
theorem bG:Ls=aA:=by
 funext op x y
 unfold Ls
 split
 ·rename_i k a
  split
  ·rename_i k' b
   by_cases hk:k=k'
   ·subst hk
    cases op<;>simp[FV,aA,FD,FQ,FK,FM,FN,FE,Lq,FT,FO,FP,tC,FF,FL,FJ,FI,FH,FG,Eh,Et,Eo,Er,Es,Ei,Kg,Eu,uI,Ej,Ep,En,Em,El,Ek,vX,Ez,Lm,arith,kV,Ad,K4]
    all_goals first
     |(simp[bne];done)
     |(rw[Bool.eq_iff_iff];simp;done)
     |(rw[Bool.eq_iff_iff];simp;omega)
   ·cases op<;>simp[FV,aA,FD,FQ,FK,FM,FN,FE,Lq,FT,FO,FP,tC,FF,FL,FJ,FI,FH,FG,vX,Ez,hk]
  ·rename_i hy
   cases op<;>cases y<;>first|rfl|exact(hy _ _ rfl).elim
 ·split
  ·cases op<;>rfl
  ·rename_i hy
   cases op<;>cases y<;>first|rfl|exact(hy _ rfl).elim
 ·rename_i h1 h2
  cases op<;>cases x<;>first|rfl|exact(h1 _ _ rfl).elim|exact(h2 _ rfl).elim
noncomputable def Qs(_:Nat):Option Value:=none
noncomputable def Qr(p:Nat×Value)(_:Env)(ih:Nat→Option Value)(t:Nat):Option Value:=Bool.rec (ih t) (some p.2) (Nat.beq p.1 t)
noncomputable def geQ(e:Env)(t:Nat):Option Value:=List.rec (motive:=fun _=>Nat→Option Value) Qs Qr e t
theorem jv:geQ=geT:=by
 funext e t
 induction e with
 |nil=>rfl
 |cons p e ih=>
  obtain⟨k,v⟩:=p
  show(Bool.rec (geQ e t) (some v) (Nat.beq k t):Option Value)=_
  rw[Ez,ih];rfl
noncomputable def NS(t:Nat)(l:Env)(v:Value):Env:=(t,v)::l
noncomputable def Qz(_:Env):Env:=[]
noncomputable def Qy(t:Nat)(_:List Nat)(ih:Env→Env)(e:Env):Env:=Option.rec (motive:=fun _=>Env) (ih e) (NS t (ih e)) (geQ e t)
noncomputable def jM(e:Env)(l:List Nat):Env:=List.rec (motive:=fun _=>Env→Env) Qz Qy l e
theorem iZ:jM=cu:=by
 funext e l
 induction l with
 |nil=>rfl
 |cons t l ih=>
  show(Option.rec (jM e l) (NS t (jM e l)) (geQ e t):Env)=_
  rw[jv,ih]
  simp only[cu]
  cases geT e t<;>rfl
noncomputable def Qu(_:Nat):Option bK:=none
noncomputable def Qt(p:Nat×bK)(_:List (Nat×bK))(ih:Nat→Option bK)(t:Nat):Option bK:=Bool.rec (ih t) (some p.2) (Nat.beq p.1 t)
noncomputable def goQ(e:List (Nat×bK))(t:Nat):Option bK:=List.rec (motive:=fun _=>Nat→Option bK) Qu Qt e t
theorem K3:goQ=eO:=by
 funext e t
 induction e with
 |nil=>rfl
 |cons p e ih=>
  obtain⟨k,v⟩:=p
  show(Bool.rec (goQ e t) (some v) (Nat.beq k t):Option bK)=_
  rw[Ez,ih];rfl
noncomputable def kW(h:Heap)(b:Nat):Option bK:=goQ h.bW b
theorem bw:kW=Heap.get:=by funext h b;simp[kW,Heap.get,K3]
noncomputable def QL(_:Nat)(_:bK):List (Nat×bK):=[]
noncomputable def QK(p:Nat×bK)(l:List (Nat×bK))(ih:Nat→bK→List (Nat×bK))(t:Nat)(o:bK):List (Nat×bK):=Bool.rec (p::ih t o) ((p.1,o)::l) (Nat.beq p.1 t)
noncomputable def soQ(e:List (Nat×bK))(t:Nat)(o:bK):List (Nat×bK):=List.rec (motive:=fun _=>Nat→bK→List (Nat×bK)) QL QK e t o
theorem kZ:soQ=ir:=by
 funext e t o
 induction e with
 |nil=>rfl
 |cons p e ih=>
  obtain⟨k,v⟩:=p
  show(Bool.rec ((k,v)::soQ e t o) ((k,o)::e) (Nat.beq k t):List (Nat×bK))=_
  rw[Ez,ih];rfl
noncomputable def wrQ(h:Heap)(base b:Nat)(o:bK):Heap:={h with bW:=soQ h.bW b o,log:=bif Nat.blt b base then(bif eW h.log b then h.log else b::h.log)else h.log}
theorem bM:wrQ=Heap.wr:=by funext h base b o;simp[wrQ,Heap.wr,kZ]
noncomputable def evQ(h:Heap)(e:Env)(x:Operand):Option Value:=Operand.rec (motive:=fun _=>Env→Heap→Option Value) (fun t e _=>geQ e t) (fun v _ _=>some v) (fun g _ h=>ev h [] (.global g)) (fun f _ _=>some (.func (.func f) #[] #[])) x e h
theorem bJ:evQ=ev:=by
 funext h e x
 cases x<;>first|rfl|(show geQ e _=_;rw[jv];rfl)
noncomputable def yb(h:Heap)(e:Env):List Operand→Option (List Value)
 |[]=>some []
 |x::xs=>match evQ h e x with
  |some v=>match yb h e xs with
   |some vs=>some (v::vs)
   |none=>none
  |none=>none
theorem bt:yb=evs:=by
 funext h e l
 induction l with
 |nil=>rfl
 |cons x l ih=>(simp only[yb,evs,bJ,ih];rfl)
noncomputable def yc(h:Heap)(e:Env)(z:List Value):List (Nat×Nat×Operand)→Option (List Value)
 |[]=>some z
 |(off,size,x)::ps=>match evQ h e x with
  |some v=>bif Nat.beq (bO (cellsOf v)) size&&Nat.ble (off+size) (bO z)then yc h e (cg z off (cellsOf v)) ps else none
  |none=>none
theorem aZ:yc=iJ:=by
 funext h e z l
 induction l generalizing z with
 |nil=>rfl
 |cons p l ih=>obtain⟨a,b,x⟩:=p;(simp only[yc,iJ,bJ,ih];rfl)
noncomputable def qk(e:Env)(g:Option (Nat×Bool)):Option Bool:=
 match g with
 |none=>some true
 |some (t,b)=>match geQ e t with
  |some (.bool x)=>some (x==b)
  |some _=>some false
  |none=>none
theorem fZ:qk=bY:=by
 funext e g
 cases g with
 |none=>rfl
 |some p=>obtain⟨t,b⟩:=p;(simp only[qk,bY,jv];rfl)
noncomputable def GO(h:Heap)(e:Env):List (Nat×Option (Option Nat))→Option (List Value)
 |[]=>some []
 |(t,none)::rs=>match geQ e t with
  |some v=>match GO h e rs with
   |some vs=>some (v::vs)
   |none=>none
  |none=>none
 |(t,some n)::rs=>match geQ e t with
  |some a=>match nj h n a with
   |some v=>match GO h e rs with
    |some vs=>some (v::vs)
    |none=>none
   |none=>none
  |none=>none
theorem jW:GO=cm:=by
 funext h e l
 induction l with
 |nil=>rfl
 |cons p l ih=>
  obtain⟨t,n⟩:=p
  cases n<;>(simp only[GO,cm,jv,ih];rfl)
noncomputable def Ff(l:dM)(x y:Value):Option Bool:=
 match l with
 | .i q=>match x with
   | .int k a=>match y with
     | .int k' b=>bif kEq k q&&kEq k' q then some (iEq a b)else none
     |_=>none
   |_=>none
 |l=>ij l x y
theorem Fg:Ff=ij:=by
 funext l x y
 unfold Ff
 split
 ·rename_i q
  split
  ·rename_i k a
   split
   ·rename_i k' b
    simp only[ij,vX,Ad,cond_eq_ite,Bool.and_eq_true,decide_eq_true_eq]
    by_cases h1:k=q<;>by_cases h2:k'=q<;>simp[h1,h2]
   ·rename_i hy
    cases y<;>first|rfl|exact(hy _ _ rfl).elim
  ·rename_i hx
   cases x<;>first|rfl|exact(hx _ _ rfl).elim
 ·rfl
noncomputable def l7:List dM→List Value→List Value→Option Bool
 |[],[],[]=>some true
 |l::ls,x::xs,y::ys=>match Ff l x y with
  |some true=>l7 ls xs ys
  |some false=>match l7 ls xs ys with
   |some _=>some false
   |none=>none
  |none=>none
 |_,_,_=>none
theorem aK:l7=bC:=by
 funext ls
 induction ls with
 |nil=>funext xs ys;cases xs<;>cases ys<;>rfl
 |cons l ls ih=>
  funext xs ys
  cases xs<;>cases ys<;>first|rfl|(simp only[l7,bC,Fg,ih];rfl)
noncomputable def oW(ag:Bool)(ls:List dM)(k:Value):Bool:=
 match oV k==ag,l7 ls (cellsOf k) (cellsOf k)with
 |true,some _=>true
 |_,_=>false
theorem aR:oW=iL:=by funext ag ls k;(simp only[oW,iL,aK];rfl)
noncomputable def Ag(ag:Bool)(ls:List dM)(k k':Value):Option Bool:=
 match oV k'==ag with
 |true=>l7 ls (cellsOf k) (cellsOf k')
 |false=>none
theorem CH:Ag=lC:=by funext ag ls k k';(simp only[Ag,lC,aK];rfl)
noncomputable def uT(ag:Bool)(ls:List dM)(k:Value):Nat→List (Value×Value)→Option (Option (Nat×Value))
 |_,[]=>some none
 |i,(k',v)::es=>match Ag ag ls k k' with
  |some true=>some (some (i,v))
  |some false=>uT ag ls k (i+1) es
  |none=>none
theorem bg:uT=ji:=by
 funext ag ls k i es
 induction es generalizing i with
 |nil=>rfl
 |cons p es ih=>obtain⟨a,b⟩:=p;(simp only[uT,ji,CH,ih];rfl)
noncomputable def wZ(x y:Value):Bool:=
 match x with
 | .int k a=>match y with
   | .int k' b=>kEq k k'&&iEq a b
   |_=>false
 |x=>kQ x y
theorem vk:wZ=kQ:=by
 funext x y
 unfold wZ
 split
 ·rename_i k a
  split
  ·rename_i k' b
   simp only[kQ,vX,Ad]
   by_cases h:k=k'<;>simp[h]
  ·rename_i hy
   cases y<;>first|rfl|exact(hy _ _ rfl).elim
 ·rfl
noncomputable def Fl(h:Heap)(n:Option Nat):Value→Option Value
 | .pointer (some ⟨b,o,none⟩)=>match kW h b with
   |some (.cells vs _ _)=>match n with
    |none=>bD vs o
    |some n=>let l:=bT n (bS o vs);bif Nat.beq (bO l) n then some (.agg l.toArray)else none
   |_=>none
 |_=>none
noncomputable def Bd(h:Heap)(base n:Nat)(v:Value):Value→Option Heap
 | .pointer (some ⟨b,o,none⟩)=>match kW h b with
   |some (.cells vs true sz)=>bif Nat.beq (bO (cellsOf v)) n&&Nat.ble (o+n) (bO vs)&&dG (cellsOf v)then some (wrQ h base b (.cells (cg vs o (cellsOf v)) true sz))else none
   |_=>none
 |_=>none
noncomputable def zZ(h:Heap)(e:Env)(dflt:Nat):Option Operand→Option Nat
 |none=>some dflt
 |some x=>match evQ h e x with
  |some v=>oH v
  |none=>none
noncomputable def xk(h:Heap)(e:Env)(size:Nat)(a:Option Addr)(len cap:Nat)(lo hi mx:Option Operand):Option (Value×Heap):=
 match zZ h e 0 lo,zZ h e len hi with
 |some l,some u=>
  match mx with
  |some _=>match zZ h e 0 mx with
   |some m=>bif Nat.ble l u&&Nat.ble u m&&Nat.ble m (bif Nat.beq cap UNK then len else cap)&&Nat.blt m UNK then
    some (.slice (bif Nat.beq m l then a else match a with|some ⟨b,o,none⟩=>some ⟨b,o+l*size,none⟩|a=>a) (u-l) (m-l),h)
    else none
   |none=>none
  |none=>
   bif Nat.beq cap UNK then
    match a with
    |some ⟨b,o,none⟩=>match kW h b with
     |some (.cells vs _ sz)=>
      bif Nat.beq sz size&&Nat.ble l u&&(Nat.ble u len||Nat.ble (o+u*size) (bO vs))then
       bif Nat.blt l len||Nat.blt l u then some (.slice (some ⟨b,o+l*size,none⟩) (u-l) UNK,h)
       else bif Nat.beq l 0 then some (.slice (some ⟨b,o,none⟩) 0 UNK,h)
       else some (.slice (some ⟨h.next,0,none⟩) 0 UNK,h.push (.cells [] false size))
      else none
     |_=>none
    |_=>none
   else bif Nat.ble l u&&Nat.ble u cap then
    some (.slice (bif Nat.beq cap l then a else match a with|some ⟨b,o,none⟩=>some ⟨b,o+l*size,none⟩|a=>a) (u-l) (cap-l),h)
    else none
 |_,_=>none
noncomputable def Js(h:Heap)(size:Nat):Value→Option (List Value×Nat)
 | .slice none n _=>bif Nat.beq n 0 then some ([],0)else none
 | .slice (some ⟨b,o,none⟩) n _=>match kW h b with
   |some (.cells vs _ _)=>let l:=bT (n*size) (bS o vs);bif Nat.beq (bO l) (n*size)then some (l,n)else none
   |_=>none
 | .slice (some ⟨_,_,some _⟩) n _=>bif Nat.beq n 0 then some ([],0)else none
 | .string s=>bif Nat.beq size 1 then some (s.data.toList.map fun b=> .int .u8 b.toNat,s.size)else none
 |_=>none
noncomputable def si(h:Heap)(base size bytes:Nat)(s:Value)(new:List Value)(n:Nat):Option (Value×Heap):=
 match s with
 | .slice a len cap=>
   bif Nat.beq n 0 then(bif Nat.ble len cap then some (s,h)else none)else
   bif Nat.ble ((2*(len+n)+768)*bytes) 281474976710656 then
    match a with
    |none=>bif Nat.beq len 0&&Nat.beq cap 0 then some (.slice (some ⟨h.next,0,none⟩) n UNK,h.push (.cells new true size))else none
    |some ⟨b,o,none⟩=>match kW h b with
     |some (.cells vs own sz)=>
      bif Nat.beq cap UNK then
       bif own&&Nat.beq sz size then
        bif Nat.ble (o+(len+n)*size) (bO vs)&&dG new then
         some (.slice (some ⟨b,o,none⟩) (len+n) UNK,wrQ h base b (.cells (cg vs (o+len*size) new) true sz))
        else bif Nat.beq o 0&&Nat.beq (len*size) (bO vs)&&dG new then
         some (.slice (some ⟨h.next,0,none⟩) (len+n) UNK,(wrQ h base b .dead).push (.cells (dO vs new) true size))
        else none
       else none
      else bif Nat.ble (len+n) cap then
       bif own&&Nat.ble (o+(len+n)*size) (bO vs)&&dG new then
        some (.slice (some ⟨b,o,none⟩) (len+n) cap,wrQ h base b (.cells (cg vs (o+len*size) new) true sz))
       else none
      else bif Nat.ble (o+len*size) (bO vs)then
       some (.slice (some ⟨h.next,0,none⟩) (len+n) UNK,h.push (.cells (dO (bT (len*size) (bS o vs)) new) true size))
      else none
     |_=>none
    |_=>none
   else none
 |_=>none
theorem aV:Fl=nj:=by
 funext h n v
 unfold Fl nj
 simp only[bJ,bt,aZ,bG,bg,aR,aK,bw,bM];rfl
theorem aY:Bd=pz:=by
 funext h base n v x
 unfold Bd pz
 simp only[bJ,bt,aZ,bG,bg,aR,aK,bw,bM];rfl
theorem bR:zZ=bnd:=by
 funext h e d x
 unfold zZ bnd
 simp only[bJ,bt,aZ,bG,bg,aR,aK,bw,bM];rfl
theorem aX:xk=jG:=by
 funext h e size a len cap lo hi mx
 unfold xk jG
 simp only[bJ,bt,aZ,bG,bg,aR,aK,bw,bM,bR];rfl
theorem bX:Js=fN:=by
 funext h size v
 unfold Js fN
 simp only[bJ,bt,aZ,bG,bg,aR,aK,bw,bM];rfl
theorem aP:si=jB:=by
 funext h base size bytes s new n
 unfold si jB
 simp only[bJ,bt,aZ,bG,bg,aR,aK,bw,bM];rfl
noncomputable def Gy(h:Heap)(base:Nat)(e:Env)(x:Operand):Option cC:=cB (evQ h e x) fun v=>some (.val v h)
noncomputable def AW(h:Heap)(base:Nat)(e:Env)(c:Operand)(a:Operand)(b:Operand):Option cC:=match evQ h e c with
 |some (.bool true)=>cB (evQ h e a) fun v=>some (.val v h)
 |some (.bool false)=>cB (evQ h e b) fun v=>some (.val v h)
 |_=>none
noncomputable def Gz(h:Heap)(base:Nat)(e:Env)(z:List Value):Option cC:=some (.val (.pointer (some ⟨h.next,0,none⟩)) (h.push (.cells z true 1)))
noncomputable def Gw(h:Heap)(base:Nat)(e:Env)(x:Operand):Option cC:=cB (evQ h e x) fun v=>some (.val (.pointer (some ⟨h.next,0,none⟩)) (h.push (.cells (cellsOf v) true 1)))
noncomputable def wG(h:Heap)(base:Nat)(e:Env)(z:List Value)(ps:List (Nat×Nat×Operand)):Option cC:=match yc h e z ps with
 |some cs=>some (.val (.agg cs.toArray) h)
 |none=>none
noncomputable def tN(h:Heap)(base:Nat)(e:Env)(z:List Value)(n:Nat)(ps:List (Nat×Nat×Operand)):Option cC:=match yc h e (gi n z) ps with
 |some cs=>some (.val (.slice (some ⟨h.next,0,none⟩) n n) (h.push (.cells cs true (bO z))))
 |none=>none
noncomputable def AU(h:Heap)(base:Nat)(e:Env)(n:Option Nat)(a:Operand):Option cC:=cB (evQ h e a) fun a=>cB (Fl h n a) fun v=>some (.val v h)
noncomputable def wR(h:Heap)(base:Nat)(e:Env)(n:Nat)(a:Operand)(v:Operand):Option cC:=cB (evQ h e a) fun a=>cB (evQ h e v) fun v=>match Bd h base n v a with
 |some h'=>some (.val (.tuple #[]) h')
 |none=>none
noncomputable def tW(h:Heap)(base:Nat)(e:Env)(x:Operand):Option cC:=cB (evQ h e x) fun v=>match v with
 | .pointer none| .nilIface| .nilFunc=>none
 | .func (.method _) _ _=>none
 |v=>some (.val v h)
noncomputable def Gv(h:Heap)(base:Nat)(e:Env):Cp→Operand→Operand→Option cC
 |(.num op),x,y=>cB (evQ h e x) fun x=>cB (evQ h e y) fun y=>cB (Ls op x y) fun v=>some (.val v h)
 |(.beq neq),x,y=>match evQ h e x,evQ h e y with
  |some (.bool a),some (.bool b)=>some (.val (.bool (bif neq then !(a==b)else a==b)) h)
  |_,_=>none
 |(.nil k neq),x,y=>cB (evQ h e x) fun x=>cB (evQ h e y) fun y=>match oJ k x y with
  |some b=>some (.val (.bool (bif neq then !b else b)) h)
  |none=>none
 |(.agg neq ls),x,y=>cB (evQ h e x) fun x=>cB (evQ h e y) fun y=>match x,y with
  | .agg xs, .agg ys=>match l7 ls xs.toList ys.toList with
    |some b=>some (.val (.bool (bif neq then !b else b)) h)
    |none=>none
  |_,_=>none
noncomputable def L4(h:Heap)(base:Nat)(e:Env)(op:UnOp)(x:Operand):Option cC:=cB (evQ h e x) fun x=>cB (uj op x) fun v=>some (.val v h)
noncomputable def AO(h:Heap)(base:Nat)(e:Env)(c:Cv)(x:Operand):Option cC:=cB (evQ h e x) fun x=>gN (oE h c x)
noncomputable def qY(h:Heap)(base:Nat)(e:Env)(t:TypeId)(x:Operand):Option cC:=cB (evQ h e x) fun v=>some (.val (.iface t v) h)
noncomputable def tV(h:Heap)(base:Nat)(e:Env)(fn:Fn)(fs:List Operand)(cs:List Operand):Option cC:=match yb h e fs,yb h e cs with
 |some fs,some cs=>some (.val (.func fn fs.toArray cs.toArray) h)
 |_,_=>none
noncomputable def wO(h:Heap)(base:Nat)(e:Env):Option cC:=some (.val (.map (some h.next)) (h.push (.map [])))
noncomputable def qZ(h:Heap)(base:Nat)(e:Env)(z:List Value)(bytes:Nat)(l:Operand)(c:Operand):Option cC:=match evQ h e l,evQ h e c with
 |some l,some c=>match oH l,oH c with
  |some l,some c=>bif Nat.ble l c&&Nat.ble (bytes*c) 281474976710656&&Nat.blt c UNK then
   some (.val (.slice (some ⟨h.next,0,none⟩) l c) (h.push (.cells (gi c z) true (bO z))))
   else none
  |_,_=>none
 |_,_=>none
noncomputable def wQ(h:Heap)(base:Nat)(e:Env):ASl→Operand→Option Operand→Option Operand→Option Operand→Option cC
 | .str,x,lo,hi,none=>match evQ h e x with
   |some (.string s)=>match zZ h e 0 lo,zZ h e s.size hi with
    |some l,some u=>bif Nat.ble l u&&Nat.ble u s.size then some (.val (.string (s.extract l u)) h)else none
    |_,_=>none
   |_=>none
 |(.sl size),x,lo,hi,mx=>match evQ h e x with
  |some (.slice a len cap)=>gN (xk h e size a len cap lo hi mx)
  |_=>none
 |(.arr n size),x,lo,hi,mx=>match evQ h e x with
  |some (.pointer (some a))=>gN (xk h e size (some a) n n lo hi mx)
  |_=>none
 | .str,_,_,_,(some _)=>none
noncomputable def wK(h:Heap)(base:Nat)(e:Env)(off:Nat)(x:Operand):Option cC:=match evQ h e x with
 |some (.pointer (some ⟨b,o,none⟩))=>some (.val (.pointer (some ⟨b,o+off,none⟩)) h)
 |_=>none
noncomputable def wM(h:Heap)(base:Nat)(e:Env)(off:Nat)(n:Option Nat)(x:Operand):Option cC:=match evQ h e x with
 |some (.agg cs)=>match n with
  |none=>cB (bD cs.toList off) fun v=>some (.val v h)
  |some n=>let l:=bT n (bS off cs.toList);bif Nat.beq (bO l) n then some (.val (.agg l.toArray) h)else none
 |_=>none
noncomputable def tP(h:Heap)(base:Nat)(e:Env)(len:Nat)(size:Nat)(x:Operand)(i:Operand):Option cC:=match evQ h e x,evQ h e i with
 |some (.pointer (some ⟨b,o,none⟩)),some (.int _ (.ofNat i))=>bif Nat.blt i len then some (.val (.pointer (some ⟨b,o+i*size,none⟩)) h)else none
 |_,_=>none
noncomputable def tQ(h:Heap)(base:Nat)(e:Env)(size:Nat)(x:Operand)(i:Operand):Option cC:=match evQ h e x,evQ h e i with
 |some (.slice (some ⟨b,o,none⟩) len _),some (.int _ (.ofNat i))=>bif Nat.blt i len then some (.val (.pointer (some ⟨b,o+i*size,none⟩)) h)else none
 |_,_=>none
noncomputable def AR(h:Heap)(base:Nat)(e:Env)(len:Nat)(size:Nat)(n:Option Nat)(x:Operand)(i:Operand):Option cC:=match evQ h e x,evQ h e i with
 |some (.agg cs),some (.int _ (.ofNat i))=>bif Nat.blt i len then
  match n with
  |none=>cB (bD cs.toList (i*size)) fun v=>some (.val v h)
  |some n=>let l:=bT n (bS (i*size) cs.toList);bif Nat.beq (bO l) n then some (.val (.agg l.toArray) h)else none
  else none
 |_,_=>none
noncomputable def AT(h:Heap)(base:Nat)(e:Env)(x:Operand)(i:Operand):Option cC:=match evQ h e x,evQ h e i with
 |some (.string s),some (.int _ (.ofNat i))=>match bD s.data.toList i with
  |some b=>some (.val (.int .u8 b.toNat) h)
  |none=>none
 |_,_=>none
noncomputable def tT(h:Heap)(base:Nat)(e:Env)(ag:Bool)(ls:List dM)(z:Value)(ok:Bool)(m:Operand)(k:Operand):Option cC:=match evQ h e m,evQ h e k with
 |some (.map none),some k=>bif oW ag ls k then some (.val (bif ok then .tuple #[z, .bool false]else z) h)else none
 |some (.map (some r)),some k=>match tq (kW h r)with
  |some es=>bif oW ag ls k then match uT ag ls k 0 es with
   |some (some (_,v))=>some (.val (bif ok then .tuple #[v, .bool true]else v) h)
   |some none=>some (.val (bif ok then .tuple #[z, .bool false]else z) h)
   |none=>none else none
  |none=>none
 |_,_=>none
noncomputable def wN(h:Heap)(base:Nat)(e:Env)(ag:Bool)(ls:List dM)(m:Operand)(k:Operand)(v:Operand):Option cC:=match evQ h e m,evQ h e k,evQ h e v with
 |some (.map (some r)),some k,some v=>match kW h r with
  |some (.map es)=>bif oW ag ls k then match uT ag ls k 0 es with
   |some (some (i,_))=>some (.val (.tuple #[]) (wrQ h base r (.map (pX es i (k,v)))))
   |some none=>some (.val (.tuple #[]) (wrQ h base r (.map (dO es [(k,v)]))))
   |none=>none else none
  |_=>none
 |_,_,_=>none
noncomputable def ri(h:Heap)(base:Nat)(e:Env)(t:TypeId)(ok:Bool)(z:Value)(x:Operand):Option cC:=match evQ h e x with
 |some .nilIface=>bif ok then some (.val (.tuple #[z, .bool false]) h)else none
 |some (.iface t' v)=>if t'=t then some (.val (bif ok then .tuple #[v, .bool true]else v) h)
  else bif ok then some (.val (.tuple #[z, .bool false]) h)else none
 |_=>none
noncomputable def qX(h:Heap)(base:Nat)(e:Env)(t:Operand)(i:Nat):Option cC:=match evQ h e t with
 |some (.tuple vs)=>cB (bD vs.toList i) fun v=>some (.val v h)
 |_=>none
noncomputable def AN(h:Heap)(base:Nat)(e:Env)(f:Operand)(args:List Operand):Option cC:=match evQ h e f,yb h e args with
 |some f,some args=>mY f args h
 |_,_=>none
noncomputable def tR(h:Heap)(base:Nat)(e:Env):Nat→Operand→Option cC
 |0,x=>match evQ h e x with
  |some (.string s)=>some (.val (.int .i64 s.size) h)
  |_=>none
 |1,x=>match evQ h e x with
  |some (.slice _ n _)=>some (.val (.int .i64 n) h)
  |_=>none
 |_,x=>match evQ h e x with
  |some (.map none)=>some (.val (.int .i64 0) h)
  |some (.map (some r))=>match tq (kW h r)with
   |some es=>some (.val (.int .i64 (bO es)) h)
   |none=>none
  |_=>none
noncomputable def tS(h:Heap)(base:Nat)(e:Env)(n:Nat):Option cC:=some (.val (.int .i64 n) h)
noncomputable def Gx(h:Heap)(base:Nat)(e:Env)(x:Operand):Option cC:=match evQ h e x with
 |some (.slice _ _ c)=>bif Nat.beq c UNK then none else some (.val (.int .i64 c) h)
 |_=>none
noncomputable def tM(h:Heap)(base:Nat)(e:Env)(size:Nat)(bytes:Nat)(s:Operand)(x:Operand):Option cC:=match evQ h e s,evQ h e x with
 |some s,some x=>match Js h size x with
  |some (l,n)=>gN (si h base size bytes s l n)
  |none=>none
 |_,_=>none
noncomputable def qU(h:Heap)(base:Nat)(e:Env)(z:List Value)(bytes:Nat)(s:Operand)(n:Operand):Option cC:=match evQ h e s,evQ h e n with
 |some s,some n=>match oH n with
  |some n=>bif Nat.blt n 9223372036854775808&&Nat.ble (n*bytes) 281474976710656 then gN (si h base (bO z) bytes s (gi n z) n)else none
  |none=>none
 |_,_=>none
noncomputable def AP(h:Heap)(base:Nat)(e:Env)(size:Nat)(d:Operand)(s:Operand):Option cC:=match evQ h e d,evQ h e s with
 |some (.slice a dl _),some s=>match Js h size s with
  |some (l,n)=>
   let m:=Nat.min n dl
   match a with
   |none=>some (.val (.int .i64 m) h)
   |some ⟨b,o,none⟩=>match kW h b with
    |some (.cells vs true sz)=>bif Nat.ble (o+m*size) (bO vs)&&dG (bT (m*size) l)then
     some (.val (.int .i64 m) (wrQ h base b (.cells (cg vs o (bT (m*size) l)) true sz)))
     else none
    |_=>none
   |_=>none
  |none=>none
 |_,_=>none
noncomputable def wH(h:Heap)(base:Nat)(e:Env)(z:List Value)(x:Operand):Option cC:=match evQ h e x with
 |some (.slice a n _)=>
  bif Nat.beq n 0 then some (.val (.tuple #[]) h)else
  match a with
  |none=>some (.val (.tuple #[]) h)
  |some ⟨b,o,none⟩=>match kW h b with
   |some (.cells vs true sz)=>bif Nat.ble (o+bO (gi n z)) (bO vs)&&dG (gi n z)then some (.val (.tuple #[]) (wrQ h base b (.cells (cg vs o (gi n z)) true sz)))else none
   |_=>none
  |_=>none
 |_=>none
noncomputable def tU(h:Heap)(base:Nat)(e:Env)(mx:Bool)(args:List Operand):Option cC:=match yb h e args with
 |some (x::l)=>cB (mmA mx x l) fun v=>some (.val v h)
 |_=>none
noncomputable def tO(h:Heap)(base:Nat)(e:Env)(ag:Bool)(ls:List dM)(m:Operand)(k:Operand):Option cC:=match evQ h e m,evQ h e k with
 |some (.map (some r)),some k=>match kW h r with
  |some (.map es)=>bif oW ag ls k then match uT ag ls k 0 es with
   |some (some (i,_))=>some (.val (.tuple #[]) (wrQ h base r (.map (yH es i))))
   |some none=>some (.val (.tuple #[]) (wrQ h base r (.map es)))
   |none=>none else none
  |_=>none
 |some (.map none),some k=>bif oW ag ls k then some (.val (.tuple #[]) h)else none
 |_,_=>none
noncomputable def AQ(h:Heap)(base:Nat)(e:Env)(f:Operand)(args:List Operand):Option cC:=match evQ h e f,yb h e args with
 |some (.func (.func g) first cap),some args=>some (.jo (.func (.func g) first cap) args)
 |_,_=>none
noncomputable def rf(h:Heap)(base:Nat)(e:Env):Option cC:=some .recover
noncomputable def AX(h:Heap)(base:Nat)(e:Env)(x:Operand):Option cC:=cB (evQ h e x) fun v=>match v with
 | .iface _ _=>some (.panic v h)
 |_=>none
noncomputable def wP(h:Heap)(base:Nat)(e:Env)(x:Operand):Option cC:=match evQ h e x with
 |some (.string s)=>some (.val (.pointer (some ⟨h.next,0,none⟩)) (h.push (.jT s 0)))
 |_=>none
noncomputable def AV(h:Heap)(base:Nat)(e:Env):Operand→Bool→Option cC
 |x,true=>match evQ h e x with
  |some (.pointer (some ⟨r,0,none⟩))=>match kW h r with
   |some (.jT s pos)=>bif Nat.blt pos s.size then
    let d:=Utf8.decode s pos
    some (.val (.tuple #[.bool true, .int .i64 pos, .int .i32 d.1]) (wrQ h base r (.jT s (pos+d.2))))
    else some (.val (.tuple #[.bool false]) h)
   |_=>none
  |_=>none
 |_,false=>none
noncomputable def tX(h:Heap)(base:Nat)(e:Env)(_:Operand):Option cC:=none
noncomputable def wJ(h:Heap)(base:Nat)(e:Env)(_:Operand):Option cC:=none
noncomputable def Oi(x0:Operand)(h:Heap)(base:Nat)(e:Env):Option cC:=Gy h base e x0
noncomputable def Md(x0:Operand)(x1:Operand)(x2:Operand)(h:Heap)(base:Nat)(e:Env):Option cC:=AW h base e x0 x1 x2
noncomputable def Oj(x0:List Value)(h:Heap)(base:Nat)(e:Env):Option cC:=Gz h base e x0
noncomputable def Of(x0:Operand)(h:Heap)(base:Nat)(e:Env):Option cC:=Gw h base e x0
noncomputable def I5(x0:List Value)(x1:List (Nat×Nat×Operand))(h:Heap)(base:Nat)(e:Env):Option cC:=wG h base e x0 x1
noncomputable def GC(x0:List Value)(x1:Nat)(x2:List (Nat×Nat×Operand))(h:Heap)(base:Nat)(e:Env):Option cC:=tN h base e x0 x1 x2
noncomputable def Mb(x0:Option Nat)(x1:Operand)(h:Heap)(base:Nat)(e:Env):Option cC:=AU h base e x0 x1
noncomputable def Je(x0:Nat)(x1:Operand)(x2:Operand)(h:Heap)(base:Nat)(e:Env):Option cC:=wR h base e x0 x1 x2
noncomputable def GL(x0:Operand)(h:Heap)(base:Nat)(e:Env):Option cC:=tW h base e x0
noncomputable def Oe(x0:Cp)(x1:Operand)(x2:Operand)(h:Heap)(base:Nat)(e:Env):Option cC:=Gv h base e x0 x1 x2
noncomputable def QI(x0:UnOp)(x1:Operand)(h:Heap)(base:Nat)(e:Env):Option cC:=L4 h base e x0 x1
noncomputable def L6(x0:Cv)(x1:Operand)(h:Heap)(base:Nat)(e:Env):Option cC:=AO h base e x0 x1
noncomputable def Di(x0:TypeId)(x1:Operand)(h:Heap)(base:Nat)(e:Env):Option cC:=qY h base e x0 x1
noncomputable def GK(x0:Fn)(x1:List Operand)(x2:List Operand)(h:Heap)(base:Nat)(e:Env):Option cC:=tV h base e x0 x1 x2
noncomputable def Jb(h:Heap)(base:Nat)(e:Env):Option cC:=wO h base e
noncomputable def Dj(x0:List Value)(x1:Nat)(x2:Operand)(x3:Operand)(h:Heap)(base:Nat)(e:Env):Option cC:=qZ h base e x0 x1 x2 x3
noncomputable def Jd(x0:ASl)(x1:Operand)(x2:Option Operand)(x3:Option Operand)(x4:Option Operand)(h:Heap)(base:Nat)(e:Env):Option cC:=wQ h base e x0 x1 x2 x3 x4
noncomputable def I8(x0:Nat)(x1:Operand)(h:Heap)(base:Nat)(e:Env):Option cC:=wK h base e x0 x1
noncomputable def I9(x0:Nat)(x1:Option Nat)(x2:Operand)(h:Heap)(base:Nat)(e:Env):Option cC:=wM h base e x0 x1 x2
noncomputable def GF(x0:Nat)(x1:Nat)(x2:Operand)(x3:Operand)(h:Heap)(base:Nat)(e:Env):Option cC:=tP h base e x0 x1 x2 x3
noncomputable def GG(x0:Nat)(x1:Operand)(x2:Operand)(h:Heap)(base:Nat)(e:Env):Option cC:=tQ h base e x0 x1 x2
noncomputable def L9(x0:Nat)(x1:Nat)(x2:Option Nat)(x3:Operand)(x4:Operand)(h:Heap)(base:Nat)(e:Env):Option cC:=AR h base e x0 x1 x2 x3 x4
noncomputable def Ma(x0:Operand)(x1:Operand)(h:Heap)(base:Nat)(e:Env):Option cC:=AT h base e x0 x1
noncomputable def GI(x0:Bool)(x1:List dM)(x2:Value)(x3:Bool)(x4:Operand)(x5:Operand)(h:Heap)(base:Nat)(e:Env):Option cC:=tT h base e x0 x1 x2 x3 x4 x5
noncomputable def Ja(x0:Bool)(x1:List dM)(x2:Operand)(x3:Operand)(x4:Operand)(h:Heap)(base:Nat)(e:Env):Option cC:=wN h base e x0 x1 x2 x3 x4
noncomputable def Dl(x0:TypeId)(x1:Bool)(x2:Value)(x3:Operand)(h:Heap)(base:Nat)(e:Env):Option cC:=ri h base e x0 x1 x2 x3
noncomputable def Dh(x0:Operand)(x1:Nat)(h:Heap)(base:Nat)(e:Env):Option cC:=qX h base e x0 x1
noncomputable def L5(x0:Operand)(x1:List Operand)(h:Heap)(base:Nat)(e:Env):Option cC:=AN h base e x0 x1
noncomputable def Oh(x0:Nat)(x1:Operand)(h:Heap)(base:Nat)(e:Env):Option cC:=tR h base e x0 x1
noncomputable def GH(x0:Nat)(h:Heap)(base:Nat)(e:Env):Option cC:=tS h base e x0
noncomputable def Og(x0:Operand)(h:Heap)(base:Nat)(e:Env):Option cC:=Gx h base e x0
noncomputable def GB(x0:Nat)(x1:Nat)(x2:Operand)(x3:Operand)(h:Heap)(base:Nat)(e:Env):Option cC:=tM h base e x0 x1 x2 x3
noncomputable def Dg(x0:List Value)(x1:Nat)(x2:Operand)(x3:Operand)(h:Heap)(base:Nat)(e:Env):Option cC:=qU h base e x0 x1 x2 x3
noncomputable def L7(x0:Nat)(x1:Operand)(x2:Operand)(h:Heap)(base:Nat)(e:Env):Option cC:=AP h base e x0 x1 x2
noncomputable def I6(x0:List Value)(x1:Operand)(h:Heap)(base:Nat)(e:Env):Option cC:=wH h base e x0 x1
noncomputable def GJ(x0:Bool)(x1:List Operand)(h:Heap)(base:Nat)(e:Env):Option cC:=tU h base e x0 x1
noncomputable def GD(x0:Bool)(x1:List dM)(x2:Operand)(x3:Operand)(h:Heap)(base:Nat)(e:Env):Option cC:=tO h base e x0 x1 x2 x3
noncomputable def L8(x0:Operand)(x1:List Operand)(h:Heap)(base:Nat)(e:Env):Option cC:=AQ h base e x0 x1
noncomputable def Dk(h:Heap)(base:Nat)(e:Env):Option cC:=rf h base e
noncomputable def Me(x0:Operand)(h:Heap)(base:Nat)(e:Env):Option cC:=AX h base e x0
noncomputable def Jc(x0:Operand)(h:Heap)(base:Nat)(e:Env):Option cC:=wP h base e x0
noncomputable def Mc(x0:Operand)(x1:Bool)(h:Heap)(base:Nat)(e:Env):Option cC:=AV h base e x0 x1
noncomputable def GM(x0:Operand)(h:Heap)(base:Nat)(e:Env):Option cC:=tX h base e x0
noncomputable def I7(x0:Operand)(h:Heap)(base:Nat)(e:Env):Option cC:=wJ h base e x0
noncomputable def OS(o:AOp):Heap→Nat→Env→Option cC:=AOp.rec (motive:=fun _=>Heap→Nat→Env→Option cC) Oi Md Oj Of I5 GC Mb Je GL Oe QI L6 Di GK Jb Dj Jd I8 I9 GF GG L9 Ma GI Ja Dl Dh L5 Oh GH Og GB Dg L7 I6 GJ GD L8 Dk Me Jc Mc GM I7 o
noncomputable def zV(h:Heap)(base:Nat)(e:Env)(o:AOp):Option cC:=OS o h base e
theorem jA:zV=aop:=by
 funext h base e o
 cases o
 case mov x0=>show Gy h base e x0=_;first|rfl|(unfold Gy;simp only[bJ,bt,aZ,bG,bg,aR,aK,bw,bM,bR,aV,aY,aX,bX,aP];rfl)
 case pick x0 x1 x2=>show AW h base e x0 x1 x2=_;first|rfl|(unfold AW;simp only[bJ,bt,aZ,bG,bg,aR,aK,bw,bM,bR,aV,aY,aX,bX,aP];rfl)
 case new x0=>show Gz h base e x0=_;first|rfl|(unfold Gz;simp only[bJ,bt,aZ,bG,bg,aR,aK,bw,bM,bR,aV,aY,aX,bX,aP];rfl)
 case box x0=>show Gw h base e x0=_;first|rfl|(unfold Gw;simp only[bJ,bt,aZ,bG,bg,aR,aK,bw,bM,bR,aV,aY,aX,bX,aP];rfl)
 case build x0 x1=>show wG h base e x0 x1=_;first|rfl|(unfold wG;simp only[bJ,bt,aZ,bG,bg,aR,aK,bw,bM,bR,aV,aY,aX,bX,aP];rfl)
 case dA x0 x1 x2=>show tN h base e x0 x1 x2=_;first|rfl|(unfold tN;simp only[bJ,bt,aZ,bG,bg,aR,aK,bw,bM,bR,aV,aY,aX,bX,aP];rfl)
 case load x0 x1=>show AU h base e x0 x1=_;first|rfl|(unfold AU;simp only[bJ,bt,aZ,bG,bg,aR,aK,bw,bM,bR,aV,aY,aX,bX,aP];rfl)
 case store x0 x1 x2=>show wR h base e x0 x1 x2=_;first|rfl|(unfold wR;simp only[bJ,bt,aZ,bG,bg,aR,aK,bw,bM,bR,aV,aY,aX,bX,aP];rfl)
 case bh x0=>show tW h base e x0=_;first|rfl|(unfold tW;simp only[bJ,bt,aZ,bG,bg,aR,aK,bw,bM,bR,aV,aY,aX,bX,aP];rfl)
 case un x0 x1=>show L4 h base e x0 x1=_;first|rfl|(unfold L4;simp only[bJ,bt,aZ,bG,bg,aR,aK,bw,bM,bR,aV,aY,aX,bX,aP];rfl)
 case conv x0 x1=>show AO h base e x0 x1=_;first|rfl|(unfold AO;simp only[bJ,bt,aZ,bG,bg,aR,aK,bw,bM,bR,aV,aY,aX,bX,aP];rfl)
 case gW x0 x1=>show qY h base e x0 x1=_;first|rfl|(unfold qY;simp only[bJ,bt,aZ,bG,bg,aR,aK,bw,bM,bR,aV,aY,aX,bX,aP];rfl)
 case dP x0 x1 x2=>show tV h base e x0 x1 x2=_;first|rfl|(unfold tV;simp only[bJ,bt,aZ,bG,bg,aR,aK,bw,bM,bR,aV,aY,aX,bX,aP];rfl)
 case mkMap=>show wO h base e=_;first|rfl|(unfold wO;simp only[bJ,bt,aZ,bG,bg,aR,aK,bw,bM,bR,aV,aY,aX,bX,aP];rfl)
 case mkSlice x0 x1 x2 x3=>show qZ h base e x0 x1 x2 x3=_;first|rfl|(unfold qZ;simp only[bJ,bt,aZ,bG,bg,aR,aK,bw,bM,bR,aV,aY,aX,bX,aP];rfl)
 case cS x0 x1=>show wK h base e x0 x1=_;first|rfl|(unfold wK;simp only[bJ,bt,aZ,bG,bg,aR,aK,bw,bM,bR,aV,aY,aX,bX,aP];rfl)
 case field x0 x1 x2=>show wM h base e x0 x1 x2=_;first|rfl|(unfold wM;simp only[bJ,bt,aZ,bG,bg,aR,aK,bw,bM,bR,aV,aY,aX,bX,aP];rfl)
 case bE x0 x1 x2 x3=>show tP h base e x0 x1 x2 x3=_;first|rfl|(unfold tP;simp only[bJ,bt,aZ,bG,bg,aR,aK,bw,bM,bR,aV,aY,aX,bX,aP];rfl)
 case aQ x0 x1 x2=>show tQ h base e x0 x1 x2=_;first|rfl|(unfold tQ;simp only[bJ,bt,aZ,bG,bg,aR,aK,bw,bM,bR,aV,aY,aX,bX,aP];rfl)
 case qG x0 x1 x2 x3 x4=>show AR h base e x0 x1 x2 x3 x4=_;first|rfl|(unfold AR;simp only[bJ,bt,aZ,bG,bg,aR,aK,bw,bM,bR,aV,aY,aX,bX,aP];rfl)
 case r9 x0 x1=>show AT h base e x0 x1=_;first|rfl|(unfold AT;simp only[bJ,bt,aZ,bG,bg,aR,aK,bw,bM,bR,aV,aY,aX,bX,aP];rfl)
 case lookup x0 x1 x2 x3 x4 x5=>show tT h base e x0 x1 x2 x3 x4 x5=_;first|rfl|(unfold tT;simp only[bJ,bt,aZ,bG,bg,aR,aK,bw,bM,bR,aV,aY,aX,bX,aP];rfl)
 case iy x0 x1 x2 x3 x4=>show wN h base e x0 x1 x2 x3 x4=_;first|rfl|(unfold wN;simp only[bJ,bt,aZ,bG,bg,aR,aK,bw,bM,bR,aV,aY,aX,bX,aP];rfl)
 case jH x0 x1 x2 x3=>show ri h base e x0 x1 x2 x3=_;first|rfl|(unfold ri;simp only[bJ,bt,aZ,bG,bg,aR,aK,bw,bM,bR,aV,aY,aX,bX,aP];rfl)
 case extract x0 x1=>show qX h base e x0 x1=_;first|rfl|(unfold qX;simp only[bJ,bt,aZ,bG,bg,aR,aK,bw,bM,bR,aV,aY,aX,bX,aP];rfl)
 case call x0 x1=>show AN h base e x0 x1=_;first|rfl|(unfold AN;simp only[bJ,bt,aZ,bG,bg,aR,aK,bw,bM,bR,aV,aY,aX,bX,aP];rfl)
 case jw x0=>show tS h base e x0=_;first|rfl|(unfold tS;simp only[bJ,bt,aZ,bG,bg,aR,aK,bw,bM,bR,aV,aY,aX,bX,aP];rfl)
 case cap x0=>show Gx h base e x0=_;first|rfl|(unfold Gx;simp only[bJ,bt,aZ,bG,bg,aR,aK,bw,bM,bR,aV,aY,aX,bX,aP];rfl)
 case append x0 x1 x2 x3=>show tM h base e x0 x1 x2 x3=_;first|rfl|(unfold tM;simp only[bJ,bt,aZ,bG,bg,aR,aK,bw,bM,bR,aV,aY,aX,bX,aP];rfl)
 case jC x0 x1 x2 x3=>show qU h base e x0 x1 x2 x3=_;first|rfl|(unfold qU;simp only[bJ,bt,aZ,bG,bg,aR,aK,bw,bM,bR,aV,aY,aX,bX,aP];rfl)
 case copy x0 x1 x2=>show AP h base e x0 x1 x2=_;first|rfl|(unfold AP;simp only[bJ,bt,aZ,bG,bg,aR,aK,bw,bM,bR,aV,aY,aX,bX,aP];rfl)
 case clear x0 x1=>show wH h base e x0 x1=_;first|rfl|(unfold wH;simp only[bJ,bt,aZ,bG,bg,aR,aK,bw,bM,bR,aV,aY,aX,bX,aP];rfl)
 case ew x0 x1=>show tU h base e x0 x1=_;first|rfl|(unfold tU;simp only[bJ,bt,aZ,bG,bg,aR,aK,bw,bM,bR,aV,aY,aX,bX,aP];rfl)
 case delete x0 x1 x2 x3=>show tO h base e x0 x1 x2 x3=_;first|rfl|(unfold tO;simp only[bJ,bt,aZ,bG,bg,aR,aK,bw,bM,bR,aV,aY,aX,bX,aP];rfl)
 case jo x0 x1=>show AQ h base e x0 x1=_;first|rfl|(unfold AQ;simp only[bJ,bt,aZ,bG,bg,aR,aK,bw,bM,bR,aV,aY,aX,bX,aP];rfl)
 case recover=>show rf h base e=_;first|rfl|(unfold rf;simp only[bJ,bt,aZ,bG,bg,aR,aK,bw,bM,bR,aV,aY,aX,bX,aP];rfl)
 case qT x0=>show AX h base e x0=_;first|rfl|(unfold AX;simp only[bJ,bt,aZ,bG,bg,aR,aK,bw,bM,bR,aV,aY,aX,bX,aP];rfl)
 case range x0=>show wP h base e x0=_;first|rfl|(unfold wP;simp only[bJ,bt,aZ,bG,bg,aR,aK,bw,bM,bR,aV,aY,aX,bX,aP];rfl)
 case kY x0=>show tX h base e x0=_;first|rfl|(unfold tX;simp only[bJ,bt,aZ,bG,bg,aR,aK,bw,bM,bR,aV,aY,aX,bX,aP];rfl)
 case entry x0=>show wJ h base e x0=_;first|rfl|(unfold wJ;simp only[bJ,bt,aZ,bG,bg,aR,aK,bw,bM,bR,aV,aY,aX,bX,aP];rfl)
 case bin op x y=>show Gv h base e op x y=_;cases op<;>(simp only[Gv,aop,bJ,bt,aZ,bG,bg,aR,aK,bw,bM,bR,aV,aY,aX,bX,aP];first|done|rfl)
 case slice k x lo hi mx=>show wQ h base e k x lo hi mx=_;cases k<;>cases mx<;>(simp only[wQ,aop,bJ,bt,aZ,bG,bg,aR,aK,bw,bM,bR,aV,aY,aX,bX,aP];first|done|rfl)
 case len k x=>
  match k with
  |0=>show tR h base e 0 x=_;simp only[tR,aop,bJ,bt,aZ,bG,bg,aR,aK,bw,bM,bR,aV,aY,aX,bX,aP];first|done|rfl
  |1=>show tR h base e 1 x=_;simp only[tR,aop,bJ,bt,aZ,bG,bg,aR,aK,bw,bM,bR,aV,aY,aX,bX,aP];first|done|rfl
  |k+2=>show tR h base e (k+2) x=_;simp only[tR,aop,bJ,bt,aZ,bG,bg,aR,aK,bw,bM,bR,aV,aY,aX,bX,aP];first|done|rfl
 case next x s=>show AV h base e x s=_;cases s<;>(simp only[AV,aop,bJ,bt,aZ,bG,bg,aR,aK,bw,bM,bR,aV,aY,aX,bX,aP];first|done|rfl)
structure Fam where
 exec:Nat→Option Nat→aU→Env→Dfs→Heap→Option (br×Env×Dfs×Heap)
 ops:Nat→Option Nat→List bB→Env→Dfs→Heap→Option (br×Env×Dfs×Heap)
 draw:Nat→List bB→List Nat→List Nat→List Rec→Env→Heap→Option (br×Env×Heap)
 iT:Fn→List Value→Heap→Option (Res×Heap)
 call:Nat→List Value→Heap→Option (Res×Heap)
 unw:List (Nat×Option (Option Nat))→Dfs→Option Value→Env→Heap→Heap→Option (Res×Heap)
 defer:Nat→List Value→Option Value→Heap→Option (Option Value×Heap)
 gO:Nat→aU→Env→Option Value→Heap→Option (br×Env×Option Value×Heap)
 kX:Nat→List bB→Env→Option Value→Heap→Option (br×Env×Option Value×Heap)
def Fam.none:Fam where
 exec:=fun _ _ _ _ _ _=> .none
 ops:=fun _ _ _ _ _ _=> .none
 draw:=fun _ _ _ _ _ _ _=> .none
 iT:=fun _ _ _=> .none
 call:=fun _ _ _=> .none
 unw:=fun _ _ _ _ _ _=> .none
 defer:=fun _ _ _ _=> .none
 gO:=fun _ _ _ _ _=> .none
 kX:=fun _ _ _ _ _=> .none
def N7(x0:Operand):List Operand:=cM (.mov x0)
def LF(x0:Operand)(x1:Operand)(x2:Operand):List Operand:=cM (.pick x0 x1 x2)
def N8(x0:List Value):List Operand:=cM (.new x0)
def N4(x0:Operand):List Operand:=cM (.box x0)
def Iw(x0:List Value)(x1:List (Nat×Nat×Operand)):List Operand:=cM (.build x0 x1)
def F0(x0:List Value)(x1:Nat)(x2:List (Nat×Nat×Operand)):List Operand:=cM (.dA x0 x1 x2)
def LA(x0:Option Nat)(x1:Operand):List Operand:=cM (.load x0 x1)
def IG(x0:Nat)(x1:Operand)(x2:Operand):List Operand:=cM (.store x0 x1 x2)
def F8(x0:Operand):List Operand:=cM (.bh x0)
def N3(x0:Cp)(x1:Operand)(x2:Operand):List Operand:=cM (.bin x0 x1 x2)
def QC(x0:UnOp)(x1:Operand):List Operand:=cM (.un x0 x1)
def Lu(x0:Cv)(x1:Operand):List Operand:=cM (.conv x0 x1)
def CX(x0:TypeId)(x1:Operand):List Operand:=cM (.gW x0 x1)
def F7(x0:Fn)(x1:List Operand)(x2:List Operand):List Operand:=cM (.dP x0 x1 x2)
def ID:List Operand:=cM (.mkMap)
def CY(x0:List Value)(x1:Nat)(x2:Operand)(x3:Operand):List Operand:=cM (.mkSlice x0 x1 x2 x3)
def IF(x0:ASl)(x1:Operand)(x2:Option Operand)(x3:Option Operand)(x4:Option Operand):List Operand:=cM (.slice x0 x1 x2 x3 x4)
def IA(x0:Nat)(x1:Operand):List Operand:=cM (.cS x0 x1)
def IB(x0:Nat)(x1:Option Nat)(x2:Operand):List Operand:=cM (.field x0 x1 x2)
def F2(x0:Nat)(x1:Nat)(x2:Operand)(x3:Operand):List Operand:=cM (.bE x0 x1 x2 x3)
def F3(x0:Nat)(x1:Operand)(x2:Operand):List Operand:=cM (.aQ x0 x1 x2)
def Ly(x0:Nat)(x1:Nat)(x2:Option Nat)(x3:Operand)(x4:Operand):List Operand:=cM (.qG x0 x1 x2 x3 x4)
def Lz(x0:Operand)(x1:Operand):List Operand:=cM (.r9 x0 x1)
def F5(x0:Bool)(x1:List dM)(x2:Value)(x3:Bool)(x4:Operand)(x5:Operand):List Operand:=cM (.lookup x0 x1 x2 x3 x4 x5)
def IC(x0:Bool)(x1:List dM)(x2:Operand)(x3:Operand)(x4:Operand):List Operand:=cM (.iy x0 x1 x2 x3 x4)
def C5(x0:TypeId)(x1:Bool)(x2:Value)(x3:Operand):List Operand:=cM (.jH x0 x1 x2 x3)
def CV(x0:Operand)(x1:Nat):List Operand:=cM (.extract x0 x1)
def Lt(x0:Operand)(x1:List Operand):List Operand:=cM (.call x0 x1)
def N6(x0:Nat)(x1:Operand):List Operand:=cM (.len x0 x1)
def F4(x0:Nat):List Operand:=cM (.jw x0)
def N5(x0:Operand):List Operand:=cM (.cap x0)
def FZ(x0:Nat)(x1:Nat)(x2:Operand)(x3:Operand):List Operand:=cM (.append x0 x1 x2 x3)
def CU(x0:List Value)(x1:Nat)(x2:Operand)(x3:Operand):List Operand:=cM (.jC x0 x1 x2 x3)
def Lv(x0:Nat)(x1:Operand)(x2:Operand):List Operand:=cM (.copy x0 x1 x2)
def Iy(x0:List Value)(x1:Operand):List Operand:=cM (.clear x0 x1)
def F6(x0:Bool)(x1:List Operand):List Operand:=cM (.ew x0 x1)
def F1(x0:Bool)(x1:List dM)(x2:Operand)(x3:Operand):List Operand:=cM (.delete x0 x1 x2 x3)
def Lw(x0:Operand)(x1:List Operand):List Operand:=cM (.jo x0 x1)
def CZ:List Operand:=cM (.recover)
def LG(x0:Operand):List Operand:=cM (.qT x0)
def IE(x0:Operand):List Operand:=cM (.range x0)
def LD(x0:Operand)(x1:Bool):List Operand:=cM (.next x0 x1)
def F9(x0:Operand):List Operand:=cM (.kY x0)
def Iz(x0:Operand):List Operand:=cM (.entry x0)
noncomputable def wB(o:AOp):List Operand:=AOp.rec (motive:=fun _=>List Operand) N7 LF N8 N4 Iw F0 LA IG F8 N3 QC Lu CX F7 ID CY IF IA IB F2 F3 Ly Lz F5 IC C5 CV Lt N6 F4 N5 FZ CU Lv Iy F6 F1 Lw CZ LG IE LD F9 Iz o
theorem AL:wB=cM:=by funext o;cases o<;>rfl
def OC(x0:Operand):Bool:=cw (.mov x0)
def Mr(x0:Operand)(x1:Operand)(x2:Operand):Bool:=cw (.pick x0 x1 x2)
def OD(x0:List Value):Bool:=cw (.new x0)
def Oz(x0:Operand):Bool:=cw (.box x0)
def Jt(x0:List Value)(x1:List (Nat×Nat×Operand)):Bool:=cw (.build x0 x1)
def Hi(x0:List Value)(x1:Nat)(x2:List (Nat×Nat×Operand)):Bool:=cw (.dA x0 x1 x2)
def Mp(x0:Option Nat)(x1:Operand):Bool:=cw (.load x0 x1)
def JC(x0:Nat)(x1:Operand)(x2:Operand):Bool:=cw (.store x0 x1 x2)
def Ht(x0:Operand):Bool:=cw (.bh x0)
def Oy(x0:Cp)(x1:Operand)(x2:Operand):Bool:=cw (.bin x0 x1 x2)
def QM(x0:UnOp)(x1:Operand):Bool:=cw (.un x0 x1)
def Mk(x0:Cv)(x1:Operand):Bool:=cw (.conv x0 x1)
def DE(x0:TypeId)(x1:Operand):Bool:=cw (.gW x0 x1)
def Hs(x0:Fn)(x1:List Operand)(x2:List Operand):Bool:=cw (.dP x0 x1 x2)
def Jz:Bool:=cw (.mkMap)
def DF(x0:List Value)(x1:Nat)(x2:Operand)(x3:Operand):Bool:=cw (.mkSlice x0 x1 x2 x3)
def JB(x0:ASl)(x1:Operand)(x2:Option Operand)(x3:Option Operand)(x4:Option Operand):Bool:=cw (.slice x0 x1 x2 x3 x4)
def Jw(x0:Nat)(x1:Operand):Bool:=cw (.cS x0 x1)
def Jx(x0:Nat)(x1:Option Nat)(x2:Operand):Bool:=cw (.field x0 x1 x2)
def Hl(x0:Nat)(x1:Nat)(x2:Operand)(x3:Operand):Bool:=cw (.bE x0 x1 x2 x3)
def Ho(x0:Nat)(x1:Operand)(x2:Operand):Bool:=cw (.aQ x0 x1 x2)
def Mn(x0:Nat)(x1:Nat)(x2:Option Nat)(x3:Operand)(x4:Operand):Bool:=cw (.qG x0 x1 x2 x3 x4)
def Mo(x0:Operand)(x1:Operand):Bool:=cw (.r9 x0 x1)
def Hq(x0:Bool)(x1:List dM)(x2:Value)(x3:Bool)(x4:Operand)(x5:Operand):Bool:=cw (.lookup x0 x1 x2 x3 x4 x5)
def Jy(x0:Bool)(x1:List dM)(x2:Operand)(x3:Operand)(x4:Operand):Bool:=cw (.iy x0 x1 x2 x3 x4)
def DH(x0:TypeId)(x1:Bool)(x2:Value)(x3:Operand):Bool:=cw (.jH x0 x1 x2 x3)
def DD(x0:Operand)(x1:Nat):Bool:=cw (.extract x0 x1)
def Mj(x0:Operand)(x1:List Operand):Bool:=cw (.call x0 x1)
def OB(x0:Nat)(x1:Operand):Bool:=cw (.len x0 x1)
def Hp(x0:Nat):Bool:=cw (.jw x0)
def OA(x0:Operand):Bool:=cw (.cap x0)
def Hg(x0:Nat)(x1:Nat)(x2:Operand)(x3:Operand):Bool:=cw (.append x0 x1 x2 x3)
def DC(x0:List Value)(x1:Nat)(x2:Operand)(x3:Operand):Bool:=cw (.jC x0 x1 x2 x3)
def Ml(x0:Nat)(x1:Operand)(x2:Operand):Bool:=cw (.copy x0 x1 x2)
def Ju(x0:List Value)(x1:Operand):Bool:=cw (.clear x0 x1)
def Hr(x0:Bool)(x1:List Operand):Bool:=cw (.ew x0 x1)
def Hj(x0:Bool)(x1:List dM)(x2:Operand)(x3:Operand):Bool:=cw (.delete x0 x1 x2 x3)
def Mm(x0:Operand)(x1:List Operand):Bool:=cw (.jo x0 x1)
def DG:Bool:=cw (.recover)
def Ms(x0:Operand):Bool:=cw (.qT x0)
def JA(x0:Operand):Bool:=cw (.range x0)
def Mq(x0:Operand)(x1:Bool):Bool:=cw (.next x0 x1)
def Hu(x0:Operand):Bool:=cw (.kY x0)
def Jv(x0:Operand):Bool:=cw (.entry x0)
noncomputable def B9(o:AOp):Bool:=AOp.rec (motive:=fun _=>Bool) OC Mr OD Oz Jt Hi Mp JC Ht Oy QM Mk DE Hs Jz DF JB Jw Jx Hl Ho Mn Mo Hq Jy DH DD Mj OB Hp OA Hg DC Ml Ju Hr Hj Mm DG Ms JA Mq Hu Jv o
theorem AY:B9=cw:=by funext o;cases o<;>rfl
def OJ(x0:Operand):Bool:=di (.mov x0)
def MJ(x0:Operand)(x1:Operand)(x2:Operand):Bool:=di (.pick x0 x1 x2)
def OK(x0:List Value):Bool:=di (.new x0)
def OG(x0:Operand):Bool:=di (.box x0)
def JK(x0:List Value)(x1:List (Nat×Nat×Operand)):Bool:=di (.build x0 x1)
def HF(x0:List Value)(x1:Nat)(x2:List (Nat×Nat×Operand)):Bool:=di (.dA x0 x1 x2)
def MH(x0:Option Nat)(x1:Operand):Bool:=di (.load x0 x1)
def JU(x0:Nat)(x1:Operand)(x2:Operand):Bool:=di (.store x0 x1 x2)
def HO(x0:Operand):Bool:=di (.bh x0)
def OF(x0:Cp)(x1:Operand)(x2:Operand):Bool:=di (.bin x0 x1 x2)
def QV(x0:UnOp)(x1:Operand):Bool:=di (.un x0 x1)
def MC(x0:Cv)(x1:Operand):Bool:=di (.conv x0 x1)
def DN(x0:TypeId)(x1:Operand):Bool:=di (.gW x0 x1)
def HN(x0:Fn)(x1:List Operand)(x2:List Operand):Bool:=di (.dP x0 x1 x2)
def JQ:Bool:=di (.mkMap)
def DO(x0:List Value)(x1:Nat)(x2:Operand)(x3:Operand):Bool:=di (.mkSlice x0 x1 x2 x3)
def JT(x0:ASl)(x1:Operand)(x2:Option Operand)(x3:Option Operand)(x4:Option Operand):Bool:=di (.slice x0 x1 x2 x3 x4)
def JN(x0:Nat)(x1:Operand):Bool:=di (.cS x0 x1)
def JO(x0:Nat)(x1:Option Nat)(x2:Operand):Bool:=di (.field x0 x1 x2)
def HI(x0:Nat)(x1:Nat)(x2:Operand)(x3:Operand):Bool:=di (.bE x0 x1 x2 x3)
def HJ(x0:Nat)(x1:Operand)(x2:Operand):Bool:=di (.aQ x0 x1 x2)
def MF(x0:Nat)(x1:Nat)(x2:Option Nat)(x3:Operand)(x4:Operand):Bool:=di (.qG x0 x1 x2 x3 x4)
def MG(x0:Operand)(x1:Operand):Bool:=di (.r9 x0 x1)
def HL(x0:Bool)(x1:List dM)(x2:Value)(x3:Bool)(x4:Operand)(x5:Operand):Bool:=di (.lookup x0 x1 x2 x3 x4 x5)
def JP(x0:Bool)(x1:List dM)(x2:Operand)(x3:Operand)(x4:Operand):Bool:=di (.iy x0 x1 x2 x3 x4)
def DQ(x0:TypeId)(x1:Bool)(x2:Value)(x3:Operand):Bool:=di (.jH x0 x1 x2 x3)
def DM(x0:Operand)(x1:Nat):Bool:=di (.extract x0 x1)
def MB(x0:Operand)(x1:List Operand):Bool:=di (.call x0 x1)
def OI(x0:Nat)(x1:Operand):Bool:=di (.len x0 x1)
def HK(x0:Nat):Bool:=di (.jw x0)
def OH(x0:Operand):Bool:=di (.cap x0)
def HE(x0:Nat)(x1:Nat)(x2:Operand)(x3:Operand):Bool:=di (.append x0 x1 x2 x3)
def DL(x0:List Value)(x1:Nat)(x2:Operand)(x3:Operand):Bool:=di (.jC x0 x1 x2 x3)
def MD(x0:Nat)(x1:Operand)(x2:Operand):Bool:=di (.copy x0 x1 x2)
def JL(x0:List Value)(x1:Operand):Bool:=di (.clear x0 x1)
def HM(x0:Bool)(x1:List Operand):Bool:=di (.ew x0 x1)
def HH(x0:Bool)(x1:List dM)(x2:Operand)(x3:Operand):Bool:=di (.delete x0 x1 x2 x3)
def ME(x0:Operand)(x1:List Operand):Bool:=di (.jo x0 x1)
def DP:Bool:=di (.recover)
def MK(x0:Operand):Bool:=di (.qT x0)
def JS(x0:Operand):Bool:=di (.range x0)
def MI(x0:Operand)(x1:Bool):Bool:=di (.next x0 x1)
def HP(x0:Operand):Bool:=di (.kY x0)
def JM(x0:Operand):Bool:=di (.entry x0)
noncomputable def Af(o:AOp):Bool:=AOp.rec (motive:=fun _=>Bool) OJ MJ OK OG JK HF MH JU HO OF QV MC DN HN JQ DO JT JN JO HI HJ MF MG HL JP DQ DM MB OI HK OH HE DL MD JL HM HH ME DP MK JS MI HP JM o
theorem gr:Af=di:=by funext o;cases o<;>rfl
noncomputable def vN(o:AOp):Bool:=B9 o||Af o
theorem fQ:vN=jq:=by funext o;simp only[vN,jq,AY,gr]
noncomputable def jX(o:bB):List Nat:=
 match o.guard with
 |some (t,_)=>t::vt (wB o.op)
 |none=>vt (wB o.op)
theorem fW:jX=cQ:=by funext o;unfold jX cQ;simp only[AL];rfl
noncomputable def mC:List Value→List Value→Bool
 |[],[]=>true
 |x::xs,y::ys=>bif wZ x y then mC xs ys else false
 |_,_=>false
noncomputable def A8:Value→Value→Bool
 | .agg a, .agg b=>mC a.toList b.toList
 | .tuple a, .tuple b=>mC a.toList b.toList
 | .func (.func f) a' a, .func (.func g) b' b=>f==g&&(mC a'.toList b'.toList&&mC a.toList b.toList)
 | .func (.yield f) a' a, .func (.yield g) b' b=>f==g&&(mC a'.toList b'.toList&&mC a.toList b.toList)
 |x,y=>wZ x y
noncomputable def Ca(h:Heap)(base:Nat)(r:Rec):Bool:=
 match r.k with
 | .quiet=>match zV h base r.e r.o.op with
   |some (.val v' h2)=>A8 r.v v'&&Nat.beq h2.next h.next
   |_=>false
 |_=>true
noncomputable def wS(h:Heap)(base:Nat):List Rec→Bool
 |[]=>true
 |r::rs=>bif Ca h base r then wS h base rs else false
noncomputable def iG(h:Heap)(base:Nat)(log:List Nat)(mask:Nat):List Rec→Option (List Rec)
 |[]=>some []
 |r::rs=>bif Nat.testBit mask r.i then iG h base log mask rs else
  bif Ca h base r&&Dm log r then match iG h base log mask rs with
   |some rs'=>some (r::rs')
   |none=>none
  else none
theorem Dq:mC=jk:=by
 funext a
 induction a with
 |nil=>funext b;cases b<;>rfl
 |cons x a ih=>funext b;cases b<;>first|rfl|(simp only[mC,jk,vk,ih])
theorem Dr:A8=je:=by
 funext a b
 unfold A8 je
 simp only[Dq,vk]
 first|done|rfl
theorem zx:Ca=pg:=by
 funext h base r
 unfold Ca pg
 simp only[jA,Dr]
 first|done|rfl
theorem gY:wS=mH:=by
 funext h base rs
 induction rs with
 |nil=>rfl
 |cons r rs ih=>simp only[wS,mH,zx,ih]
theorem ej:iG=bF:=by
 funext h base log mask rs
 induction rs with
 |nil=>rfl
 |cons r rs ih=>simp only[iG,bF,zx,ih];first|done|rfl
noncomputable def GA(T:Nat→Option af)(F:Fam)(base:Nat)(rnd:Option Nat)(ops:List bB)(it:Nat)(x:Operand)(keep:List Nat)(out nxt pr:Nat)(ops2:List bB)(k2:List Nat)(body:aU)(e:Env)(ds:Dfs)(h:Heap):Option (br×Env×Dfs×Heap):=match F.ops base rnd ops e ds h with
 |some (.normal,e0,ds0,h0)=>match ds0 with
  |_::_=>none
  |[]=>match evQ h0 e0 x with
   |some (.map none)=>some (.normal,jM e0 keep,[],h0)
   |some (.map (some m))=>match kW h0 m with
    |some (.map es)=>EI out (jM e0 keep) h0 (oO (fun e h=>F.ops (h0.next+1) rnd ops2 e [] h) (fun e h=>F.exec (h0.next+1) rnd body e [] h) nxt pr k2 (itE it h0 (jM e0 keep)) (jM e0 keep) ((roM h0 m es).push .dead) es)
    |_=>none
   |_=>none
 |r=>r
noncomputable def zq(T:Nat→Option af)(F:Fam)(base:Nat)(rnd:Option Nat)(f:Operand)(ps:List Nat)(asg body:aU)(e:Env)(ds:Dfs)(h:Heap):Option (br×Env×Dfs×Heap):=bif nL h rnd then match evQ h e f with
 |some (.func (.func g) first cap)=>bif gK (T g)then none else
  match F.call g (dO first.toList (dO [.func (.yield h.next) #[] #[]] cap.toList)) {h.push (.loop e ps asg body 0 .normal)with log:=[]}with
  |some (.ret _,h2)=>match kW h2 h.next with
   |some (.loop _ _ _ _ st gX)=>bif Nat.beq st 1 then none else
    some (gX,e,ds,Heap.wr {h2 with log:=aC base h.log h2.log} base h.next .dead)
   |_=>none
  |some (.panic v,h2)=>some (.panic v,e,ds,{h2 with log:=aC base h.log h2.log})
  |none=>none
 |_=>none
 else none
noncomputable def zu(F:Fam)(l:Nat)(args:List Value)(h:Heap):Option (Res×Heap):=match kW h l with
 |some (.loop e ps asg body 0 .normal)=>match iO e ps args with
  |some e1=>match F.exec h.next (some l) asg e1 [] h with
   |some (.normal,e2,ds2,h2)=>bif notReady (kW h2 l)then none else match F.exec h.next (some l) body e2 ds2 {h2 with bW:=soQ h2.bW l (.loop e ps asg body 1 .normal)}with
    |some (.normal,_,_,h3)=>match kW h3 l with
     |some (.loop _ _ _ _ 1 _)=>some (.ret (.bool true),gcA h {h3 with bW:=soQ h3.bW l (.loop e ps asg body 0 .normal)} (.bool true))
     |_=>none
    |some (.exit i,_,_,h3)=>match kW h3 l with
     |some (.loop _ _ _ _ 1 _)=>some (.ret (.bool false),h3.wr h.next l (.loop e ps asg body 2 (.exit i)))
     |_=>none
    |some (.ret,_,_,h3)=>match kW h3 l with
     |some (.loop _ _ _ _ 1 _)=>some (.ret (.bool false),h3.wr h.next l (.loop e ps asg body 2 .ret))
     |_=>none
    |_=>none
   |_=>none
  |none=>none
 |_=>none
noncomputable def Ef(T:Nat→Option af)(F:Fam):Nat→Option Nat→aU→Env→Dfs→Heap→Option (br×Env×Dfs×Heap):=fun base rnd c e ds h=>
 match c with
 | .skip=>some (.normal,e,ds,h)
 | .region ops keep=>match F.ops base rnd ops e ds h with
   |some (.normal,e',ds',h')=>some (.normal,jM e' keep,ds',h')
   |r=>r
 | .draw ops order before keep=>match F.draw base ops order before [] e h with
   |some (.normal,e',h')=>some (.normal,jM e' keep,ds,h')
   |some (x,e',h')=>some (x,e',ds,h')
   |none=>none
 | .seq a b=>match F.exec base rnd a e ds h with
   |some (.normal,e',ds',h')=>F.exec base rnd b e' ds' h'
   |r=>r
 | .cond c a b=>match evQ h e c with
   |some (.bool true)=>F.exec base rnd a e ds h
   |some (.bool false)=>F.exec base rnd b e ds h
   |_=>none
 | .block id b=>match F.exec base rnd b e ds h with
   |some (.exit i,e',ds',h')=>bif Nat.beq i id then some (.normal,e',ds',h')else some (.exit i,e',ds',h')
   |r=>r
 | .loop b=>match F.exec base rnd b e ds h with
   |some (.normal,e',ds',h')=>F.exec base rnd (.loop b) e' ds' h'
   |r=>r
 | .scope b=>F.exec base rnd b e ds h
 | .rangeFunc f ps asg body=>zq T F base rnd f ps asg body e ds h
 | .rangeMap ops it x keep out nxt pr ops2 k2 body=>GA T F base rnd ops it x keep out nxt pr ops2 k2 body e ds h
 | .exit id=>some (.exit id,e,ds,h)
 | .ret=>some (.ret,e,ds,h)
noncomputable def Kf(T:Nat→Option af)(F:Fam):Nat→Option Nat→List bB→Env→Dfs→Heap→Option (br×Env×Dfs×Heap):=fun base rnd ops e ds h=>
 match ops with
 |[]=>some (.normal,e,ds,h)
 |o::os=>match qk e o.guard with
  |some false=>F.ops base rnd os (cD e o.dst (.tuple #[])) ds h
  |some true=>match zV h base e o.op with
   |some (.val v h')=>F.ops base rnd os (cD e o.dst v) ds h'
   |some (.call fn args h')=>match F.iT fn args {h' with log:=[]}with
    |some (.ret v,h2)=>F.ops base rnd os (cD e o.dst v) ds {h2 with log:=aC base h'.log h2.log}
    |some (.panic v,h2)=>some (.panic v,e,ds,{h2 with log:=aC base h'.log h2.log})
    |none=>none
   |some (.jo f args)=>match rnd with|some _=>none|none=>F.ops base rnd os (cD e o.dst (.tuple #[])) ((f,args)::ds) h
   |some (.panic v h')=>some (.panic v,e,ds,h')
   |_=>none
  |none=>none
noncomputable def Ee(T:Nat→Option af)(F:Fam):Nat→List bB→List Nat→List Nat→List Rec→Env→Heap→Option (br×Env×Heap):=fun base ops order before rs e h=>
 match order with
 |[]=>some (.normal,e,h)
 |i::is=>match bD ops i,bD before i with
  |some o,some mask=>
   match qk (jM e (jX o)) o.guard with
   |some false=>F.draw base ops is before (⟨i,o,jM e (jX o), .tuple #[], .skip⟩::rs) (cD e o.dst (.tuple #[])) h
   |some true=>
    bif vN o.op then
     match zV h base (jM e (jX o)) o.op with
     |some (.val v h')=>
      bif Af o.op then
       bif wS h' base rs then F.draw base ops is before (⟨i,o,jM e (jX o),v, .made h.next⟩::rs) (cD e o.dst v) h' else none
      else bif Nat.beq h'.next h.next then F.draw base ops is before (⟨i,o,jM e (jX o),v, .quiet⟩::rs) (cD e o.dst v) h
      else bif xM before i is then
       match zV {h with log:=[]} h.next (jM e (jX o)) o.op with
       |some (.val v h2)=>match iG {h2 with log:=aC base h.log h2.log} base h2.log mask rs with
        |some rs'=>F.draw base ops is before rs' (cD e o.dst v) {h2 with log:=aC base h.log h2.log}
        |none=>none
       |_=>none
      else none
     |_=>none
    else
     match zV {h with log:=[]} h.next (jM e (jX o)) o.op with
     |some (.val v h2)=>match iG {h2 with log:=aC base h.log h2.log} base h2.log mask rs with
      |some rs'=>F.draw base ops is before rs' (cD e o.dst v) {h2 with log:=aC base h.log h2.log}
      |none=>none
     |some (.call fn args _)=>match F.iT fn args {h with log:=[]}with
      |some (.ret v,h2)=>match iG {h2 with log:=aC base h.log h2.log} base h2.log mask rs with
       |some rs'=>F.draw base ops is before rs' (cD e o.dst v) {h2 with log:=aC base h.log h2.log}
       |none=>none
      |some (.panic v,h2)=>some (.panic v,[],{h2 with log:=aC base h.log h2.log})
      |none=>none
     |_=>none
   |none=>none
  |_,_=>none
noncomputable def BA(T:Nat→Option af)(F:Fam):Fn→List Value→Heap→Option (Res×Heap):=fun fn args h=>
 match fn with
 | .func f=>F.call f args h
 | .yield l=>zu F l args h
 |_=>none
noncomputable def Ed(T:Nat→Option af)(F:Fam):Nat→List Value→Heap→Option (Res×Heap):=fun f args h=>
 match T f with
 |none=>none
 |some (.mA p)=>match p args h with
  |some (v,h')=>some (.ret v,h')
  |none=>none
 |some (.code code results)=>match F.exec h.next none code (ei 0 args) [] h with
  |some (.panic v,e,ds,h1)=>F.unw results ds (some v) e h h1
  |some (.exit _,_,_,_)=>none
  |some (_,e,ds,h1)=>F.unw results ds none e h h1
  |none=>none
noncomputable def Ki(T:Nat→Option af)(F:Fam):List (Nat×Option (Option Nat))→Dfs→Option Value→Env→Heap→Heap→Option (Res×Heap):=fun results ds pan e h h1=>
 match ds with
 |[]=>match pan with
  |some v=>some (.panic v,h1)
  |none=>match GO h1 e results with
   |some vs=>some (.ret (fh vs),gcA h h1 (fh vs))
   |none=>none
 |(.func (.func g) first cap,args)::ds=>match F.defer g (dO first.toList (dO args cap.toList)) pan {h1 with log:=[]}with
  |some (pan',h2)=>F.unw results ds pan' e h {h2 with log:=aC h.next h1.log h2.log}
  |none=>none
 |_=>none
noncomputable def BB(T:Nat→Option af)(F:Fam):Nat→List Value→Option Value→Heap→Option (Option Value×Heap):=fun g args pan h=>
 match T g with
 |some (.code code [])=>match F.gO h.next code (ei 0 args) pan h with
  |some (.normal,_,pan',h')=>some (pan',h')
  |some (.ret,_,pan',h')=>some (pan',h')
  |_=>none
 |_=>none
noncomputable def BC(T:Nat→Option af)(F:Fam):Nat→aU→Env→Option Value→Heap→Option (br×Env×Option Value×Heap):=fun base c e pan h=>
 match c with
 | .skip=>some (.normal,e,pan,h)
 | .region ops keep=>match F.kX base ops e pan h with
   |some (.normal,e',pan',h')=>some (.normal,jM e' keep,pan',h')
   |r=>r
 | .seq a b=>match F.gO base a e pan h with
   |some (.normal,e',pan',h')=>F.gO base b e' pan' h'
   |r=>r
 | .cond c a b=>match evQ h e c with
   |some (.bool true)=>F.gO base a e pan h
   |some (.bool false)=>F.gO base b e pan h
   |_=>none
 | .ret=>some (.ret,e,pan,h)
 |_=>none
noncomputable def Eg(T:Nat→Option af)(F:Fam):Nat→List bB→Env→Option Value→Heap→Option (br×Env×Option Value×Heap):=fun base ops e pan h=>
 match ops with
 |[]=>some (.normal,e,pan,h)
 |o::os=>match qk e o.guard with
  |some false=>F.kX base os (cD e o.dst (.tuple #[])) pan h
  |some true=>match zV h base e o.op with
   |some (.val v h')=>F.kX base os (cD e o.dst v) pan h'
   |some .recover=>match pan with
    |some v=>F.kX base os (cD e o.dst v) none h
    |none=>F.kX base os (cD e o.dst .nilIface) none h
   |_=>none
  |none=>none
noncomputable def Fam.Hf(T:Nat→Option af)(F:Fam):Fam where
 exec:=Ef T F
 ops:=Kf T F
 draw:=Ee T F
 iT:=BA T F
 call:=Ed T F
 unw:=Ki T F
 defer:=BB T F
 gO:=BC T F
 kX:=Eg T F
noncomputable def mX(T:Nat→Option af)(n:Nat):Fam:=Nat.rec Fam.none (fun _ F=>Fam.Hf T F) n
theorem BL(T:Nat→Option af):∀n,mX T n={exec:=b8 T n,ops:=fP T n,draw:=ef T n,iT:=fC T n,call:=iS T n,unw:=mP T n,defer:=jO T n,gO:=ic T n,kX:=jh T n}
 |0=>by
  show Fam.none=_
  unfold Fam.none
  simp only[Fam.mk.injEq]
  refine⟨?_,?_,?_,?_,?_,?_,?_,?_,?_⟩
  ·funext x0 x1 x2 x3 x4 x5;simp only[b8]
  ·funext x0 x1 x2 x3 x4 x5;simp only[fP]
  ·funext x0 x1 x2 x3 x4 x5 x6;simp only[ef]
  ·funext x0 x1 x2;simp only[fC]
  ·funext x0 x1 x2;simp only[iS]
  ·funext x0 x1 x2 x3 x4 x5;simp only[mP]
  ·funext x0 x1 x2 x3;simp only[jO]
  ·funext x0 x1 x2 x3 x4;simp only[ic]
  ·funext x0 x1 x2 x3 x4;simp only[jh]
 |n+1=>by
  show Fam.Hf T (mX T n)=_
  rw[BL T n]
  unfold Fam.Hf
  simp only[Fam.mk.injEq]
  refine⟨?_,?_,?_,?_,?_,?_,?_,?_,?_⟩
  ·funext x0 x1 x2 x3 x4 x5;refine Eq.trans ?_ (b8.eq_def T (n+1) x0 x1 x2 x3 x4 x5).symm;unfold Ef zq GA;first|rfl|(simp only[bJ,bt,bw,bM,kZ,iZ,fZ,jW,jv,jA,gY,ej,aV,fW,fQ,gr];rfl)
  ·funext x0 x1 x2 x3 x4 x5;refine Eq.trans ?_ (fP.eq_def T (n+1) x0 x1 x2 x3 x4 x5).symm;unfold Kf;first|rfl|(simp only[bJ,bt,bw,bM,kZ,iZ,fZ,jW,jv,jA,gY,ej,aV,fW,fQ,gr];rfl)
  ·funext x0 x1 x2 x3 x4 x5 x6;refine Eq.trans ?_ (ef.eq_def T (n+1) x0 x1 x2 x3 x4 x5 x6).symm;unfold Ee;first|rfl|(simp only[bJ,bt,bw,bM,kZ,iZ,fZ,jW,jv,jA,gY,ej,aV,fW,fQ,gr];rfl)
  ·funext x0 x1 x2;refine Eq.trans ?_ (fC.eq_def T (n+1) x0 x1 x2).symm;unfold BA zu;first|rfl|(simp only[bJ,bt,bw,bM,kZ,iZ,fZ,jW,jv,jA,gY,ej,aV,fW,fQ,gr];rfl)
  ·funext x0 x1 x2;refine Eq.trans ?_ (iS.eq_def T (n+1) x0 x1 x2).symm;unfold Ed;first|rfl|(simp only[bJ,bt,bw,bM,kZ,iZ,fZ,jW,jv,jA,gY,ej,aV,fW,fQ,gr];rfl)
  ·funext x0 x1 x2 x3 x4 x5;refine Eq.trans ?_ (mP.eq_def T (n+1) x0 x1 x2 x3 x4 x5).symm;unfold Ki;first|rfl|(simp only[bJ,bt,bw,bM,kZ,iZ,fZ,jW,jv,jA,gY,ej,aV,fW,fQ,gr];rfl)
  ·funext x0 x1 x2 x3;refine Eq.trans ?_ (jO.eq_def T (n+1) x0 x1 x2 x3).symm;unfold BB;first|rfl|(simp only[bJ,bt,bw,bM,kZ,iZ,fZ,jW,jv,jA,gY,ej,aV,fW,fQ,gr];rfl)
  ·funext x0 x1 x2 x3 x4;refine Eq.trans ?_ (ic.eq_def T (n+1) x0 x1 x2 x3 x4).symm;unfold BC;first|rfl|(simp only[bJ,bt,bw,bM,kZ,iZ,fZ,jW,jv,jA,gY,ej,aV,fW,fQ,gr];rfl)
  ·funext x0 x1 x2 x3 x4;refine Eq.trans ?_ (jh.eq_def T (n+1) x0 x1 x2 x3 x4).symm;unfold Eg;first|rfl|(simp only[bJ,bt,bw,bM,kZ,iZ,fZ,jW,jv,jA,gY,ej,aV,fW,fQ,gr];rfl)
end Go.A
