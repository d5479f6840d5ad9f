/- The runs once more, for the kernel. -/
import Derived.Test.YtkaeljcfdnhacaaGreatDoorLA
set_option linter.all false
noncomputable section
namespace Go.A
def XO(k:IntKind):Nat:=IntKind.rec (motive:=λ_=>Nat) 0 1 2 3 4 5 6 7 k
def kEq(a b:IntKind):Bool:=Nat.beq (XO a) (XO b)
theorem BZ(a b:IntKind):kEq a b=decide (a=b):=by cases a<;>cases b<;>rfl
def Mn(m:Nat)(b:Int):Bool:=Int.rec (motive:=λ_=>Bool) (λn=>Nat.beq m n) (λ_=>false) b
def Mm(m:Nat)(b:Int):Bool:=Int.rec (motive:=λ_=>Bool) (λ_=>false) (λn=>Nat.beq m n) b
def iEq(a b:Int):Bool:=Int.rec (motive:=λ_=>Int->Bool) Mn Mm a b
theorem Ga(a b:Int):iEq a b=(a==b):=by
 rw[xp];simp only[beq_iff_eq];cases a<;>cases b<;>simp[iEq,Mn,Mm,Nat.beq_eq]<;>omega
def Mp(m:Nat)(b:Int):Bool:=Int.rec (motive:=λ_=>Bool) (λn=>Nat.blt m n) (λ_=>false) b
def Mo(m:Nat)(b:Int):Bool:=Int.rec (motive:=λ_=>Bool) (λ_=>true) (λn=>Nat.blt n m) b
def iLt(a b:Int):Bool:=Int.rec (motive:=λ_=>Int->Bool) Mp Mo a b
theorem Uc(a b:Int):iLt a b=decide (a<b):=by
 rw[xp];simp only[decide_eq_true_eq];cases a<;>cases b<;>simp[iLt,Mp,Mo,Co]<;>omega
def topP(k:IntKind):Nat:=IntKind.rec (motive:=λ_=>Nat) 128 32768 2147483648 9223372036854775808 256 65536 4294967296 18446744073709551616 k
def topN(k:IntKind):Nat:=IntKind.rec (motive:=λ_=>Nat) 128 32768 2147483648 9223372036854775808 0 0 0 0 k
def TH(k:IntKind)(n:Int):Int:=Int.rec (motive:=λ_=>Int) (λm=>bif Nat.blt m (topP k)then .ofNat m else k.wrap (.ofNat m)) (λm=>bif Nat.blt m (topN k)then .negSucc m else k.wrap (.negSucc m)) n
theorem PN(k:IntKind)(n:Int):TH k n=fZ k n:=by cases n<;>cases k<;>rfl
def Uw{α:Type}(m:Nat)(f:Nat->α):α:=Nat.rec (motive:=λ_=>α) (f 0) (λn _=>f (Nat.succ n)) m
theorem Q8{α:Type}(m:Nat)(f:Nat->α):Uw m f=f m:=by cases m<;>rfl
def Ue{α:Type}(m:Int)(f:Int->α):α:=Int.rec (motive:=λ_=>α) (λn=>Uw n λn=>f (.ofNat n)) (λn=>Uw n λn=>f (.negSucc n)) m
theorem QE{α:Type}(m:Int)(f:Int->α):Ue m f=f m:=by cases m<;>simp[Ue,Q8]
def mkI(k:IntKind)(n:Int):Option Value:=Ue (TH k n) λn=>some (.int k n)
def K8(k:IntKind)(x y:Int):Option Value:=mkI k (x+y)
def Lj(k:IntKind)(x y:Int):Option Value:=mkI k (x-y)
def Lf(k:IntKind)(x y:Int):Option Value:=mkI k (x*y)
def La(_:IntKind)(x y:Int):Option Value:=some (.bool (iEq x y))
def Lg(_:IntKind)(x y:Int):Option Value:=some (.bool (Bool.rec true false (iEq x y)))
def Le(_:IntKind)(x y:Int):Option Value:=some (.bool (iLt x y))
def Ld(_:IntKind)(x y:Int):Option Value:=some (.bool (Bool.rec true false (iLt y x)))
def Lc(_:IntKind)(x y:Int):Option Value:=some (.bool (iLt y x))
def Lb(_:IntKind)(x y:Int):Option Value:=some (.bool (Bool.rec true false (iLt x y)))
def Lh(k:IntKind)(x y:Int):Option Value:=arith .quo k x y
def Li(k:IntKind)(x y:Int):Option Value:=arith .rem k x y
def K9(k:IntKind)(x y:Int):Option Value:=arith .and k x y
def Tq(k:IntKind)(x y:Int):Option Value:=arith .or k x y
def Ll(k:IntKind)(x y:Int):Option Value:=arith .xor k x y
def Ay(k:IntKind)(x y:Int):Option Value:=arith .andNot k x y
def Nd(k:IntKind)(x:Int)(k':IntKind)(y:Int):Option Value:=Bool.rec none (K8 k x y) (kEq k k')
def Ns(k:IntKind)(x:Int)(k':IntKind)(y:Int):Option Value:=Bool.rec none (Lj k x y) (kEq k k')
def Nl(k:IntKind)(x:Int)(k':IntKind)(y:Int):Option Value:=Bool.rec none (Lf k x y) (kEq k k')
def No(k:IntKind)(x:Int)(k':IntKind)(y:Int):Option Value:=Bool.rec none (Lh k x y) (kEq k k')
def Np(k:IntKind)(x:Int)(k':IntKind)(y:Int):Option Value:=Bool.rec none (Li k x y) (kEq k k')
def Nf(k:IntKind)(x:Int)(k':IntKind)(y:Int):Option Value:=Bool.rec none (K9 k x y) (kEq k k')
def Uv(k:IntKind)(x:Int)(k':IntKind)(y:Int):Option Value:=Bool.rec none (Tq k x y) (kEq k k')
def Nt(k:IntKind)(x:Int)(k':IntKind)(y:Int):Option Value:=Bool.rec none (Ll k x y) (kEq k k')
def Nq(k:IntKind)(x:Int)(_:IntKind)(y:Int):Option Value:=pM .shl k x y
def Nr(k:IntKind)(x:Int)(_:IntKind)(y:Int):Option Value:=pM .shr k x y
def y9(k:IntKind)(x:Int)(k':IntKind)(y:Int):Option Value:=Bool.rec none (Ay k x y) (kEq k k')
def Ng(k:IntKind)(x:Int)(k':IntKind)(y:Int):Option Value:=Bool.rec none (La k x y) (kEq k k')
def Nn(k:IntKind)(x:Int)(k':IntKind)(y:Int):Option Value:=Bool.rec none (Lg k x y) (kEq k k')
def Nk(k:IntKind)(x:Int)(k':IntKind)(y:Int):Option Value:=Bool.rec none (Le k x y) (kEq k k')
def Nj(k:IntKind)(x:Int)(k':IntKind)(y:Int):Option Value:=Bool.rec none (Ld k x y) (kEq k k')
def Ni(k:IntKind)(x:Int)(k':IntKind)(y:Int):Option Value:=Bool.rec none (Lc k x y) (kEq k k')
def Nh(k:IntKind)(x:Int)(k':IntKind)(y:Int):Option Value:=Bool.rec none (Lb k x y) (kEq k k')
def Ny(op:BinOp):IntKind->Int->IntKind->Int->Option Value:=BinOp.rec (motive:=λ_=>IntKind->Int->IntKind->Int->Option Value) Nd Ns Nl No Np Nf Uv Nt Nq Nr y9 Ng Nn Nk Nj Ni Nh op
def Ux(op:BinOp)(x y:Value):Option Value:=
 match x with
 | .int k a=>match y with
   | .int k' b=>Ny op k a k' b
   |_=>none
 | .string a=>match y with
   | .string b=>FC op a b
   |_=>none
 |_=>none
theorem Lq{α:Type}(x y:α)(b:Bool):(Bool.rec x y b:α)=bif b then y else x:=by cases b<;>rfl
theorem Us(k:IntKind)(n:Int):mkI k n=some (.int k (fZ k n)):=by simp[mkI,QE,PN]
theorem bT:Ux=af:=by
 funext op x y;unfold Ux;split
 ·rename_i k a;split
  ·rename_i k' b;by_cases hk:k=k'
   ·subst hk;cases op<;>simp[Ny,af,Nd,Ns,Nl,No,Np,Nf,Uv,Nt,Nq,Nr,y9,Ng,Nn,Nk,Nj,Ni,Nh,K8,Lj,Lf,Lh,Li,K9,Tq,Ll,Ay,La,Lg,Le,Ld,Lc,Lb,BZ,Lq,Us,arith,nI,Ga,Uc]
    all_goals first
     |(simp[bne];done)
     |(rw[xp];simp;done)
     |(rw[xp];simp;omega)
   ·cases op<;>simp[Ny,af,Nd,Ns,Nl,No,Np,Nf,Uv,Nt,Nq,Nr,y9,Ng,Nn,Nk,Nj,Ni,Nh,BZ,Lq,hk]
  ·rename_i hy;cases op<;>cases y<;>first|rfl|exact(hy _ _ rfl).elim
 ·split
  ·cases op<;>rfl
  ·rename_i hy;cases op<;>cases y<;>first|rfl|exact(hy _ rfl).elim
 ·rename_i h1 h2;cases op<;>cases x<;>first|rfl|exact(h1 _ _ rfl).elim|exact(h2 _ rfl).elim
def aac(_:Nat):Option Value:=none
def aab(p:Nat×Value)(_:Env)(ih:Nat->Option Value)(t:Nat):Option Value:=Bool.rec (ih t) (some p.2) (Nat.beq p.1 t)
def geQ(e:Env)(t:Nat):Option Value:=List.rec (motive:=λ_=>Nat->Option Value) aac aab e t
theorem kN:geQ=geT:=by
 funext e t;induction e with
 |nil=>rfl
 |cons p e ih=>
  obtain⟨k,v⟩:=p;show(Bool.rec (geQ e t) (some v) (Nat.beq k t):Option Value)=_;rw[Lq,ih];rfl
def XT(t:Nat)(l:Env)(v:Value):Env:=(t,v)::l
def aah(_:Env):Env:=[]
def aag(t:Nat)(_:List Nat)(ih:Env->Env)(e:Env):Env:=Option.rec (motive:=λ_=>Env) (ih e) (XT t (ih e)) (geQ e t)
def lK(e:Env)(l:List Nat):Env:=List.rec (motive:=λ_=>Env->Env) aah aag l e
theorem j8:lK=bU:=by
 funext e l;induction l with
 |nil=>rfl
 |cons t l ih=>
  show(Option.rec (lK e l) (XT t (lK e l)) (geQ e t):Env)=_;rw[kN,ih];simp only[bU];cases geT e t<;>rfl
def aae(_:Nat):Option bR:=none
def aad(p:Nat×bR)(_:List (Nat×bR))(ih:Nat->Option bR)(t:Nat):Option bR:=Bool.rec (ih t) (some p.2) (Nat.beq p.1 t)
def goQ(e:List (Nat×bR))(t:Nat):Option bR:=List.rec (motive:=λ_=>Nat->Option bR) aae aad e t
theorem Ua:goQ=fK:=by
 funext e t;induction e with
 |nil=>rfl
 |cons p e ih=>
  obtain⟨k,v⟩:=p;show(Bool.rec (goQ e t) (some v) (Nat.beq k t):Option bR)=_;rw[Lq,ih];rfl
def nJ(h:Heap)(b:Nat):Option bR:=goQ h.cI b
theorem bD:nJ=Heap.get:=by funext h b;simp[nJ,Heap.get,Ua]
def aat(_:Nat)(_:bR):List (Nat×bR):=[]
def aas(p:Nat×bR)(l:List (Nat×bR))(ih:Nat->bR->List (Nat×bR))(t:Nat)(o:bR):List (Nat×bR):=Bool.rec (p::ih t o) ((p.1,o)::l) (Nat.beq p.1 t)
def soQ(e:List (Nat×bR))(t:Nat)(o:bR):List (Nat×bR):=List.rec (motive:=λ_=>Nat->bR->List (Nat×bR)) aat aas e t o
theorem nR:soQ=jt:=by
 funext e t o;induction e with
 |nil=>rfl
 |cons p e ih=>
  obtain⟨k,v⟩:=p;show(Bool.rec ((k,v)::soQ e t o) ((k,o)::e) (Nat.beq k t):List (Nat×bR))=_;rw[Lq,ih];rfl
def wrQ(h:Heap)(base b:Nat)(o:bR):Heap:={h with cI:=soQ h.cI b o,log:=bif Nat.blt b base then(bif fP h.log b then h.log else b::h.log)else h.log}
theorem cw:wrQ=Heap.wr:=by funext h base b o;simp[wrQ,Heap.wr,nR]
def evQ(h:Heap)(e:Env)(x:Operand):Option Value:=Operand.rec (motive:=λ_=>Env->Heap->Option Value) (λt e _=>geQ e t) (λv _ _=>some v) (λg _ h=>ev h [] (.global g)) (λf _ _=>some (.func (.func f) #[] #[])) x e h
theorem cg:evQ=ev:=by
 funext h e x;cases x<;>first|rfl|(show geQ e _=_;rw[kN];rfl)
def Eb(h:Heap)(e:Env):List Operand->Option (List Value)
 |[]=>some []
 |x::xs=>match evQ h e x with
  |some v=>match Eb h e xs with
   |some vs=>some (v::vs)
   |none=>none
  |none=>none
theorem bC:Eb=evs:=by
 funext h e l;induction l with
 |nil=>rfl
 |cons x l ih=>(simp only[Eb,evs,cg,ih];rfl)
def Ec(h:Heap)(e:Env)(z:List Value):List (Nat×Nat×Operand)->Option (List Value)
 |[]=>some z
 |(off,size,x)::ps=>match evQ h e x with
  |some v=>bif Nat.beq (bM (cellsOf v)) size&&Nat.ble (off+size) (bM z)then Ec h e (dy z off (cellsOf v)) ps else none
  |none=>none
theorem bw:Ec=j6:=by
 funext h e z l;induction l generalizing z with
 |nil=>rfl
 |cons p l ih=>obtain⟨a,b,x⟩:=p;(simp only[Ec,j6,cg,ih];rfl)
def u0(e:Env)(g:Option (Nat×Bool)):Option Bool:=
 match g with
 |none=>some true
 |some (t,b)=>match geQ e t with
  |some (.bool x)=>some (x==b)
  |some _=>some false
  |none=>none
theorem iH:u0=bL:=by
 funext e g;cases g with
 |none=>rfl
 |some p=>obtain⟨t,b⟩:=p;(simp only[u0,bL,kN];rfl)
def OG(h:Heap)(e:Env):List (Nat×Option (Option Nat))->Option (List Value)
 |[]=>some []
 |(t,none)::rs=>match geQ e t with
  |some v=>match OG h e rs with
   |some vs=>some (v::vs)
   |none=>none
  |none=>none
 |(t,some n)::rs=>match geQ e t with
  |some a=>match qB h n a with
   |some v=>match OG h e rs with
    |some vs=>some (v::vs)
    |none=>none
   |none=>none
  |none=>none
theorem mh:OG=bZ:=by
 funext h e l;induction l with
 |nil=>rfl
 |cons p l ih=>
  obtain⟨t,n⟩:=p;cases n<;>(simp only[OG,bZ,kN,ih];rfl)
def MM(l:eN)(x y:Value):Option Bool:=
 match l with
 | .i q=>match x with
   | .int k a=>match y with
     | .int k' b=>bif kEq k q&&kEq k' q then some (iEq a b)else none
     |_=>none
   |_=>none
 |l=>iR l x y
theorem MN:MM=iR:=by
 funext l x y;unfold MM;split
 ·rename_i q;split
  ·rename_i k a;split
   ·rename_i k' b;simp only[iR,BZ,Ga,cond_eq_ite,dk,decide_eq_true_eq];by_cases h1:k=q<;>by_cases h2:k'=q<;>simp[h1,h2]
   ·rename_i hy;cases y<;>first|rfl|exact(hy _ _ rfl).elim
  ·rename_i hx;cases x<;>first|rfl|exact(hx _ _ rfl).elim
 ·rfl
def pn:List eN->List Value->List Value->Option Bool
 |[],[],[]=>some true
 |l::ls,x::xs,y::ys=>match MM l x y with
  |some true=>pn ls xs ys
  |some false=>match pn ls xs ys with
   |some _=>some false
   |none=>none
  |none=>none
 |_,_,_=>none
theorem aO:pn=bJ:=by
 funext ls;induction ls with
 |nil=>funext xs ys;cases xs<;>cases ys<;>rfl
 |cons l ls ih=>
  funext xs ys;cases xs<;>cases ys<;>first|rfl|(simp only[pn,bJ,MN,ih];rfl)
def td(ag:Bool)(ls:List eN)(k:Value):Bool:=
 match sZ k==ag,pn ls (cellsOf k) (cellsOf k)with
 |true,some _=>true
 |_,_=>false
theorem aY:td=jS:=by funext ag ls k;(simp only[td,jS,aO];rfl)
def Ge(ag:Bool)(ls:List eN)(k k':Value):Option Bool:=
 match sZ k'==ag with
 |true=>pn ls (cellsOf k) (cellsOf k')
 |false=>none
theorem Jp:Ge=pV:=by funext ag ls k k';(simp only[Ge,pV,aO];rfl)
def AO(ag:Bool)(ls:List eN)(k:Value):Nat->List (Value×Value)->Option (Option (Nat×Value))
 |_,[]=>some none
 |i,(k',v)::es=>match Ge ag ls k k' with
  |some true=>some (some (i,v))
  |some false=>AO ag ls k (i+1) es
  |none=>none
theorem bA:AO=mK:=by
 funext ag ls k i es;induction es generalizing i with
 |nil=>rfl
 |cons p es ih=>obtain⟨a,b⟩:=p;(simp only[AO,mK,Jp,ih];rfl)
def CL(x y:Value):Bool:=
 match x with
 | .int k a=>match y with
   | .int k' b=>kEq k k'&&iEq a b
   |_=>false
 |x=>kH x y
theorem Bi:CL=kH:=by
 funext x y;unfold CL;split
 ·rename_i k a;split
  ·rename_i k' b;simp only[kH,BZ,Ga];by_cases h:k=k'<;>simp[h]
  ·rename_i hy;cases y<;>first|rfl|exact(hy _ _ rfl).elim
 ·rfl
def MS(h:Heap)(n:Option Nat):Value->Option Value
 | .pointer (some ⟨b,o,none⟩)=>match nJ h b with
   |some (.cells vs _ _)=>match n with
    |none=>bN vs o
    |some n=>let l:=bO n (bK o vs);bif Nat.beq (bM l) n then some (.agg l.toArray)else none
   |_=>none
 |_=>none
def G9(h:Heap)(base n:Nat)(v:Value):Value->Option Heap
 | .pointer (some ⟨b,o,none⟩)=>match nJ h b with
   |some (.cells vs true sz)=>bif Nat.beq (bM (cellsOf v)) n&&Nat.ble (o+n) (bM vs)&&eG (cellsOf v)then some (wrQ h base b (.cells (dy vs o (cellsOf v)) true sz))else none
   |_=>none
 |_=>none
def F1(h:Heap)(e:Env)(dflt:Nat):Option Operand->Option Nat
 |none=>some dflt
 |some x=>match evQ h e x with
  |some v=>pY v
  |none=>none
def CT(h:Heap)(e:Env)(size:Nat)(a:Option Addr)(len cap:Nat)(lo hi mx:Option Operand):Option (Value×Heap):=
 match F1 h e 0 lo,F1 h e len hi with
 |some l,some u=>
  match mx with
  |some _=>match F1 h e 0 mx with
   |some m=>bif Nat.ble l u&&Nat.ble u m&&Nat.ble m (bif Nat.beq cap UNK then len else cap)&&Nat.blt m UNK then
    some (.slice (bif Nat.beq m l then a else match a with|some ⟨b,o,none⟩=>some ⟨b,o+l*size,none⟩|a=>a) (u-l) (m-l),h)
    else none
   |none=>none
  |none=>
   bif Nat.beq cap UNK then
    match a with
    |some ⟨b,o,none⟩=>match nJ h b with
     |some (.cells vs _ sz)=>
      bif Nat.beq sz size&&Nat.ble l u&&(Nat.ble u len||Nat.ble (o+u*size) (bM vs))then
       bif Nat.blt l len||Nat.blt l u then some (.slice (some ⟨b,o+l*size,none⟩) (u-l) UNK,h)
       else bif Nat.beq l 0 then some (.slice (some ⟨b,o,none⟩) 0 UNK,h)
       else some (.slice (some ⟨h.next,0,none⟩) 0 UNK,h.push (.cells [] false size))
      else none
     |_=>none
    |_=>none
   else bif Nat.ble l u&&Nat.ble u cap then
    some (.slice (bif Nat.beq cap l then a else match a with|some ⟨b,o,none⟩=>some ⟨b,o+l*size,none⟩|a=>a) (u-l) (cap-l),h)
    else none
 |_,_=>none
def Sf(h:Heap)(size:Nat):Value->Option (List Value×Nat)
 | .slice none n _=>bif Nat.beq n 0 then some ([],0)else none
 | .slice (some ⟨b,o,none⟩) n _=>match nJ h b with
   |some (.cells vs _ _)=>let l:=bO (n*size) (bK o vs);bif Nat.beq (bM l) (n*size)then some (l,n)else none
   |_=>none
 | .slice (some ⟨_,_,some _⟩) n _=>bif Nat.beq n 0 then some ([],0)else none
 | .string s=>bif Nat.beq size 1 then some (s.data.toList.map λb=> .int .u8 b.toNat,s.size)else none
 |_=>none
def wN(h:Heap)(base size bytes:Nat)(s:Value)(new:List Value)(n:Nat):Option (Value×Heap):=
 match s with
 | .slice a len cap=>
   bif Nat.beq n 0 then(bif Nat.ble len cap then some (s,h)else none)else
   bif Nat.ble ((2*(len+n)+768)*bytes) 281474976710656 then
    match a with
    |none=>bif Nat.beq len 0&&Nat.beq cap 0 then some (.slice (some ⟨h.next,0,none⟩) n UNK,h.push (.cells new true size))else none
    |some ⟨b,o,none⟩=>match nJ h b with
     |some (.cells vs own sz)=>
      bif Nat.beq cap UNK then
       bif own&&Nat.beq sz size then
        bif Nat.ble (o+(len+n)*size) (bM vs)&&eG new then
         some (.slice (some ⟨b,o,none⟩) (len+n) UNK,wrQ h base b (.cells (dy vs (o+len*size) new) true sz))
        else bif Nat.beq o 0&&Nat.beq (len*size) (bM vs)&&eG new then
         some (.slice (some ⟨h.next,0,none⟩) (len+n) UNK,(wrQ h base b .dead).push (.cells (ek vs new) true size))
        else none
       else none
      else bif Nat.ble (len+n) cap then
       bif own&&Nat.ble (o+(len+n)*size) (bM vs)&&eG new then
        some (.slice (some ⟨b,o,none⟩) (len+n) cap,wrQ h base b (.cells (dy vs (o+len*size) new) true sz))
       else none
      else bif Nat.ble (o+len*size) (bM vs)then
       some (.slice (some ⟨h.next,0,none⟩) (len+n) UNK,h.push (.cells (ek (bO (len*size) (bK o vs)) new) true size))
      else none
     |_=>none
    |_=>none
   else none
 |_=>none
theorem bh:MS=qB:=by
 funext h n v;unfold MS qB;simp only[cg,bC,bw,bT,bA,aY,aO,bD,cw];rfl
theorem bt:G9=tM:=by
 funext h base n v x;unfold G9 tM;simp only[cg,bC,bw,bT,bA,aY,aO,bD,cw];rfl
theorem cB:F1=bnd:=by
 funext h e d x;unfold F1 bnd;simp only[cg,bC,bw,bT,bA,aY,aO,bD,cw];rfl
theorem br:CT=ia:=by
 funext h e size a len cap lo hi mx;unfold CT ia;simp only[cg,bC,bw,bT,bA,aY,aO,bD,cw,cB];rfl
theorem cK:Sf=cN:=by
 funext h size v;unfold Sf cN;simp only[cg,bC,bw,bT,bA,aY,aO,bD,cw];rfl
theorem aW:wN=jH:=by
 funext h base size bytes s new n;unfold wN jH;simp only[cg,bC,bw,bT,bA,aY,aO,bD,cw];rfl
def Ol(h:Heap)(base:Nat)(e:Env)(x:Operand):Option cZ:=cT (evQ h e x) λv=>some (.val v h)
def GM(h:Heap)(base:Nat)(e:Env)(c:Operand)(a:Operand)(b:Operand):Option cZ:=match evQ h e c with
 |some (.bool true)=>cT (evQ h e a) λv=>some (.val v h)
 |some (.bool false)=>cT (evQ h e b) λv=>some (.val v h)
 |_=>none
def Om(h:Heap)(base:Nat)(e:Env)(z:List Value):Option cZ:=some (.val (.pointer (some ⟨h.next,0,none⟩)) (h.push (.cells z true 1)))
def Oi(h:Heap)(base:Nat)(e:Env)(x:Operand):Option cZ:=cT (evQ h e x) λv=>some (.val (.pointer (some ⟨h.next,0,none⟩)) (h.push (.cells (cellsOf v) true 1)))
def Cu(h:Heap)(base:Nat)(e:Env)(z:List Value)(ps:List (Nat×Nat×Operand)):Option cZ:=match Ec h e z ps with
 |some cs=>some (.val (.agg cs.toArray) h)
 |none=>none
def zy(h:Heap)(base:Nat)(e:Env)(z:List Value)(n:Nat)(ps:List (Nat×Nat×Operand)):Option cZ:=match Ec h e (eS n z) ps with
 |some cs=>some (.val (.slice (some ⟨h.next,0,none⟩) n n) (h.push (.cells cs true (bM z))))
 |none=>none
def GK(h:Heap)(base:Nat)(e:Env)(n:Option Nat)(a:Operand):Option cZ:=cT (evQ h e a) λa=>cT (MS h n a) λv=>some (.val v h)
def CF(h:Heap)(base:Nat)(e:Env)(n:Nat)(a:Operand)(v:Operand):Option cZ:=cT (evQ h e a) λa=>cT (evQ h e v) λv=>match G9 h base n v a with
 |some h'=>some (.val (.tuple #[]) h')
 |none=>none
def zL(h:Heap)(base:Nat)(e:Env)(x:Operand):Option cZ:=cT (evQ h e x) λv=>match v with
 | .pointer none| .nilIface| .nilFunc=>none
 | .func (.method _) _ _=>none
 |v=>some (.val v h)
def Oh(h:Heap)(base:Nat)(e:Env):FM->Operand->Operand->Option cZ
 |(.num op),x,y=>cT (evQ h e x) λx=>cT (evQ h e y) λy=>cT (Ux op x y) λv=>some (.val v h)
 |(.beq neq),x,y=>match evQ h e x,evQ h e y with
  |some (.bool a),some (.bool b)=>some (.val (.bool (bif neq then !(a==b)else a==b)) h)
  |_,_=>none
 |(.nil k neq),x,y=>cT (evQ h e x) λx=>cT (evQ h e y) λy=>match qT k x y with
  |some b=>some (.val (.bool (bif neq then !b else b)) h)
  |none=>none
 |(.agg neq ls),x,y=>cT (evQ h e x) λx=>cT (evQ h e y) λy=>match x,y with
  | .agg xs, .agg ys=>match pn ls xs.toList ys.toList with
    |some b=>some (.val (.bool (bif neq then !b else b)) h)
    |none=>none
  |_,_=>none
def UZ(h:Heap)(base:Nat)(e:Env)(op:UnOp)(x:Operand):Option cZ:=cT (evQ h e x) λx=>cT (uW op x) λv=>some (.val v h)
def GF(h:Heap)(base:Nat)(e:Env)(c:Cv)(x:Operand):Option cZ:=cT (evQ h e x) λx=>fS (xR h c x)
def vF(h:Heap)(base:Nat)(e:Env)(t:TypeId)(x:Operand):Option cZ:=cT (evQ h e x) λv=>some (.val (.iface t v) h)
def zK(h:Heap)(base:Nat)(e:Env)(fn:Fn)(fs:List Operand)(cs:List Operand):Option cZ:=match Eb h e fs,Eb h e cs with
 |some fs,some cs=>some (.val (.func fn fs.toArray cs.toArray) h)
 |_,_=>none
def CC(h:Heap)(base:Nat)(e:Env):Option cZ:=some (.val (.map (some h.next)) (h.push (.map [])))
def vG(h:Heap)(base:Nat)(e:Env)(z:List Value)(bytes:Nat)(l:Operand)(c:Operand):Option cZ:=match evQ h e l,evQ h e c with
 |some l,some c=>match pY l,pY c with
  |some l,some c=>bif Nat.ble l c&&Nat.ble (bytes*c) 281474976710656&&Nat.blt c UNK then
   some (.val (.slice (some ⟨h.next,0,none⟩) l c) (h.push (.cells (eS c z) true (bM z))))
   else none
  |_,_=>none
 |_,_=>none
def CE(h:Heap)(base:Nat)(e:Env):ASl->Operand->Option Operand->Option Operand->Option Operand->Option cZ
 | .str,x,lo,hi,none=>match evQ h e x with
   |some (.string s)=>match F1 h e 0 lo,F1 h e s.size hi with
    |some l,some u=>bif Nat.ble l u&&Nat.ble u s.size then some (.val (.string (s.extract l u)) h)else none
    |_,_=>none
   |_=>none
 |(.sl size),x,lo,hi,mx=>match evQ h e x with
  |some (.slice a len cap)=>fS (CT h e size a len cap lo hi mx)
  |_=>none
 |(.arr n size),x,lo,hi,mx=>match evQ h e x with
  |some (.pointer (some a))=>fS (CT h e size (some a) n n lo hi mx)
  |_=>none
 | .str,_,_,_,(some _)=>none
def Cy(h:Heap)(base:Nat)(e:Env)(off:Nat)(x:Operand):Option cZ:=match evQ h e x with
 |some (.pointer (some ⟨b,o,none⟩))=>some (.val (.pointer (some ⟨b,o+off,none⟩)) h)
 |_=>none
def Cz(h:Heap)(base:Nat)(e:Env)(off:Nat)(n:Option Nat)(x:Operand):Option cZ:=match evQ h e x with
 |some (.agg cs)=>match n with
  |none=>cT (bN cs.toList off) λv=>some (.val v h)
  |some n=>let l:=bO n (bK off cs.toList);bif Nat.beq (bM l) n then some (.val (.agg l.toArray) h)else none
 |_=>none
def zC(h:Heap)(base:Nat)(e:Env)(len:Nat)(size:Nat)(x:Operand)(i:Operand):Option cZ:=match evQ h e x,evQ h e i with
 |some (.pointer (some ⟨b,o,none⟩)),some (.int _ (.ofNat i))=>bif Nat.blt i len then some (.val (.pointer (some ⟨b,o+i*size,none⟩)) h)else none
 |_,_=>none
def zD(h:Heap)(base:Nat)(e:Env)(size:Nat)(x:Operand)(i:Operand):Option cZ:=match evQ h e x,evQ h e i with
 |some (.slice (some ⟨b,o,none⟩) len _),some (.int _ (.ofNat i))=>bif Nat.blt i len then some (.val (.pointer (some ⟨b,o+i*size,none⟩)) h)else none
 |_,_=>none
def GI(h:Heap)(base:Nat)(e:Env)(len:Nat)(size:Nat)(n:Option Nat)(x:Operand)(i:Operand):Option cZ:=match evQ h e x,evQ h e i with
 |some (.agg cs),some (.int _ (.ofNat i))=>bif Nat.blt i len then
  match n with
  |none=>cT (bN cs.toList (i*size)) λv=>some (.val v h)
  |some n=>let l:=bO n (bK (i*size) cs.toList);bif Nat.beq (bM l) n then some (.val (.agg l.toArray) h)else none
  else none
 |_,_=>none
def GJ(h:Heap)(base:Nat)(e:Env)(x:Operand)(i:Operand):Option cZ:=match evQ h e x,evQ h e i with
 |some (.string s),some (.int _ (.ofNat i))=>match bN s.data.toList i with
  |some b=>some (.val (.int .u8 b.toNat) h)
  |none=>none
 |_,_=>none
def zH(h:Heap)(base:Nat)(e:Env)(ag:Bool)(ls:List eN)(z:Value)(ok:Bool)(m:Operand)(k:Operand):Option cZ:=match evQ h e m,evQ h e k with
 |some (.map none),some k=>bif td ag ls k then some (.val (bif ok then .tuple #[z, .bool false]else z) h)else none
 |some (.map (some r)),some k=>match uF (nJ h r)with
  |some es=>bif td ag ls k then match AO ag ls k 0 es with
   |some (some (_,v))=>some (.val (bif ok then .tuple #[v, .bool true]else v) h)
   |some none=>some (.val (bif ok then .tuple #[z, .bool false]else z) h)
   |none=>none else none
  |none=>none
 |_,_=>none
def CB(h:Heap)(base:Nat)(e:Env)(ag:Bool)(ls:List eN)(m:Operand)(k:Operand)(v:Operand):Option cZ:=match evQ h e m,evQ h e k,evQ h e v with
 |some (.map (some r)),some k,some v=>match nJ h r with
  |some (.map es)=>bif td ag ls k then match AO ag ls k 0 es with
   |some (some (i,_))=>some (.val (.tuple #[]) (wrQ h base r (.map (th es i (k,v)))))
   |some none=>some (.val (.tuple #[]) (wrQ h base r (.map (ek es [(k,v)]))))
   |none=>none else none
  |_=>none
 |_,_,_=>none
def vI(h:Heap)(base:Nat)(e:Env)(t:TypeId)(ok:Bool)(z:Value)(x:Operand):Option cZ:=match evQ h e x with
 |some .nilIface=>bif ok then some (.val (.tuple #[z, .bool false]) h)else none
 |some (.iface t' v)=>if t'=t then some (.val (bif ok then .tuple #[v, .bool true]else v) h)
  else bif ok then some (.val (.tuple #[z, .bool false]) h)else none
 |_=>none
def vE(h:Heap)(base:Nat)(e:Env)(t:Operand)(i:Nat):Option cZ:=match evQ h e t with
 |some (.tuple vs)=>cT (bN vs.toList i) λv=>some (.val v h)
 |_=>none
def GD(h:Heap)(base:Nat)(e:Env)(f:Operand)(args:List Operand):Option cZ:=match evQ h e f,Eb h e args with
 |some f,some args=>qp f args h
 |_,_=>none
def zF(h:Heap)(base:Nat)(e:Env):Nat->Operand->Option cZ
 |0,x=>match evQ h e x with
  |some (.string s)=>some (.val (.int .i64 s.size) h)
  |_=>none
 |1,x=>match evQ h e x with
  |some (.slice _ n _)=>some (.val (.int .i64 n) h)
  |_=>none
 |_,x=>match evQ h e x with
  |some (.map none)=>some (.val (.int .i64 0) h)
  |some (.map (some r))=>match uF (nJ h r)with
   |some es=>some (.val (.int .i64 (bM es)) h)
   |none=>none
  |_=>none
def zG(h:Heap)(base:Nat)(e:Env)(n:Nat):Option cZ:=some (.val (.int .i64 n) h)
def Oj(h:Heap)(base:Nat)(e:Env)(x:Operand):Option cZ:=match evQ h e x with
 |some (.slice _ _ c)=>bif Nat.beq c UNK then none else some (.val (.int .i64 c) h)
 |_=>none
def zx(h:Heap)(base:Nat)(e:Env)(size:Nat)(bytes:Nat)(s:Operand)(x:Operand):Option cZ:=match evQ h e s,evQ h e x with
 |some s,some x=>match Sf h size x with
  |some (l,n)=>fS (wN h base size bytes s l n)
  |none=>none
 |_,_=>none
def vD(h:Heap)(base:Nat)(e:Env)(z:List Value)(bytes:Nat)(s:Operand)(n:Operand):Option cZ:=match evQ h e s,evQ h e n with
 |some s,some n=>match pY n with
  |some n=>bif Nat.blt n 9223372036854775808&&Nat.ble (n*bytes) 281474976710656 then fS (wN h base (bM z) bytes s (eS n z) n)else none
  |none=>none
 |_,_=>none
def GG(h:Heap)(base:Nat)(e:Env)(size:Nat)(d:Operand)(s:Operand):Option cZ:=match evQ h e d,evQ h e s with
 |some (.slice a dl _),some s=>match Sf h size s with
  |some (l,n)=>
   let m:=Nat.min n dl
   match a with
   |none=>some (.val (.int .i64 m) h)
   |some ⟨b,o,none⟩=>match nJ h b with
    |some (.cells vs true sz)=>bif Nat.ble (o+m*size) (bM vs)&&eG (bO (m*size) l)then
     some (.val (.int .i64 m) (wrQ h base b (.cells (dy vs o (bO (m*size) l)) true sz)))
     else none
    |_=>none
   |_=>none
  |none=>none
 |_,_=>none
def Cw(h:Heap)(base:Nat)(e:Env)(z:List Value)(x:Operand):Option cZ:=match evQ h e x with
 |some (.slice a n _)=>
  bif Nat.beq n 0 then some (.val (.tuple #[]) h)else
  match a with
  |none=>some (.val (.tuple #[]) h)
  |some ⟨b,o,none⟩=>match nJ h b with
   |some (.cells vs true sz)=>bif Nat.ble (o+bM (eS n z)) (bM vs)&&eG (eS n z)then some (.val (.tuple #[]) (wrQ h base b (.cells (dy vs o (eS n z)) true sz)))else none
   |_=>none
  |_=>none
 |_=>none
def zJ(h:Heap)(base:Nat)(e:Env)(mx:Bool)(args:List Operand):Option cZ:=match Eb h e args with
 |some (x::l)=>cT (mmA mx x l) λv=>some (.val v h)
 |_=>none
def zA(h:Heap)(base:Nat)(e:Env)(ag:Bool)(ls:List eN)(m:Operand)(k:Operand):Option cZ:=match evQ h e m,evQ h e k with
 |some (.map (some r)),some k=>match nJ h r with
  |some (.map es)=>bif td ag ls k then match AO ag ls k 0 es with
   |some (some (i,_))=>some (.val (.tuple #[]) (wrQ h base r (.map (Ul es i))))
   |some none=>some (.val (.tuple #[]) (wrQ h base r (.map es)))
   |none=>none else none
  |_=>none
 |some (.map none),some k=>bif td ag ls k then some (.val (.tuple #[]) h)else none
 |_,_=>none
def GH(h:Heap)(base:Nat)(e:Env)(f:Operand)(args:List Operand):Option cZ:=match evQ h e f,Eb h e args with
 |some (.func (.func g) first cap),some args=>some (.kF (.func (.func g) first cap) args)
 |_,_=>none
def vH(h:Heap)(base:Nat)(e:Env):Option cZ:=some .recover
def GN(h:Heap)(base:Nat)(e:Env)(x:Operand):Option cZ:=cT (evQ h e x) λv=>match v with
 | .iface _ _=>some (.panic v h)
 |_=>none
def CD(h:Heap)(base:Nat)(e:Env)(x:Operand):Option cZ:=match evQ h e x with
 |some (.string s)=>some (.val (.pointer (some ⟨h.next,0,none⟩)) (h.push (.nw s 0)))
 |_=>none
def GL(h:Heap)(base:Nat)(e:Env):Operand->Bool->Option cZ
 |x,true=>match evQ h e x with
  |some (.pointer (some ⟨r,0,none⟩))=>match nJ h r with
   |some (.nw s pos)=>bif Nat.blt pos s.size then
    let d:=Utf8.decode s pos
    some (.val (.tuple #[.bool true, .int .i64 pos, .int .i32 d.1]) (wrQ h base r (.nw s (pos+d.2))))
    else some (.val (.tuple #[.bool false]) h)
   |_=>none
  |_=>none
 |_,false=>none
def zM(h:Heap)(base:Nat)(e:Env)(_:Operand):Option cZ:=none
def Cx(h:Heap)(base:Nat)(e:Env)(_:Operand):Option cZ:=none
def Yj(x0:Operand)(h:Heap)(base:Nat)(e:Env):Option cZ:=Ol h base e x0
def U8(x0:Operand)(x1:Operand)(x2:Operand)(h:Heap)(base:Nat)(e:Env):Option cZ:=GM h base e x0 x1 x2
def Yk(x0:List Value)(h:Heap)(base:Nat)(e:Env):Option cZ:=Om h base e x0
def Yg(x0:Operand)(h:Heap)(base:Nat)(e:Env):Option cZ:=Oi h base e x0
def RJ(x0:List Value)(x1:List (Nat×Nat×Operand))(h:Heap)(base:Nat)(e:Env):Option cZ:=Cu h base e x0 x1
def Ot(x0:List Value)(x1:Nat)(x2:List (Nat×Nat×Operand))(h:Heap)(base:Nat)(e:Env):Option cZ:=zy h base e x0 x1 x2
def U6(x0:Option Nat)(x1:Operand)(h:Heap)(base:Nat)(e:Env):Option cZ:=GK h base e x0 x1
def RS(x0:Nat)(x1:Operand)(x2:Operand)(h:Heap)(base:Nat)(e:Env):Option cZ:=CF h base e x0 x1 x2
def OB(x0:Operand)(h:Heap)(base:Nat)(e:Env):Option cZ:=zL h base e x0
def Yf(x0:FM)(x1:Operand)(x2:Operand)(h:Heap)(base:Nat)(e:Env):Option cZ:=Oh h base e x0 x1 x2
def aaq(x0:UnOp)(x1:Operand)(h:Heap)(base:Nat)(e:Env):Option cZ:=UZ h base e x0 x1
def U1(x0:Cv)(x1:Operand)(h:Heap)(base:Nat)(e:Env):Option cZ:=GF h base e x0 x1
def JT(x0:TypeId)(x1:Operand)(h:Heap)(base:Nat)(e:Env):Option cZ:=vF h base e x0 x1
def OA(x0:Fn)(x1:List Operand)(x2:List Operand)(h:Heap)(base:Nat)(e:Env):Option cZ:=zK h base e x0 x1 x2
def RP(h:Heap)(base:Nat)(e:Env):Option cZ:=CC h base e
def JU(x0:List Value)(x1:Nat)(x2:Operand)(x3:Operand)(h:Heap)(base:Nat)(e:Env):Option cZ:=vG h base e x0 x1 x2 x3
def RR(x0:ASl)(x1:Operand)(x2:Option Operand)(x3:Option Operand)(x4:Option Operand)(h:Heap)(base:Nat)(e:Env):Option cZ:=CE h base e x0 x1 x2 x3 x4
def RM(x0:Nat)(x1:Operand)(h:Heap)(base:Nat)(e:Env):Option cZ:=Cy h base e x0 x1
def RN(x0:Nat)(x1:Option Nat)(x2:Operand)(h:Heap)(base:Nat)(e:Env):Option cZ:=Cz h base e x0 x1 x2
def Ov(x0:Nat)(x1:Nat)(x2:Operand)(x3:Operand)(h:Heap)(base:Nat)(e:Env):Option cZ:=zC h base e x0 x1 x2 x3
def Ow(x0:Nat)(x1:Operand)(x2:Operand)(h:Heap)(base:Nat)(e:Env):Option cZ:=zD h base e x0 x1 x2
def U4(x0:Nat)(x1:Nat)(x2:Option Nat)(x3:Operand)(x4:Operand)(h:Heap)(base:Nat)(e:Env):Option cZ:=GI h base e x0 x1 x2 x3 x4
def U5(x0:Operand)(x1:Operand)(h:Heap)(base:Nat)(e:Env):Option cZ:=GJ h base e x0 x1
def Oy(x0:Bool)(x1:List eN)(x2:Value)(x3:Bool)(x4:Operand)(x5:Operand)(h:Heap)(base:Nat)(e:Env):Option cZ:=zH h base e x0 x1 x2 x3 x4 x5
def RO(x0:Bool)(x1:List eN)(x2:Operand)(x3:Operand)(x4:Operand)(h:Heap)(base:Nat)(e:Env):Option cZ:=CB h base e x0 x1 x2 x3 x4
def JW(x0:TypeId)(x1:Bool)(x2:Value)(x3:Operand)(h:Heap)(base:Nat)(e:Env):Option cZ:=vI h base e x0 x1 x2 x3
def JS(x0:Operand)(x1:Nat)(h:Heap)(base:Nat)(e:Env):Option cZ:=vE h base e x0 x1
def U0(x0:Operand)(x1:List Operand)(h:Heap)(base:Nat)(e:Env):Option cZ:=GD h base e x0 x1
def Yi(x0:Nat)(x1:Operand)(h:Heap)(base:Nat)(e:Env):Option cZ:=zF h base e x0 x1
def Ox(x0:Nat)(h:Heap)(base:Nat)(e:Env):Option cZ:=zG h base e x0
def Yh(x0:Operand)(h:Heap)(base:Nat)(e:Env):Option cZ:=Oj h base e x0
def Oq(x0:Nat)(x1:Nat)(x2:Operand)(x3:Operand)(h:Heap)(base:Nat)(e:Env):Option cZ:=zx h base e x0 x1 x2 x3
def JQ(x0:List Value)(x1:Nat)(x2:Operand)(x3:Operand)(h:Heap)(base:Nat)(e:Env):Option cZ:=vD h base e x0 x1 x2 x3
def U2(x0:Nat)(x1:Operand)(x2:Operand)(h:Heap)(base:Nat)(e:Env):Option cZ:=GG h base e x0 x1 x2
def RK(x0:List Value)(x1:Operand)(h:Heap)(base:Nat)(e:Env):Option cZ:=Cw h base e x0 x1
def Oz(x0:Bool)(x1:List Operand)(h:Heap)(base:Nat)(e:Env):Option cZ:=zJ h base e x0 x1
def Ou(x0:Bool)(x1:List eN)(x2:Operand)(x3:Operand)(h:Heap)(base:Nat)(e:Env):Option cZ:=zA h base e x0 x1 x2 x3
def U3(x0:Operand)(x1:List Operand)(h:Heap)(base:Nat)(e:Env):Option cZ:=GH h base e x0 x1
def JV(h:Heap)(base:Nat)(e:Env):Option cZ:=vH h base e
def U9(x0:Operand)(h:Heap)(base:Nat)(e:Env):Option cZ:=GN h base e x0
def RQ(x0:Operand)(h:Heap)(base:Nat)(e:Env):Option cZ:=CD h base e x0
def U7(x0:Operand)(x1:Bool)(h:Heap)(base:Nat)(e:Env):Option cZ:=GL h base e x0 x1
def OC(x0:Operand)(h:Heap)(base:Nat)(e:Env):Option cZ:=zM h base e x0
def RL(x0:Operand)(h:Heap)(base:Nat)(e:Env):Option cZ:=Cx h base e x0
def YV(o:AOp):Heap->Nat->Env->Option cZ:=AOp.rec (motive:=λ_=>Heap->Nat->Env->Option cZ) Yj U8 Yk Yg RJ Ot U6 RS OB Yf aaq U1 JT OA RP JU RR RM RN Ov Ow U4 U5 Oy RO JW JS U0 Yi Ox Yh Oq JQ U2 RK Oz Ou U3 JV U9 RQ U7 OC RL o
def FY(h:Heap)(base:Nat)(e:Env)(o:AOp):Option cZ:=YV o h base e
theorem kY:FY=aop:=by
 funext h base e o;cases o;case mov x0=>show Ol h base e x0=_;first|rfl|(unfold Ol;simp only[cg,bC,bw,bT,bA,aY,aO,bD,cw,cB,bh,bt,br,cK,aW];rfl)
 case pick x0 x1 x2=>show GM h base e x0 x1 x2=_;first|rfl|(unfold GM;simp only[cg,bC,bw,bT,bA,aY,aO,bD,cw,cB,bh,bt,br,cK,aW];rfl)
 case new x0=>show Om h base e x0=_;first|rfl|(unfold Om;simp only[cg,bC,bw,bT,bA,aY,aO,bD,cw,cB,bh,bt,br,cK,aW];rfl)
 case box x0=>show Oi h base e x0=_;first|rfl|(unfold Oi;simp only[cg,bC,bw,bT,bA,aY,aO,bD,cw,cB,bh,bt,br,cK,aW];rfl)
 case build x0 x1=>show Cu h base e x0 x1=_;first|rfl|(unfold Cu;simp only[cg,bC,bw,bT,bA,aY,aO,bD,cw,cB,bh,bt,br,cK,aW];rfl)
 case dz x0 x1 x2=>show zy h base e x0 x1 x2=_;first|rfl|(unfold zy;simp only[cg,bC,bw,bT,bA,aY,aO,bD,cw,cB,bh,bt,br,cK,aW];rfl)
 case load x0 x1=>show GK h base e x0 x1=_;first|rfl|(unfold GK;simp only[cg,bC,bw,bT,bA,aY,aO,bD,cw,cB,bh,bt,br,cK,aW];rfl)
 case store x0 x1 x2=>show CF h base e x0 x1 x2=_;first|rfl|(unfold CF;simp only[cg,bC,bw,bT,bA,aY,aO,bD,cw,cB,bh,bt,br,cK,aW];rfl)
 case cM x0=>show zL h base e x0=_;first|rfl|(unfold zL;simp only[cg,bC,bw,bT,bA,aY,aO,bD,cw,cB,bh,bt,br,cK,aW];rfl)
 case un x0 x1=>show UZ h base e x0 x1=_;first|rfl|(unfold UZ;simp only[cg,bC,bw,bT,bA,aY,aO,bD,cw,cB,bh,bt,br,cK,aW];rfl)
 case conv x0 x1=>show GF h base e x0 x1=_;first|rfl|(unfold GF;simp only[cg,bC,bw,bT,bA,aY,aO,bD,cw,cB,bh,bt,br,cK,aW];rfl)
 case iT x0 x1=>show vF h base e x0 x1=_;first|rfl|(unfold vF;simp only[cg,bC,bw,bT,bA,aY,aO,bD,cw,cB,bh,bt,br,cK,aW];rfl)
 case fh x0 x1 x2=>show zK h base e x0 x1 x2=_;first|rfl|(unfold zK;simp only[cg,bC,bw,bT,bA,aY,aO,bD,cw,cB,bh,bt,br,cK,aW];rfl)
 case mkMap=>show CC h base e=_;first|rfl|(unfold CC;simp only[cg,bC,bw,bT,bA,aY,aO,bD,cw,cB,bh,bt,br,cK,aW];rfl)
 case mkSlice x0 x1 x2 x3=>show vG h base e x0 x1 x2 x3=_;first|rfl|(unfold vG;simp only[cg,bC,bw,bT,bA,aY,aO,bD,cw,cB,bh,bt,br,cK,aW];rfl)
 case dg x0 x1=>show Cy h base e x0 x1=_;first|rfl|(unfold Cy;simp only[cg,bC,bw,bT,bA,aY,aO,bD,cw,cB,bh,bt,br,cK,aW];rfl)
 case field x0 x1 x2=>show Cz h base e x0 x1 x2=_;first|rfl|(unfold Cz;simp only[cg,bC,bw,bT,bA,aY,aO,bD,cw,cB,bh,bt,br,cK,aW];rfl)
 case cQ x0 x1 x2 x3=>show zC h base e x0 x1 x2 x3=_;first|rfl|(unfold zC;simp only[cg,bC,bw,bT,bA,aY,aO,bD,cw,cB,bh,bt,br,cK,aW];rfl)
 case aD x0 x1 x2=>show zD h base e x0 x1 x2=_;first|rfl|(unfold zD;simp only[cg,bC,bw,bT,bA,aY,aO,bD,cw,cB,bh,bt,br,cK,aW];rfl)
 case uz x0 x1 x2 x3 x4=>show GI h base e x0 x1 x2 x3 x4=_;first|rfl|(unfold GI;simp only[cg,bC,bw,bT,bA,aY,aO,bD,cw,cB,bh,bt,br,cK,aW];rfl)
 case jW x0 x1=>show GJ h base e x0 x1=_;first|rfl|(unfold GJ;simp only[cg,bC,bw,bT,bA,aY,aO,bD,cw,cB,bh,bt,br,cK,aW];rfl)
 case lookup x0 x1 x2 x3 x4 x5=>show zH h base e x0 x1 x2 x3 x4 x5=_;first|rfl|(unfold zH;simp only[cg,bC,bw,bT,bA,aY,aO,bD,cw,cB,bh,bt,br,cK,aW];rfl)
 case oz x0 x1 x2 x3 x4=>show CB h base e x0 x1 x2 x3 x4=_;first|rfl|(unfold CB;simp only[cg,bC,bw,bT,bA,aY,aO,bD,cw,cB,bh,bt,br,cK,aW];rfl)
 case kC x0 x1 x2 x3=>show vI h base e x0 x1 x2 x3=_;first|rfl|(unfold vI;simp only[cg,bC,bw,bT,bA,aY,aO,bD,cw,cB,bh,bt,br,cK,aW];rfl)
 case extract x0 x1=>show vE h base e x0 x1=_;first|rfl|(unfold vE;simp only[cg,bC,bw,bT,bA,aY,aO,bD,cw,cB,bh,bt,br,cK,aW];rfl)
 case call x0 x1=>show GD h base e x0 x1=_;first|rfl|(unfold GD;simp only[cg,bC,bw,bT,bA,aY,aO,bD,cw,cB,bh,bt,br,cK,aW];rfl)
 case nN x0=>show zG h base e x0=_;first|rfl|(unfold zG;simp only[cg,bC,bw,bT,bA,aY,aO,bD,cw,cB,bh,bt,br,cK,aW];rfl)
 case cap x0=>show Oj h base e x0=_;first|rfl|(unfold Oj;simp only[cg,bC,bw,bT,bA,aY,aO,bD,cw,cB,bh,bt,br,cK,aW];rfl)
 case append x0 x1 x2 x3=>show zx h base e x0 x1 x2 x3=_;first|rfl|(unfold zx;simp only[cg,bC,bw,bT,bA,aY,aO,bD,cw,cB,bh,bt,br,cK,aW];rfl)
 case mY x0 x1 x2 x3=>show vD h base e x0 x1 x2 x3=_;first|rfl|(unfold vD;simp only[cg,bC,bw,bT,bA,aY,aO,bD,cw,cB,bh,bt,br,cK,aW];rfl)
 case copy x0 x1 x2=>show GG h base e x0 x1 x2=_;first|rfl|(unfold GG;simp only[cg,bC,bw,bT,bA,aY,aO,bD,cw,cB,bh,bt,br,cK,aW];rfl)
 case clear x0 x1=>show Cw h base e x0 x1=_;first|rfl|(unfold Cw;simp only[cg,bC,bw,bT,bA,aY,aO,bD,cw,cB,bh,bt,br,cK,aW];rfl)
 case eF x0 x1=>show zJ h base e x0 x1=_;first|rfl|(unfold zJ;simp only[cg,bC,bw,bT,bA,aY,aO,bD,cw,cB,bh,bt,br,cK,aW];rfl)
 case delete x0 x1 x2 x3=>show zA h base e x0 x1 x2 x3=_;first|rfl|(unfold zA;simp only[cg,bC,bw,bT,bA,aY,aO,bD,cw,cB,bh,bt,br,cK,aW];rfl)
 case kF x0 x1=>show GH h base e x0 x1=_;first|rfl|(unfold GH;simp only[cg,bC,bw,bT,bA,aY,aO,bD,cw,cB,bh,bt,br,cK,aW];rfl)
 case recover=>show vH h base e=_;first|rfl|(unfold vH;simp only[cg,bC,bw,bT,bA,aY,aO,bD,cw,cB,bh,bt,br,cK,aW];rfl)
 case uN x0=>show GN h base e x0=_;first|rfl|(unfold GN;simp only[cg,bC,bw,bT,bA,aY,aO,bD,cw,cB,bh,bt,br,cK,aW];rfl)
 case range x0=>show CD h base e x0=_;first|rfl|(unfold CD;simp only[cg,bC,bw,bT,bA,aY,aO,bD,cw,cB,bh,bt,br,cK,aW];rfl)
 case nP x0=>show zM h base e x0=_;first|rfl|(unfold zM;simp only[cg,bC,bw,bT,bA,aY,aO,bD,cw,cB,bh,bt,br,cK,aW];rfl)
 case entry x0=>show Cx h base e x0=_;first|rfl|(unfold Cx;simp only[cg,bC,bw,bT,bA,aY,aO,bD,cw,cB,bh,bt,br,cK,aW];rfl)
 case bin op x y=>show Oh h base e op x y=_;cases op<;>(simp only[Oh,aop,cg,bC,bw,bT,bA,aY,aO,bD,cw,cB,bh,bt,br,cK,aW];first|done|rfl)
 case slice k x lo hi mx=>show CE h base e k x lo hi mx=_;cases k<;>cases mx<;>(simp only[CE,aop,cg,bC,bw,bT,bA,aY,aO,bD,cw,cB,bh,bt,br,cK,aW];first|done|rfl)
 case len k x=>
  match k with
  |0=>show zF h base e 0 x=_;simp only[zF,aop,cg,bC,bw,bT,bA,aY,aO,bD,cw,cB,bh,bt,br,cK,aW];first|done|rfl
  |1=>show zF h base e 1 x=_;simp only[zF,aop,cg,bC,bw,bT,bA,aY,aO,bD,cw,cB,bh,bt,br,cK,aW];first|done|rfl
  |k+2=>show zF h base e (k+2) x=_;simp only[zF,aop,cg,bC,bw,bT,bA,aY,aO,bD,cw,cB,bh,bt,br,cK,aW];first|done|rfl
 case next x s=>show GL h base e x s=_;cases s<;>(simp only[GL,aop,cg,bC,bw,bT,bA,aY,aO,bD,cw,cB,bh,bt,br,cK,aW];first|done|rfl)
structure Fam where
 exec:Nat->Option Nat->aT->Env->Dfs->Heap->Option (bE×Env×Dfs×Heap)
 ops:Nat->Option Nat->List aZ->Env->Dfs->Heap->Option (bE×Env×Dfs×Heap)
 draw:Nat->List aZ->List Nat->List Nat->List Rec->Env->Heap->Option (bE×Env×Heap)
 jZ:Fn->List Value->Heap->Option (Res×Heap)
 call:Nat->List Value->Heap->Option (Res×Heap)
 unw:List (Nat×Option (Option Nat))->Dfs->Option Value->Env->Heap->Heap->Option (Res×Heap)
 defer:Nat->List Value->Option Value->Heap->Option (Option Value×Heap)
 iX:Nat->aT->Env->Option Value->Heap->Option (bE×Env×Option Value×Heap)
 nO:Nat->List aZ->Env->Option Value->Heap->Option (bE×Env×Option Value×Heap)
def Fam.none:Fam where
 exec:=λ_ _ _ _ _ _=> .none
 ops:=λ_ _ _ _ _ _=> .none
 draw:=λ_ _ _ _ _ _ _=> .none
 jZ:=λ_ _ _=> .none
 call:=λ_ _ _=> .none
 unw:=λ_ _ _ _ _ _=> .none
 defer:=λ_ _ _ _=> .none
 iX:=λ_ _ _ _ _=> .none
 nO:=λ_ _ _ _ _=> .none
def X6(x0:Operand):List Operand:=dA (.mov x0)
def UG(x0:Operand)(x1:Operand)(x2:Operand):List Operand:=dA (.pick x0 x1 x2)
def X7(x0:List Value):List Operand:=dA (.new x0)
def X3(x0:Operand):List Operand:=dA (.box x0)
def Rb(x0:List Value)(x1:List (Nat×Nat×Operand)):List Operand:=dA (.build x0 x1)
def NB(x0:List Value)(x1:Nat)(x2:List (Nat×Nat×Operand)):List Operand:=dA (.dz x0 x1 x2)
def UE(x0:Option Nat)(x1:Operand):List Operand:=dA (.load x0 x1)
def Rm(x0:Nat)(x1:Operand)(x2:Operand):List Operand:=dA (.store x0 x1 x2)
def NL(x0:Operand):List Operand:=dA (.cM x0)
def X2(x0:FM)(x1:Operand)(x2:Operand):List Operand:=dA (.bin x0 x1 x2)
def aak(x0:UnOp)(x1:Operand):List Operand:=dA (.un x0 x1)
def Uz(x0:Cv)(x1:Operand):List Operand:=dA (.conv x0 x1)
def JA(x0:TypeId)(x1:Operand):List Operand:=dA (.iT x0 x1)
def NJ(x0:Fn)(x1:List Operand)(x2:List Operand):List Operand:=dA (.fh x0 x1 x2)
def Ri:List Operand:=dA (.mkMap)
def JB(x0:List Value)(x1:Nat)(x2:Operand)(x3:Operand):List Operand:=dA (.mkSlice x0 x1 x2 x3)
def Rl(x0:ASl)(x1:Operand)(x2:Option Operand)(x3:Option Operand)(x4:Option Operand):List Operand:=dA (.slice x0 x1 x2 x3 x4)
def Rf(x0:Nat)(x1:Operand):List Operand:=dA (.dg x0 x1)
def Rg(x0:Nat)(x1:Option Nat)(x2:Operand):List Operand:=dA (.field x0 x1 x2)
def ND(x0:Nat)(x1:Nat)(x2:Operand)(x3:Operand):List Operand:=dA (.cQ x0 x1 x2 x3)
def NF(x0:Nat)(x1:Operand)(x2:Operand):List Operand:=dA (.aD x0 x1 x2)
def UC(x0:Nat)(x1:Nat)(x2:Option Nat)(x3:Operand)(x4:Operand):List Operand:=dA (.uz x0 x1 x2 x3 x4)
def UD(x0:Operand)(x1:Operand):List Operand:=dA (.jW x0 x1)
def NH(x0:Bool)(x1:List eN)(x2:Value)(x3:Bool)(x4:Operand)(x5:Operand):List Operand:=dA (.lookup x0 x1 x2 x3 x4 x5)
def Rh(x0:Bool)(x1:List eN)(x2:Operand)(x3:Operand)(x4:Operand):List Operand:=dA (.oz x0 x1 x2 x3 x4)
def JD(x0:TypeId)(x1:Bool)(x2:Value)(x3:Operand):List Operand:=dA (.kC x0 x1 x2 x3)
def Jz(x0:Operand)(x1:Nat):List Operand:=dA (.extract x0 x1)
def Uy(x0:Operand)(x1:List Operand):List Operand:=dA (.call x0 x1)
def X5(x0:Nat)(x1:Operand):List Operand:=dA (.len x0 x1)
def NG(x0:Nat):List Operand:=dA (.nN x0)
def X4(x0:Operand):List Operand:=dA (.cap x0)
def NA(x0:Nat)(x1:Nat)(x2:Operand)(x3:Operand):List Operand:=dA (.append x0 x1 x2 x3)
def Jy(x0:List Value)(x1:Nat)(x2:Operand)(x3:Operand):List Operand:=dA (.mY x0 x1 x2 x3)
def UA(x0:Nat)(x1:Operand)(x2:Operand):List Operand:=dA (.copy x0 x1 x2)
def Rc(x0:List Value)(x1:Operand):List Operand:=dA (.clear x0 x1)
def NI(x0:Bool)(x1:List Operand):List Operand:=dA (.eF x0 x1)
def NC(x0:Bool)(x1:List eN)(x2:Operand)(x3:Operand):List Operand:=dA (.delete x0 x1 x2 x3)
def UB(x0:Operand)(x1:List Operand):List Operand:=dA (.kF x0 x1)
def JC:List Operand:=dA (.recover)
def UH(x0:Operand):List Operand:=dA (.uN x0)
def Rj(x0:Operand):List Operand:=dA (.range x0)
def UF(x0:Operand)(x1:Bool):List Operand:=dA (.next x0 x1)
def NM(x0:Operand):List Operand:=dA (.nP x0)
def Re(x0:Operand):List Operand:=dA (.entry x0)
def Cj(o:AOp):List Operand:=AOp.rec (motive:=λ_=>List Operand) X6 UG X7 X3 Rb NB UE Rm NL X2 aak Uz JA NJ Ri JB Rl Rf Rg ND NF UC UD NH Rh JD Jz Uy X5 NG X4 NA Jy UA Rc NI NC UB JC UH Rj UF NM Re o
theorem Gy:Cj=dA:=by funext o;cases o<;>rfl
def Yy(x0:Operand):Bool:=cU (.mov x0)
def Vx(x0:Operand)(x1:Operand)(x2:Operand):Bool:=cU (.pick x0 x1 x2)
def Yz(x0:List Value):Bool:=cU (.new x0)
def Yv(x0:Operand):Bool:=cU (.box x0)
def Si(x0:List Value)(x1:List (Nat×Nat×Operand)):Bool:=cU (.build x0 x1)
def O1(x0:List Value)(x1:Nat)(x2:List (Nat×Nat×Operand)):Bool:=cU (.dz x0 x1 x2)
def Vv(x0:Option Nat)(x1:Operand):Bool:=cU (.load x0 x1)
def Su(x0:Nat)(x1:Operand)(x2:Operand):Bool:=cU (.store x0 x1 x2)
def O9(x0:Operand):Bool:=cU (.cM x0)
def Yu(x0:FM)(x1:Operand)(x2:Operand):Bool:=cU (.bin x0 x1 x2)
def aau(x0:UnOp)(x1:Operand):Bool:=cU (.un x0 x1)
def Vq(x0:Cv)(x1:Operand):Bool:=cU (.conv x0 x1)
def Kh(x0:TypeId)(x1:Operand):Bool:=cU (.iT x0 x1)
def O8(x0:Fn)(x1:List Operand)(x2:List Operand):Bool:=cU (.fh x0 x1 x2)
def Sq:Bool:=cU (.mkMap)
def Ki(x0:List Value)(x1:Nat)(x2:Operand)(x3:Operand):Bool:=cU (.mkSlice x0 x1 x2 x3)
def Ss(x0:ASl)(x1:Operand)(x2:Option Operand)(x3:Option Operand)(x4:Option Operand):Bool:=cU (.slice x0 x1 x2 x3 x4)
def Sl(x0:Nat)(x1:Operand):Bool:=cU (.dg x0 x1)
def Sm(x0:Nat)(x1:Option Nat)(x2:Operand):Bool:=cU (.field x0 x1 x2)
def O3(x0:Nat)(x1:Nat)(x2:Operand)(x3:Operand):Bool:=cU (.cQ x0 x1 x2 x3)
def O4(x0:Nat)(x1:Operand)(x2:Operand):Bool:=cU (.aD x0 x1 x2)
def Vt(x0:Nat)(x1:Nat)(x2:Option Nat)(x3:Operand)(x4:Operand):Bool:=cU (.uz x0 x1 x2 x3 x4)
def Vu(x0:Operand)(x1:Operand):Bool:=cU (.jW x0 x1)
def O6(x0:Bool)(x1:List eN)(x2:Value)(x3:Bool)(x4:Operand)(x5:Operand):Bool:=cU (.lookup x0 x1 x2 x3 x4 x5)
def Sn(x0:Bool)(x1:List eN)(x2:Operand)(x3:Operand)(x4:Operand):Bool:=cU (.oz x0 x1 x2 x3 x4)
def Kk(x0:TypeId)(x1:Bool)(x2:Value)(x3:Operand):Bool:=cU (.kC x0 x1 x2 x3)
def Kg(x0:Operand)(x1:Nat):Bool:=cU (.extract x0 x1)
def Vp(x0:Operand)(x1:List Operand):Bool:=cU (.call x0 x1)
def Yx(x0:Nat)(x1:Operand):Bool:=cU (.len x0 x1)
def O5(x0:Nat):Bool:=cU (.nN x0)
def Yw(x0:Operand):Bool:=cU (.cap x0)
def O0(x0:Nat)(x1:Nat)(x2:Operand)(x3:Operand):Bool:=cU (.append x0 x1 x2 x3)
def Kf(x0:List Value)(x1:Nat)(x2:Operand)(x3:Operand):Bool:=cU (.mY x0 x1 x2 x3)
def Vr(x0:Nat)(x1:Operand)(x2:Operand):Bool:=cU (.copy x0 x1 x2)
def Sj(x0:List Value)(x1:Operand):Bool:=cU (.clear x0 x1)
def O7(x0:Bool)(x1:List Operand):Bool:=cU (.eF x0 x1)
def O2(x0:Bool)(x1:List eN)(x2:Operand)(x3:Operand):Bool:=cU (.delete x0 x1 x2 x3)
def Vs(x0:Operand)(x1:List Operand):Bool:=cU (.kF x0 x1)
def Kj:Bool:=cU (.recover)
def Vy(x0:Operand):Bool:=cU (.uN x0)
def Sr(x0:Operand):Bool:=cU (.range x0)
def Vw(x0:Operand)(x1:Bool):Bool:=cU (.next x0 x1)
def Pa(x0:Operand):Bool:=cU (.nP x0)
def Sk(x0:Operand):Bool:=cU (.entry x0)
def Iu(o:AOp):Bool:=AOp.rec (motive:=λ_=>Bool) Yy Vx Yz Yv Si O1 Vv Su O9 Yu aau Vq Kh O8 Sq Ki Ss Sl Sm O3 O4 Vt Vu O6 Sn Kk Kg Vp Yx O5 Yw O0 Kf Vr Sj O7 O2 Vs Kj Vy Sr Vw Pa Sk o
theorem GQ:Iu=cU:=by funext o;cases o<;>rfl
def YI(x0:Operand):Bool:=dK (.mov x0)
def VS(x0:Operand)(x1:Operand)(x2:Operand):Bool:=dK (.pick x0 x1 x2)
def YJ(x0:List Value):Bool:=dK (.new x0)
def YE(x0:Operand):Bool:=dK (.box x0)
def SL(x0:List Value)(x1:List (Nat×Nat×Operand)):Bool:=dK (.build x0 x1)
def PC(x0:List Value)(x1:Nat)(x2:List (Nat×Nat×Operand)):Bool:=dK (.dz x0 x1 x2)
def VP(x0:Option Nat)(x1:Operand):Bool:=dK (.load x0 x1)
def SX(x0:Nat)(x1:Operand)(x2:Operand):Bool:=dK (.store x0 x1 x2)
def PL(x0:Operand):Bool:=dK (.cM x0)
def YD(x0:FM)(x1:Operand)(x2:Operand):Bool:=dK (.bin x0 x1 x2)
def aaz(x0:UnOp)(x1:Operand):Bool:=dK (.un x0 x1)
def VK(x0:Cv)(x1:Operand):Bool:=dK (.conv x0 x1)
def Kv(x0:TypeId)(x1:Operand):Bool:=dK (.iT x0 x1)
def PK(x0:Fn)(x1:List Operand)(x2:List Operand):Bool:=dK (.fh x0 x1 x2)
def SS:Bool:=dK (.mkMap)
def Kw(x0:List Value)(x1:Nat)(x2:Operand)(x3:Operand):Bool:=dK (.mkSlice x0 x1 x2 x3)
def SV(x0:ASl)(x1:Operand)(x2:Option Operand)(x3:Option Operand)(x4:Option Operand):Bool:=dK (.slice x0 x1 x2 x3 x4)
def SP(x0:Nat)(x1:Operand):Bool:=dK (.dg x0 x1)
def SQ(x0:Nat)(x1:Option Nat)(x2:Operand):Bool:=dK (.field x0 x1 x2)
def PE(x0:Nat)(x1:Nat)(x2:Operand)(x3:Operand):Bool:=dK (.cQ x0 x1 x2 x3)
def PF(x0:Nat)(x1:Operand)(x2:Operand):Bool:=dK (.aD x0 x1 x2)
def VN(x0:Nat)(x1:Nat)(x2:Option Nat)(x3:Operand)(x4:Operand):Bool:=dK (.uz x0 x1 x2 x3 x4)
def VO(x0:Operand)(x1:Operand):Bool:=dK (.jW x0 x1)
def PI(x0:Bool)(x1:List eN)(x2:Value)(x3:Bool)(x4:Operand)(x5:Operand):Bool:=dK (.lookup x0 x1 x2 x3 x4 x5)
def SR(x0:Bool)(x1:List eN)(x2:Operand)(x3:Operand)(x4:Operand):Bool:=dK (.oz x0 x1 x2 x3 x4)
def Ky(x0:TypeId)(x1:Bool)(x2:Value)(x3:Operand):Bool:=dK (.kC x0 x1 x2 x3)
def Ku(x0:Operand)(x1:Nat):Bool:=dK (.extract x0 x1)
def VJ(x0:Operand)(x1:List Operand):Bool:=dK (.call x0 x1)
def YH(x0:Nat)(x1:Operand):Bool:=dK (.len x0 x1)
def PG(x0:Nat):Bool:=dK (.nN x0)
def YF(x0:Operand):Bool:=dK (.cap x0)
def PB(x0:Nat)(x1:Nat)(x2:Operand)(x3:Operand):Bool:=dK (.append x0 x1 x2 x3)
def Kt(x0:List Value)(x1:Nat)(x2:Operand)(x3:Operand):Bool:=dK (.mY x0 x1 x2 x3)
def VL(x0:Nat)(x1:Operand)(x2:Operand):Bool:=dK (.copy x0 x1 x2)
def SM(x0:List Value)(x1:Operand):Bool:=dK (.clear x0 x1)
def PJ(x0:Bool)(x1:List Operand):Bool:=dK (.eF x0 x1)
def PD(x0:Bool)(x1:List eN)(x2:Operand)(x3:Operand):Bool:=dK (.delete x0 x1 x2 x3)
def VM(x0:Operand)(x1:List Operand):Bool:=dK (.kF x0 x1)
def Kx:Bool:=dK (.recover)
def VT(x0:Operand):Bool:=dK (.uN x0)
def SU(x0:Operand):Bool:=dK (.range x0)
def VQ(x0:Operand)(x1:Bool):Bool:=dK (.next x0 x1)
def PM(x0:Operand):Bool:=dK (.nP x0)
def SN(x0:Operand):Bool:=dK (.entry x0)
def Gc(o:AOp):Bool:=AOp.rec (motive:=λ_=>Bool) YI VS YJ YE SL PC VP SX PL YD aaz VK Kv PK SS Kw SV SP SQ PE PF VN VO PI SR Ky Ku VJ YH PG YF PB Kt VL SM PJ PD VM Kx VT SU VQ PM SN o
theorem iM:Gc=dK:=by funext o;cases o<;>rfl
def BN(o:AOp):Bool:=Iu o||Gc o
theorem iB:BN=jM:=by funext o;simp only[BN,jM,GQ,iM]
def mu(o:aZ):List Nat:=
 match o.guard with
 |some (t,_)=>t::Bq (Cj o.op)
 |none=>Bq (Cj o.op)
theorem iG:mu=dh:=by funext o;unfold mu dh;simp only[Gy];rfl
def tK:List Value->List Value->Bool
 |[],[]=>true
 |x::xs,y::ys=>bif CL x y then tK xs ys else false
 |_,_=>false
def GX:Value->Value->Bool
 | .agg a, .agg b=>tK a.toList b.toList
 | .tuple a, .tuple b=>tK a.toList b.toList
 | .func (.func f) a' a, .func (.func g) b' b=>f==g&&(tK a'.toList b'.toList&&tK a.toList b.toList)
 |x,y=>CL x y
def Iv(h:Heap)(base:Nat)(r:Rec):Bool:=
 match r.k with
 | .quiet=>match FY h base r.e r.o.op with
   |some (.val v' h2)=>GX r.v v'&&Nat.beq h2.next h.next
   |_=>false
 |_=>true
def CG(h:Heap)(base:Nat):List Rec->Bool
 |[]=>true
 |r::rs=>bif Iv h base r then CG h base rs else false
def jO(h:Heap)(base:Nat)(log:List Nat)(mask:Nat):List Rec->Option (List Rec)
 |[]=>some []
 |r::rs=>bif Nat.testBit mask r.i then jO h base log mask rs else
  bif Iv h base r&&JX log r then match jO h base log mask rs with
   |some rs'=>some (r::rs')
   |none=>none
  else none
theorem J5:tK=kI:=by
 funext a;induction a with
 |nil=>funext b;cases b<;>rfl
 |cons x a ih=>funext b;cases b<;>first|rfl|(simp only[tK,kI,Bi,ih])
theorem J6:GX=jb:=by
 funext a b;unfold GX jb;simp only[J5,Bi];first|done|rfl
theorem Fe:Iv=tD:=by
 funext h base r;unfold Iv tD;simp only[kY,J6];first|done|rfl
theorem ji:CG=oH:=by
 funext h base rs;induction rs with
 |nil=>rfl
 |cons r rs ih=>simp only[CG,oH,Fe,ih]
theorem fD:jO=bQ:=by
 funext h base log mask rs;induction rs with
 |nil=>rfl
 |cons r rs ih=>simp only[jO,bQ,Fe,ih];first|done|rfl
def Oo(T:Nat->Option an)(F:Fam)(base:Nat)(rnd:Option Nat)(ops:List aZ)(it:Nat)(x:Operand)(keep:List Nat)(out nxt pr:Nat)(ops2:List aZ)(k2:List Nat)(body:aT)(e:Env)(ds:Dfs)(h:Heap):Option (bE×Env×Dfs×Heap):=match F.ops base rnd ops e ds h with
 |some (.normal,e0,ds0,h0)=>match ds0 with
  |_::_=>none
  |[]=>match evQ h0 e0 x with
   |some (.map none)=>some (.normal,lK e0 keep,[],h0)
   |some (.map (some m))=>match nJ h0 m with
    |some (.map es)=>LN out (lK e0 keep) h0 (oR (λe h=>F.ops (h0.next+1) rnd ops2 e [] h) (λe h=>F.exec (h0.next+1) rnd body e [] h) nxt pr k2 (itE it h0 (lK e0 keep)) (lK e0 keep) ((roM h0 m es).push .dead) es)
    |_=>none
   |_=>none
 |r=>r
def E9(T:Nat->Option an)(F:Fam)(base:Nat)(rnd:Option Nat)(f:Operand)(ps:List Nat)(asg body:aT)(e:Env)(ds:Dfs)(h:Heap):Option (bE×Env×Dfs×Heap):=bif rC h rnd then match evQ h e f with
 |some (.func (.func g) first cap)=>bif iD (T g)then none else
  match F.call g (ek first.toList (ek [.func (.yield h.next) #[] #[]] cap.toList)) {h.push (.loop e ps asg body 0 .normal)with log:=[]}with
  |some (.ret _,h2)=>match nJ h2 h.next with
   |some (.loop _ _ _ _ st jh)=>bif Nat.beq st 1 then none else
    some (jh,e,ds,Heap.wr {h2 with log:=aH base h.log h2.log} base h.next .dead)
   |_=>none
  |some (.panic v,h2)=>some (.panic v,e,ds,{h2 with log:=aH base h.log h2.log})
  |none=>none
 |_=>none
 else none
def Fa(F:Fam)(l:Nat)(args:List Value)(h:Heap):Option (Res×Heap):=match nJ h l with
 |some (.loop e ps asg body 0 .normal)=>match jU e ps args with
  |some e1=>match F.exec h.next (some l) asg e1 [] h with
   |some (.normal,e2,ds2,h2)=>bif notReady (nJ h2 l)then none else match F.exec h.next (some l) body e2 ds2 {h2 with cI:=soQ h2.cI l (.loop e ps asg body 1 .normal)}with
    |some (.normal,_,_,h3)=>match nJ h3 l with
     |some (.loop _ _ _ _ 1 _)=>some (.ret (.bool true),gcA h {h3 with cI:=soQ h3.cI l (.loop e ps asg body 0 .normal)} (.bool true))
     |_=>none
    |some (.exit i,_,_,h3)=>match nJ h3 l with
     |some (.loop _ _ _ _ 1 _)=>some (.ret (.bool false),h3.wr h.next l (.loop e ps asg body 2 (.exit i)))
     |_=>none
    |some (.ret,_,_,h3)=>match nJ h3 l with
     |some (.loop _ _ _ _ 1 _)=>some (.ret (.bool false),h3.wr h.next l (.loop e ps asg body 2 .ret))
     |_=>none
    |_=>none
   |_=>none
  |none=>none
 |_=>none
def K0(T:Nat->Option an)(F:Fam):Nat->Option Nat->aT->Env->Dfs->Heap->Option (bE×Env×Dfs×Heap):=λbase rnd c e ds h=>
 match c with
 | .skip=>some (.normal,e,ds,h)
 | .region ops keep=>match F.ops base rnd ops e ds h with
   |some (.normal,e',ds',h')=>some (.normal,lK e' keep,ds',h')
   |r=>r
 | .draw ops order before keep=>match F.draw base ops order before [] e h with
   |some (.normal,e',h')=>some (.normal,lK e' keep,ds,h')
   |some (x,e',h')=>some (x,e',ds,h')
   |none=>none
 | .seq a b=>match F.exec base rnd a e ds h with
   |some (.normal,e',ds',h')=>F.exec base rnd b e' ds' h'
   |r=>r
 | .cond c a b=>match evQ h e c with
   |some (.bool true)=>F.exec base rnd a e ds h
   |some (.bool false)=>F.exec base rnd b e ds h
   |_=>none
 | .block id b=>match F.exec base rnd b e ds h with
   |some (.exit i,e',ds',h')=>bif Nat.beq i id then some (.normal,e',ds',h')else some (.exit i,e',ds',h')
   |r=>r
 | .loop b=>match F.exec base rnd b e ds h with
   |some (.normal,e',ds',h')=>F.exec base rnd (.loop b) e' ds' h'
   |r=>r
 | .scope b=>F.exec base rnd b e ds h
 | .rangeFunc f ps asg body=>E9 T F base rnd f ps asg body e ds h
 | .rangeMap ops it x keep out nxt pr ops2 k2 body=>Oo T F base rnd ops it x keep out nxt pr ops2 k2 body e ds h
 | .exit id=>some (.exit id,e,ds,h)
 | .ret=>some (.ret,e,ds,h)
def Tp(T:Nat->Option an)(F:Fam):Nat->Option Nat->List aZ->Env->Dfs->Heap->Option (bE×Env×Dfs×Heap):=λbase rnd ops e ds h=>
 match ops with
 |[]=>some (.normal,e,ds,h)
 |o::os=>match u0 e o.guard with
  |some false=>F.ops base rnd os (cC e o.dst (.tuple #[])) ds h
  |some true=>match FY h base e o.op with
   |some (.val v h')=>F.ops base rnd os (cC e o.dst v) ds h'
   |some (.call fn args h')=>match F.jZ fn args {h' with log:=[]}with
    |some (.ret v,h2)=>F.ops base rnd os (cC e o.dst v) ds {h2 with log:=aH base h'.log h2.log}
    |some (.panic v,h2)=>some (.panic v,e,ds,{h2 with log:=aH base h'.log h2.log})
    |none=>none
   |some (.kF f args)=>match rnd with|some _=>none|none=>F.ops base rnd os (cC e o.dst (.tuple #[])) ((f,args)::ds) h
   |some (.panic v h')=>some (.panic v,e,ds,h')
   |_=>none
  |none=>none
def KZ(T:Nat->Option an)(F:Fam):Nat->List aZ->List Nat->List Nat->List Rec->Env->Heap->Option (bE×Env×Heap):=λbase ops order before rs e h=>
 match order with
 |[]=>some (.normal,e,h)
 |i::is=>match bN ops i,bN before i with
  |some o,some mask=>
   match u0 (lK e (mu o)) o.guard with
   |some false=>F.draw base ops is before (⟨i,o,lK e (mu o), .tuple #[], .skip⟩::rs) (cC e o.dst (.tuple #[])) h
   |some true=>
    bif BN o.op then
     match FY h base (lK e (mu o)) o.op with
     |some (.val v h')=>
      bif Gc o.op then
       bif CG h' base rs then F.draw base ops is before (⟨i,o,lK e (mu o),v, .made h.next⟩::rs) (cC e o.dst v) h' else none
      else bif Nat.beq h'.next h.next then F.draw base ops is before (⟨i,o,lK e (mu o),v, .quiet⟩::rs) (cC e o.dst v) h
      else bif sH before i is then
       match FY {h with log:=[]} h.next (lK e (mu o)) o.op with
       |some (.val v h2)=>match jO {h2 with log:=aH base h.log h2.log} base h2.log mask rs with
        |some rs'=>F.draw base ops is before rs' (cC e o.dst v) {h2 with log:=aH base h.log h2.log}
        |none=>none
       |_=>none
      else none
     |_=>none
    else
     match FY {h with log:=[]} h.next (lK e (mu o)) o.op with
     |some (.val v h2)=>match jO {h2 with log:=aH base h.log h2.log} base h2.log mask rs with
      |some rs'=>F.draw base ops is before rs' (cC e o.dst v) {h2 with log:=aH base h.log h2.log}
      |none=>none
     |some (.call fn args _)=>match F.jZ fn args {h with log:=[]}with
      |some (.ret v,h2)=>match jO {h2 with log:=aH base h.log h2.log} base h2.log mask rs with
       |some rs'=>F.draw base ops is before rs' (cC e o.dst v) {h2 with log:=aH base h.log h2.log}
       |none=>none
      |some (.panic v,h2)=>some (.panic v,[],{h2 with log:=aH base h.log h2.log})
      |none=>none
     |_=>none
   |none=>none
  |_,_=>none
def HA(T:Nat->Option an)(F:Fam):Fn->List Value->Heap->Option (Res×Heap):=λfn args h=>
 match fn with
 | .func f=>F.call f args h
 | .yield l=>Fa F l args h
 |_=>none
def KY(T:Nat->Option an)(F:Fam):Nat->List Value->Heap->Option (Res×Heap):=λf args h=>
 match T f with
 |none=>none
 |some (.mb p)=>match p args h with
  |some (v,h')=>some (.ret v,h')
  |none=>none
 |some (.code code results)=>match F.exec h.next none code (ej 0 args) [] h with
  |some (.panic v,e,ds,h1)=>F.unw results ds (some v) e h h1
  |some (.exit _,_,_,_)=>none
  |some (_,e,ds,h1)=>F.unw results ds none e h h1
  |none=>none
def Ts(T:Nat->Option an)(F:Fam):List (Nat×Option (Option Nat))->Dfs->Option Value->Env->Heap->Heap->Option (Res×Heap):=λresults ds pan e h h1=>
 match ds with
 |[]=>match pan with
  |some v=>some (.panic v,h1)
  |none=>match OG h1 e results with
   |some vs=>some (.ret (eT vs),gcA h h1 (eT vs))
   |none=>none
 |(.func (.func g) first cap,args)::ds=>match F.defer g (ek first.toList (ek args cap.toList)) pan {h1 with log:=[]}with
  |some (pan',h2)=>F.unw results ds pan' e h {h2 with log:=aH h.next h1.log h2.log}
  |none=>none
 |_=>none
def HB(T:Nat->Option an)(F:Fam):Nat->List Value->Option Value->Heap->Option (Option Value×Heap):=λg args pan h=>
 match T g with
 |some (.code code [])=>match F.iX h.next code (ej 0 args) pan h with
  |some (.normal,_,pan',h')=>some (pan',h')
  |some (.ret,_,pan',h')=>some (pan',h')
  |_=>none
 |_=>none
def HC(T:Nat->Option an)(F:Fam):Nat->aT->Env->Option Value->Heap->Option (bE×Env×Option Value×Heap):=λbase c e pan h=>
 match c with
 | .skip=>some (.normal,e,pan,h)
 | .region ops keep=>match F.nO base ops e pan h with
   |some (.normal,e',pan',h')=>some (.normal,lK e' keep,pan',h')
   |r=>r
 | .seq a b=>match F.iX base a e pan h with
   |some (.normal,e',pan',h')=>F.iX base b e' pan' h'
   |r=>r
 | .cond c a b=>match evQ h e c with
   |some (.bool true)=>F.iX base a e pan h
   |some (.bool false)=>F.iX base b e pan h
   |_=>none
 | .ret=>some (.ret,e,pan,h)
 |_=>none
def K7(T:Nat->Option an)(F:Fam):Nat->List aZ->Env->Option Value->Heap->Option (bE×Env×Option Value×Heap):=λbase ops e pan h=>
 match ops with
 |[]=>some (.normal,e,pan,h)
 |o::os=>match u0 e o.guard with
  |some false=>F.nO base os (cC e o.dst (.tuple #[])) pan h
  |some true=>match FY h base e o.op with
   |some (.val v h')=>F.nO base os (cC e o.dst v) pan h'
   |some .recover=>match pan with
    |some v=>F.nO base os (cC e o.dst v) none h
    |none=>F.nO base os (cC e o.dst .nilIface) none h
   |_=>none
  |none=>none
def Fam.OZ(T:Nat->Option an)(F:Fam):Fam where
 exec:=K0 T F
 ops:=Tp T F
 draw:=KZ T F
 jZ:=HA T F
 call:=KY T F
 unw:=Ts T F
 defer:=HB T F
 iX:=HC T F
 nO:=K7 T F
def qm(T:Nat->Option an)(n:Nat):Fam:=Nat.rec Fam.none (λ_ F=>Fam.OZ T F) n
theorem HT(T:Nat->Option an):∀n,qm T n={exec:=cE T n,ops:=gz T n,draw:=ef T n,jZ:=gU T n,call:=iS T n,unw:=nV T n,defer:=jY T n,iX:=gV T n,nO:=iV T n}
 |0=>by
  show Fam.none=_;unfold Fam.none;simp only[Fam.mk.injEq];refine⟨?_,?_,?_,?_,?_,?_,?_,?_,?_⟩
  ·funext x0 x1 x2 x3 x4 x5;simp only[cE]
  ·funext x0 x1 x2 x3 x4 x5;simp only[gz]
  ·funext x0 x1 x2 x3 x4 x5 x6;simp only[ef]
  ·funext x0 x1 x2;simp only[gU]
  ·funext x0 x1 x2;simp only[iS]
  ·funext x0 x1 x2 x3 x4 x5;simp only[nV]
  ·funext x0 x1 x2 x3;simp only[jY]
  ·funext x0 x1 x2 x3 x4;simp only[gV]
  ·funext x0 x1 x2 x3 x4;simp only[iV]
 |n+1=>by
  show Fam.OZ T (qm T n)=_;rw[HT T n];unfold Fam.OZ;simp only[Fam.mk.injEq];refine⟨?_,?_,?_,?_,?_,?_,?_,?_,?_⟩
  ·funext x0 x1 x2 x3 x4 x5;refine Eq.trans ?_ (cE.eq_def T (n+1) x0 x1 x2 x3 x4 x5).symm;unfold K0 E9 Oo;first|rfl|(simp only[cg,bC,bD,cw,nR,j8,iH,mh,kN,kY,ji,fD,bh,iG,iB,iM];rfl)
  ·funext x0 x1 x2 x3 x4 x5;refine Eq.trans ?_ (gz.eq_def T (n+1) x0 x1 x2 x3 x4 x5).symm;unfold Tp;first|rfl|(simp only[cg,bC,bD,cw,nR,j8,iH,mh,kN,kY,ji,fD,bh,iG,iB,iM];rfl)
  ·funext x0 x1 x2 x3 x4 x5 x6;refine Eq.trans ?_ (ef.eq_def T (n+1) x0 x1 x2 x3 x4 x5 x6).symm;unfold KZ;first|rfl|(simp only[cg,bC,bD,cw,nR,j8,iH,mh,kN,kY,ji,fD,bh,iG,iB,iM];rfl)
  ·funext x0 x1 x2;refine Eq.trans ?_ (gU.eq_def T (n+1) x0 x1 x2).symm;unfold HA Fa;first|rfl|(simp only[cg,bC,bD,cw,nR,j8,iH,mh,kN,kY,ji,fD,bh,iG,iB,iM];rfl)
  ·funext x0 x1 x2;refine Eq.trans ?_ (iS.eq_def T (n+1) x0 x1 x2).symm;unfold KY;first|rfl|(simp only[cg,bC,bD,cw,nR,j8,iH,mh,kN,kY,ji,fD,bh,iG,iB,iM];rfl)
  ·funext x0 x1 x2 x3 x4 x5;refine Eq.trans ?_ (nV.eq_def T (n+1) x0 x1 x2 x3 x4 x5).symm;unfold Ts;first|rfl|(simp only[cg,bC,bD,cw,nR,j8,iH,mh,kN,kY,ji,fD,bh,iG,iB,iM];rfl)
  ·funext x0 x1 x2 x3;refine Eq.trans ?_ (jY.eq_def T (n+1) x0 x1 x2 x3).symm;unfold HB;first|rfl|(simp only[cg,bC,bD,cw,nR,j8,iH,mh,kN,kY,ji,fD,bh,iG,iB,iM];rfl)
  ·funext x0 x1 x2 x3 x4;refine Eq.trans ?_ (gV.eq_def T (n+1) x0 x1 x2 x3 x4).symm;unfold HC;first|rfl|(simp only[cg,bC,bD,cw,nR,j8,iH,mh,kN,kY,ji,fD,bh,iG,iB,iM];rfl)
  ·funext x0 x1 x2 x3 x4;refine Eq.trans ?_ (iV.eq_def T (n+1) x0 x1 x2 x3 x4).symm;unfold K7;first|rfl|(simp only[cg,bC,bD,cw,nR,j8,iH,mh,kN,kY,ji,fD,bh,iG,iB,iM];rfl)
end Go.A
