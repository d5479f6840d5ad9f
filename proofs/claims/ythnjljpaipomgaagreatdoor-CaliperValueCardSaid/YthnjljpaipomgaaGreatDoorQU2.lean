/- Walks of functions, plain laws, the table. -/
import Derived.Test.YthnjljpaipomgaaGreatDoorQU1
import Derived.Test.YthnjljpaipomgaaGreatDoorQU0
import Derived.Test.YthnjljpaipomgaaGreatDoorQF
import Derived.Test.YthnjljpaipomgaaGreatDoorQD
import Derived.Sort.Row
import Derived.Sort.Grow
import Derived.Test.YthnjljpaipomgaaGreatDoorQV
set_option linter.all false
set_option maxHeartbeats 16000000
set_option maxRecDepth 100000
section
namespace Go.A.Pk
variable{a b:List Nat}
theorem Aa(f:IsS a)(hb:IsS b)(c:Ce):kA (xY a b) c=(kA a c&&kA b c):=by
 by_cases hc:inG c=true
 ·obtain⟨z,i,d,e,rfl⟩:=pL hc;rw[kL d e,kL d e,kL d e];unfold xY xX;rw[CK f hb d];exact Nat.testBit_and ..
 ·rw[mH hc,mH hc,mH hc];rfl
theorem Oz(d:IsS a)(hb:IsS b)(h:∀z i,z<8->i<64->kA a (jG z i)=kA b (jG z i)):a=b:=by
 apply u3;intro z;rcases xG z 8 with hz|hz
 ·rw[lQ (by rw[d.len];exact hz),lQ (by rw[hb.len];exact hz)];congr 1;apply Nat.eq_of_testBit_eq;intro i;rcases xG i 64 with hi|hi
  ·have:=h z i hz hi
   rwa [kL hz hi,kL hz hi]at this
  ·have c:∀x:Nat,x<U64->x.testBit i=false:=λx e=>Nat.testBit_lt_two_pow (hK e (show 2 ^ 64<=2 ^ i from rh (by omega) hi));rw[c _ (d.mO z),c _ (hb.mO z)]
 ·rw[re (by rw[d.len];exact hz),re (by rw[hb.len];exact hz)]
def Sub(a b:List Nat):Prop:=∀c,kA a c=true->kA b c=true
theorem mV(d:IsS a)(hb:IsS b):sIn a b=true↔Sub a b:=by
 unfold sIn;rw[decide_eq_true_eq];constructor
 ·intro h c f;have e:kA (xY a b) c=kA a c:=by rw[h]
  rw[Aa d hb,f,rn]at e;exact e
 ·intro h;refine Oz (d.meet hb) d λz i j g=> ?_;rw[Aa d hb];cases f:kA a (jG z i)with
  |false=>rfl
  |true=>rw[h _ f];rfl
variable{T:Nat->Option aq}
variable{h:Heap}{s:List Nat}
theorem Of(F:Jc T)(g:T 12=some f84)(hr:Rdy h)(d:IsS s):Pu T 12 [sv s] h (.int .i64 ((j6 s:Nat):Int)):=by
 refine .of F.hr.p g hr rfl ?_;have o:=bR d.len;have r:=cS d.len;have e:Ext h (h.push (.cells (cellsOf (sv s)) true 1)):=(Ext.refl h).push _;have l:(h.push (.cells (cellsOf (sv s)) true 1)).get h.next=some (.cells (us s) true 1):=z3 h _
 refine Y4 ?_;generalize(h.push (.cells (cellsOf (sv s)) true 1))=H at*;have W:=e.wf hr.wf;have f:=e.log.trans hr.log;have i:=mj s 512;have C:=JO F (h:={H with log:=[]}) (.of W) d;unfold j6;refine Y3 ?_;refine FW.al C (λv n m q=>q.log m) ?_;rintro v k j q;clear C;have b:=j.log.trans f;obtain⟨a,c,rfl⟩:=(q.slice (by omega)).form;refine Y4 ?_;exact au b rfl rfl
theorem fU{α:Type}{l:List α}{j:Nat}{x:α}(h:l[j]? =some x):l.take (j+1)=l.take j++[x]:=by
 rw[BT,h];rfl
def shC(x y z:Int)(c:Ce):Ce:=⟨c.x+x,c.y+y,c.z+z⟩
structure Rng (b:Bx) (x y z:Int):Prop where
 x:0<=b.lo.x+x/\b.hi.x+x<=7
 y:0<=b.lo.y+y/\b.hi.y+y<=7
 z:0<=b.lo.z+z/\b.hi.z+z<=7
def ssL(l:List (List Nat)):List Value:=l.flatMap us
structure SsQ (h:Heap) (v:Value) (l:List (List Nat)):Prop where
 sl:aJ h 8 v l.length (ssL l)
 ok:∀s∈l,IsS s
theorem SsQ.ext{h h':Heap}{v:Value}{l:List (List Nat)}(s:SsQ h v l)(x:Ext h h'):SsQ h' v l:=⟨s.sl.ext x,s.ok⟩
theorem SsQ.log{h:Heap}{v:Value}{l:List (List Nat)}(s:SsQ h v l)(m:List Nat):SsQ {h with log:=m} v l:=⟨s.sl.log m,s.ok⟩
theorem GF:∀{l:List (List Nat)} {i:Nat} {x:List Nat},(∀s∈l,IsS s)->l[i]? =some x->((ssL l).drop (i*8)).take 8=us x
 |[],i,x,_,h=>by simp at h
 |c::l,0,x,hl,h=>by
  simp at h;subst h;have e:ssL (c::l)=us c++ssL l:=rfl;have a:(us c).length=8:=by rw[aK,(hl c b6).len]
  rw[e,vx,py,j3 (by omega),gk (by omega)]
 |c::l,i+1,x,hl,h=>by
  have e:ssL (c::l)=us c++ssL l:=rfl;have a:(us c).length=8:=by rw[aK,(hl c b6).len]
  have b:(us c++ssL l).drop 8=ssL l:=by rw[←a];exact Ej
  rw[e,show(i+1)*8=8+i*8 by omega,←List.drop_drop,b];exact GF (λs d=>hl s (bz _ d)) (by simpa using h)
theorem SsQ.elem{v:Value}{l:List (List Nat)}(s:SsQ h v l){i:Nat}{x:List Nat}(hi:l[i]? =some x):
 ∃b o c d a t,v= .slice (some ⟨b,o,none⟩) l.length c/\h.get b=some (.cells d a t)/\b<h.next/\cG 8 (cw (o+i*8) d)=us x:=by
 have g:=(List.getElem?_eq_some_iff.1 hi).1;rcases aJ.inv s.sl with⟨_,_,h0,_⟩|⟨b,o,cap,hv,s1,hc⟩
 ·omega
 ·obtain⟨d,a,t,e,f⟩:=s1.obj;refine⟨b,o,cap,d,a,t,hv,e,s1.lt,?_⟩;rw[←GF s.ok hi,←f];simp only[bQ,aW,EQ,Fd,sf];congr 1;omega
theorem On{e:Env}{x:Operand}(a:IsS s)(g:ev h e x=some (sv s)):je h e (eW 1 (aR 8 (.int .u64 0))) [(0,8,x)]=some (us s):=by
 have b:cellsOf (sv s)=us s:=by show(us s).toArray.toList=_;simp
 have f:eW 1 (aR 8 (.int .u64 0))=us s0:=rfl;have c:cW (us s0) 0 (us s)=us s:=by
  rw[eY (by rw[aK,aK,a.len];decide),aK,a.len,xp];simp[us,s0]
 have d:cF (us s)=8:=by rw[bX,aK,a.len]
 rw[f];simp only[je,g,b,c,d];rfl
end Go.A.Pk
end
section
namespace Go.A
open Go.Sort
variable {P:Program}
theorem Rg{μ:Mu}{h:Heap}:∀(l:List Obj) {w:World},R P μ h w->R P μ h (Sort.grow w l.toArray)/\St μ h w μ h (Sort.grow w l.toArray)
 |[],w,hR=>by
  have e:Sort.grow w #[]=w:=grow_empty w;rw[e];exact⟨hR, .refl _ _ _⟩
 |o::l,w,hR=>by
  have e:Sort.grow w (o::l).toArray=Sort.grow (w.alloc o) l.toArray:=by
   rw[alloc_eq_grow,grow_grow];congr 1;apply Array.toList_inj.1;simp
  rw[e];obtain⟨a,c⟩:=hR.AO (w':=w.alloc o) rfl;obtain⟨b,d⟩:=Rg l a;exact⟨b,c.trans d (bl _)⟩
end Go.A
end
section
namespace Go.A.Pk
open Go.Sort
variable {P:Program}
def leS(x y:List Nat):Bool:= !decide (cmpL y x<0)
def eV(l:List (List Nat)):List (List Nat):=l.mergeSort leS
theorem kE(l:List (List Nat)):(eV l).length=l.length:=List.length_mergeSort l
variable{l:List (List Nat)}
theorem nV{x:List Nat}:x∈eV l↔x∈l:=List.mem_mergeSort
theorem fQ:∀{l:List (List Nat)},(∀s∈l,IsS s)->(ssL l).length=l.length*8
 |[],_=>rfl
 |s::l,h=>by
  have e:ssL (s::l)=us s++ssL l:=rfl;rw[e,ec,aK,(h s b6).len,fQ (λx a=>h x (bz _ a)),pm];omega
variable{v:Value}
theorem GD(h:v∈ssL l):∃m:Nat,v= .int .u64 (m:Nat):=by
 obtain⟨s,_,h⟩:=List.mem_flatMap.1 h;obtain⟨m,_,rfl⟩:=List.mem_map.1 h;exact⟨m,rfl⟩
def Ht(k1 k2:Nat):Value->Bool
 | .func (.func k) a b=>(Nat.beq k k1||Nat.beq k k2)&&(Nat.beq (cF a.toList) 0&&Nat.beq (cF b.toList) 0)
 |_=>false
theorem F6{c d:Nat}(h:Ht c d v=true):∃k,(k=c∨k=d)/\v= .func (.func k) #[] #[]:=by
 unfold Ht at h;split at h
 ·rename_i k a b;rw[ed,ed,oB,beq_eq,beq_eq,beq_eq,beq_eq,decide_eq_true_eq,decide_eq_true_eq,decide_eq_true_eq,decide_eq_true_eq,bX,bX]at h;obtain⟨g,i,j⟩:=h;have e:a= #[]:=by cases a;simpa using i
  have f:b= #[]:=by cases b;simpa using j
  subst e;subst f;exact⟨k,g,rfl⟩
 ·cases h
def Ae:Nat->List Value->Option (List (List Nat))
 |0,_=>some []
 |n+1,vs=>match oI (cG 8 vs)with
  |some p=>bif Nat.beq (cF p) 8 then(match Ae n (cw 8 vs)with
   |some r=>some (p::r)
   |none=>none)else none
  |none=>none
theorem DT:∀{n:Nat} {vs:List Value} {l:List (List Nat)},Ae n vs=some l->l.length=n/\(∀s∈l,IsS s)/\vs=ssL l++cw (n*8) vs
 |0,vs,l,h=>by
  cases h;refine⟨rfl,(λs a=>by cases a),?_⟩;rw[aW,vx,py];rfl
 |n+1,vs,l,h=>by
  unfold Ae at h;split at h
  ·rename_i p hp;rw[cond_eq_ite,beq_eq,bX,dk,decide_eq_true_eq]at h;obtain⟨hl,h⟩:=h;split at h
   ·rename_i r hr;cases h;obtain⟨d,f,b⟩:=DT hr;obtain⟨c,i⟩:=sd hp;refine⟨by rw[pm,d],λs a=> ?_,?_⟩
    ·rcases List.mem_cons.1 a with rfl|a
     ·exact⟨hl,i⟩
     ·exact f s a
    ·have e:ssL (p::r)=us p++ssL r:=rfl;rw[bQ]at c;rw[aW,aW]at b;rw[aW,e,←c,rr];have g:vs.drop ((n+1)*8)=(vs.drop 8).drop (n*8):=by rw[sf];congr 1;omega
     rw[g,←b,rv]
   ·cases h
  ·cases h
theorem DS:∀{l:List (List Nat)} {t:List Value},(∀s∈l,IsS s)->Ae l.length (ssL l++t)=some l
 |[],t,_=>rfl
 |s::l,t,h=>by
  have hs:=h s b6;have e:ssL (s::l)++t=us s++(ssL l++t):=by show us s++ssL l++t=_;rw[rr]
  have a:(us s).length=8:=by rw[aK,hs.len]
  have b:cG 8 (us s++(ssL l++t))=us s:=by rw[bQ,←a,List.take_left]
  have c:cw 8 (us s++(ssL l++t))=ssL l++t:=by rw[aW,←a,Ej]
  have d:Nat.beq (cF s) 8=true:=by rw[bX,hs.len];rfl
  rw[e,pm,Ae,b,xy hs.lt];dsimp only;rw[d,cond_true,c,DS λy f=>h y (bz _ f)]
def pX(k1 k2:Nat):List Value->Heap->Option (Value×Heap)
 |[.slice none 0 _,f],h=>bif Ht k1 k2 f then some (.tuple #[],h)else none
 |[.slice (some ⟨b,o,none⟩) n _,f],h=>bif Ht k1 k2 f&&(Nat.beq o 0&&Nat.blt n 1000000)then(match h.get b with
  |some (.cells vs true sz)=>match Ae n vs with
   |some l=>some (.tuple #[],h.wr h.next b (.cells (ssL (eV l)++cw (n*8) vs) true sz))
   |none=>none
  |_=>none)else none
 |_,_=>none
theorem Vg{μ:Mu}{k:Nat}(h:VR μ (.func (.func k) #[] #[]) v):v= .func (.func k) #[] #[]:=by
 cases h with
 |func hf h1 h2 h3 h4=>
  rename_i f' a' c';cases hf;have a:a'= #[]:=by cases a';simpa using h1.symm
  have b:c'= #[]:=by cases c';simpa using h3.symm
  rw[a,b]
theorem Il{f k1 k2:Nat}{fn:Func}(hf:P.funcs[f]? =some fn)(hn:fn.name≠ "runtime.NumGoroutine")(hb:fn.body.isSome=true)
 (h0:∀(k:Nat) (p:Option Addr) (cap:Nat) (w:World),Calls P f #[.slice p 0 cap, .func (.func k) #[] #[]] w λe F=>e= .returned (.tuple #[])/\F=w)
 (h1:∀(k:Nat),k=k1∨k=k2→∀(x off cap:Nat) (l:List (List Nat)) (w:World),(∀s∈l,IsS s)→Holds id w x off (ssL l).toArray→x<w.heap.size→l.length<4611686018427387904→
   Calls P f #[.slice (some ⟨x,off,none⟩) l.length cap, .func (.func k) #[] #[]] w λe F=>e= .returned (.tuple #[])/\∃n O,F=Sort.grow (putRow id (Sort.ahead w n) x off (ssL (eV l)).toArray) O):Aq P f (pX k1 k2):=by
 intro bi h v h' a _;unfold pX at a;split at a
 ·rename_i c g;rw[cond_eq_ite,dk]at a;obtain⟨C,a⟩:=a;cases a;obtain⟨k,y,rfl⟩:=F6 C;refine⟨.refl _ _,λμ w A I Z=> ?_⟩;obtain⟨x',y',rfl,hx,hy⟩:=Z.two;obtain rfl:=Vg hy;cases hx;exact kJ hf hn hb (h0 _ _ _ w) λe F ⟨S,T⟩=>by subst S;subst T;exact⟨μ, .tuple rfl (λi G=>absurd G (by simp)),I, .refl _ _ _⟩
 ·rename_i b o n c g;rw[cond_eq_ite,dk,ed,ed,beq_eq,blt_eq,decide_eq_true_eq,decide_eq_true_eq]at a;obtain⟨⟨C,rfl,bj⟩,a⟩:=a;obtain⟨kf,aE,rfl⟩:=F6 C;split at a
  ·rename_i vs sz hbo;split at a
   ·rename_i l hxs;cases a;obtain⟨D,E,M⟩:=DT hxs;have ba:(ssL l).length=n*8:=by rw[fQ E,D]
    have L:∀s∈eV l,IsS s:=λs hs=>E s (nV.1 hs);have z:(ssL (eV l)).length=n*8:=by rw[fQ L,kE,D]
    have ar:(cw (n*8) vs).length=vs.length-n*8:=by rw[aW,List.length_drop]
    have cf:n*8<=vs.length:=by
     have:=congrArg List.length M;rw[ec,ba]at this;omega
    have bo:(ssL (eV l)++cw (n*8) vs).length=vs.length:=by rw[ec,z,ar];omega
    refine⟨AS.wr _ _ _ _,λμ w A I Z=> ?_⟩;obtain⟨x',y',rfl,hx,hy⟩:=Z.two;obtain rfl:=Vg hy;have N:∀k Y,μ b=some k->oQ P (gU P μ h w (.ret (.tuple #[])) (h.wr h.next b (.cells (ssL (eV l)++cw (n*8) vs) true sz))) ((callFunc f #[.slice (some ⟨k.r,k.d+0,none⟩) n Y, .func (.func kf) #[] #[]]).run P w):=λk Y y=>by
     obtain⟨be,U,el,fz,V,g2,g3,g4,g5⟩:=I.obj b _ hbo k y;obtain⟨hd,he,J⟩:=g5 rfl;have B:∀(W:List Value) j,(t:j<W.length)->gv W j=W[j]:=λW j t=>by simp[gv,cH,t]
     have ae:∀j,(t:j<(ssL l).length)->U[k.d+j]? =some (ssL l)[j]:=λj t=>by
      obtain⟨v',X,Q⟩:=g4 j (by omega);have e:gv vs j=(ssL l)[j]:=by
       rw[B vs j (by omega)];have:vs[j]? =(ssL l)[j]? :=by
        conv=>lhs;rw[M]
        rw[hG t]
       rw[bx (by omega),bx t,Option.some.injEq]at this;exact this
      rw[e]at Q;obtain⟨m,hm⟩:=GD (sm t);rw[hm]at Q⊢;cases Q;exact X
     have hH:Holds id w k.r (k.d+0) (ssL l).toArray:=λj t=>by
      have t:j<(ssL l).length:=by simpa using t
      refine⟨?_,?_⟩
      ·rw[cell_of V,ww,ae j t];simp[t]
      ·have:=J (k.d+0+j) (by omega);simp only[World.frozen?,V];simpa using this
     have u:=h1 kf aE k.r (k.d+0) Y l w E hH (I.dom _ _ y).2 (by omega);rw[D]at u;refine kJ hf hn hb u λe F ⟨S,m,O,T⟩=> ?_;subst S;subst T;obtain⟨r1,s1⟩:=I.world (w':=Sort.ahead w m) rfl;have C:(putRow id (Sort.ahead w m) k.r (k.d+0) (ssL (eV l)).toArray).heap=w.heap.modify k.r (onCells (putCells id (k.d+0) (ssL (eV l)).toArray)):=rfl;have H:(putRow id (Sort.ahead w m) k.r (k.d+0) (ssL (eV l)).toArray).heap[k.r]? =some (.cells (putCells id (k.d+0) (ssL (eV l)).toArray U) el fz):=by
      rw[C,yi,if_pos rfl,V];rfl
     have cd:(putCells id (k.d+0) (ssL (eV l)).toArray U).size=U.size:=by simp[putCells]
     obtain⟨r2,s2⟩:=r1.write (base:=h.next) (b:=b) (o:= .cells vs true sz) (o':= .cells (ssL (eV l)++cw (n*8) vs) true sz) (k:=k) (w':=putRow id (Sort.ahead w m) k.r (k.d+0) (ssL (eV l)).toArray) hbo rfl rfl y
      (by rw[C];simp[Sort.ahead]) (fun r hr=>by rw[C,yi,if_neg (Ne.symm hr)];rfl) (.xe V H (by omega)) (by
        intro k' K;rw[y]at K;cases K;refine⟨be,_,el,fz,H,by omega,by omega,λi G=> ?_,λ_=>⟨hd,by omega,λj t=>J j (by omega)⟩⟩;obtain⟨v',X,Q⟩:=g4 i (by omega);have aw:gv (ssL (eV l)++cw (n*8) vs) i=(ssL (eV l)++cw (n*8) vs)[i]:=B _ i G;rw[aw];by_cases hi8:i<n*8
        ·rw[List.getElem_append_left (by omega)];obtain⟨q,hq⟩:=GD (sm (show i<(ssL (eV l)).length by omega));refine⟨(ssL (eV l))[i],?_,by rw[hq];exact .int _ _⟩;simp only[putCells,Array.getElem?_mapIdx,X,z7];rw[if_pos ⟨by omega,by simp;omega⟩];have:i<(ssL (eV l)).length:=by omega
         simp[this]
        ·refine⟨v',?_,?_⟩
         ·simp only[putCells,Array.getElem?_mapIdx,X,z7];rw[if_neg (λq=>by simp at q;omega)]
         ·have e:(ssL (eV l)++cw (n*8) vs)[i]? =vs[i]? :=by
           rw[gK (by omega),z,aW,me];congr 1;omega
          rw[bx G,bx (by omega),Option.some.injEq]at e;rw[e,←B vs i (by omega)];exact Q)
     obtain⟨r3,s3⟩:=Rg O.toList r2;have e3:Sort.grow (putRow id (Sort.ahead w m) k.r (k.d+0) (ssL (eV l)).toArray) O.toList.toArray=Sort.grow (putRow id (Sort.ahead w m) k.r (k.d+0) (ssL (eV l)).toArray) O:=rfl;rw[e3]at r3 s3;exact⟨μ, .tuple rfl (λi G=>absurd G (by simp)),r3,(s1.trans s2 (bl _)).trans s3 (bl _)⟩
    cases hx with
    |slice y S T=>exact N _ _ y
    |eT y S T q3=>exact N _ _ y
   ·cases a
  ·cases a
 ·cases a
end Go.A.Pk
end
section
namespace Go.A.Pk
variable {T:Nat->Option aq}
variable{h:Heap}{a:Option Addr}{c n:Nat}{l:List (List Nat)}
theorem SsQ.len(s:SsQ h (.slice a n c) l):n=l.length:=by
 rcases aJ.inv s.sl with⟨_,hv,h0,_⟩|⟨b,o,cap,hv,s1,hc⟩
 ·cases hv;exact h0.symm
 ·cases hv;rfl
def jC(P:List Nat->Bool):List (List Nat)->Nat->Int
 |[],_=> -1
 |r::l,i=>if P r then(i:Int)else jC P l (i+1)
variable{i:Nat}{r:List Nat}
theorem Hz(P:List Nat->Bool)(hi:l[i]? =some r):jC P (l.drop i) i=if P r then(i:Int)else jC P (l.drop (i+1)) (i+1):=by
 obtain⟨a,rfl⟩:=List.getElem?_eq_some_iff.1 hi;rw[pB a,jC]
theorem Kt(P:List Nat->Bool)(l:List (List Nat)):jC P (l.drop l.length) l.length= -1:=by rw[zp];rfl
theorem CP(P:List Nat->Bool):∀(l:List (List Nat)) (i:Nat),decide (0<=jC P l i)=l.any P
 |[],i=>rfl
 |r::l,i=>by
  rw[jC,List.any_cons];by_cases h:P r=true
  ·rw[if_pos h,h,decide_eq_true (by omega)];rfl
  ·rw[if_neg h,CP P l (i+1)];rw[Bool.not_eq_true]at h;rw[h,xc]
theorem CR(P:List Nat->Bool):∀(l:List (List Nat)) (i:Nat),0<=jC P l i->∃k r,l[k]? =some r/\P r=true/\jC P l i=((i+k:Nat):Int)/\∀x∈l.take k,P x=false
 |[],i,h=>by simp[jC]at h
 |r::l,i,h=>by
  rw[jC]at h⊢;by_cases hp:P r=true
  ·exact⟨0,r,rfl,hp,by rw[if_pos hp];rfl,λx a=>by simp at a⟩
  ·rw[if_neg hp]at h⊢;obtain⟨k,q,h1,h2,h3,h4⟩:=CR P l (i+1) h;refine⟨k+1,q,by simpa using h1,h2,by rw[h3];congr 1;omega,λx a=> ?_⟩;rw[xl]at a;rcases List.mem_cons.1 a with rfl|a
   ·simpa using hp
   ·exact h4 x a
theorem CQ(P:List Nat->Bool):∀(l:List (List Nat)) (i:Nat),¬0<=jC P l i->jC P l i= -1/\∀x∈l,P x=false
 |[],i,h=>⟨rfl,λx a=>by simp at a⟩
 |r::l,i,h=>by
  rw[jC]at h⊢;by_cases hp:P r=true
  ·rw[if_pos hp]at h;omega
  ·rw[if_neg hp]at h⊢;obtain⟨h1,h2⟩:=CQ P l (i+1) h;refine⟨h1,λx a=> ?_⟩;rcases List.mem_cons.1 a with rfl|a
   ·simpa using hp
   ·exact h2 x a
variable{cap:List Value}
theorem CU(v:aF T)(q:T 115=some f257)(hr:Rdy h)(s:SsQ h (.slice a n c) l)(B:n<1000000){g:Nat}(P:List Nat->Bool)
 (j:∀r∈l,Pu T g (sv r::cap) h (.bool (P r))):Pu T 115 [.slice a n c, .func (.func g) #[] cap.toArray] h (.int .i64 (jC P l 0)):=by
 refine .of v q hr rfl ?_;obtain rfl:=s.len;refine Y10 ?_
 refine cT (λm e k p=>∃i:Nat,i<=l.length/\m=l.length-i/\e=[(0, .slice a l.length c),(1, .func (.func g) #[] cap.toArray),(7, .int .i64 (l.length:Nat)),(8, .int .i64 (i:Nat))]/\k=[]/\h=p∧jC P l 0=jC P (l.drop i) i)
  ⟨0,md _,rfl,rfl,rfl,rfl,rfl⟩ ?_
 rintro m e k _ ⟨i,u,rfl,rfl,rfl,rfl,f⟩;by_cases hlt:i<l.length
 ·obtain⟨r,d⟩:∃r,l[i]? =some r:=⟨l[i],bx hlt⟩;obtain⟨b,o,y,E,x,t,w,z,A,C⟩:=s.elem d;cases w;have D:=bR (s.ok r (eA d)).len;have H:=j r (eA d);rw[Hz P d]at f;refine Y19 ?_;refine mX (rB (all:=sv r::cap) (by exact rfl) (by exact rfl) (by exact rfl) (by rw[dI,dI];simp[sv])) ?_;refine FW.pu (by rw[hr.self];exact H) ?_;clear H j;cases hpr:P r with
  |true=>
   rw[hpr,if_pos rfl]at f;rw[f];refine Y12 ?_;exact au hr.log rfl rfl
  |false=>
   rw[hpr,if_neg (by simp)]at f;refine Y9 ?_;exact⟨l.length-(i+1),by omega,i+1,by omega,rfl,rfl,rfl,rfl,f⟩
 ·obtain rfl:i=l.length:=by omega
  rw[Kt]at f;rw[f];refine Y14 ?_;exact au hr.log rfl rfl
theorem uJ(d:aF T)(f:T 91=some f196)(b:T 115=some f257)(hr:Rdy h)(s:SsQ h (.slice a n c) l)(i:n<1000000){g:Nat}(P:List Nat->Bool)
 (e:∀r∈l,Pu T g (sv r::cap) h (.bool (P r))):Pu T 91 [.slice a n c, .func (.func g) #[] cap.toArray] h (.bool (l.any P)):=by
 refine .of d f hr rfl ?_;have C:=CU d b hr s i P e;rw[←CP P l 0];generalize jC P l 0=z at C⊢;refine Y7 ?_;refine FW.pu (by rw[hr.self];exact C) ?_;clear C;have j:an .geq (.int .i64 z) (.int .i64 0)=some (.bool (decide (0<=z))):=tg;refine Y4 ?_;exact au hr.log rfl rfl
def OwS(lo:Nat)(h:Heap)(v:Value)(l:List (List Nat)):Prop:=
 (v= .slice none 0 0/\l=[])∨∃b c t,lo<=b/\b<h.next/\h.get b=some (.cells (ssL l++t) true 8)/\v= .slice (some ⟨b,0,none⟩) l.length c/\l.length<=c/\(l≠[]->c=UNK)
def vB(v:Value)(z:Nat):Prop:=∃m c,v= .slice (some ⟨z,0,none⟩) m c
variable{lo:Nat}{v:Value}
theorem OwS.vb(q:OwS lo h v l){z:Nat}(a:vB v z):lo<=z/\z<h.next:=by
 obtain⟨m,c,a⟩:=a;rcases q with⟨rfl,_⟩|⟨b,c,t,h1,h2,h3,rfl,_⟩
 ·cases a
 ·cases a;exact⟨h1,h2⟩
theorem OwS.ss(q:OwS lo h v l)(a:∀s∈l,IsS s):SsQ h v l:=by
 refine⟨?_,a⟩;rcases q with⟨rfl,rfl⟩|⟨b,c,t,h1,h2,h3,rfl,h4,h5⟩
 ·exact .nil
 ·refine .mem ⟨h2,⟨_,_,_,h3,?_⟩,fQ a⟩ h4;rw[bQ,aW,py,j3 (by rw[fQ a];omega),gk (by rw[fQ a];omega)]
variable{h':Heap}
theorem OwS.keep(q:OwS lo h v l)(d:h.next<=h'.next)(a:∀z,lo<=z->z<h.next->h'.get z=h.get z):OwS lo h' v l:=by
 rcases q with q|⟨b,c,t,h1,h2,h3,rfl,h4,h5⟩
 ·exact .inl q
 ·exact .inr ⟨b,c,t,h1,by omega,(a b h1 h2).trans h3,rfl,h4,h5⟩
theorem OwS.ext(q:OwS lo h v l)(x:Ext h h'):OwS lo h' v l:=q.keep x.next λz _ a=>x.old z a
theorem OwS.log(q:OwS lo h v l)(m:List Nat):OwS lo {h with log:=m} v l:=q
theorem OwS.low{a:Nat}(q:OwS lo h v l)(d:a≤lo):OwS a h v l:=by
 rcases q with q|⟨b,c,t,h1,h2⟩
 ·exact .inl q
 ·exact .inr ⟨b,c,t,by omega,h2⟩
theorem OwS.flat{a:Nat}(d:cE v=true)(q:OwS lo h v l):OwS a h' v l:=by
 rcases q with q|⟨b,c,t,h1,h2,h3,rfl,_⟩
 ·exact .inl q
 ·cases d
theorem OwS.form(q:OwS lo h v l):∃a c,v= .slice a l.length c:=by
 rcases q with⟨rfl,rfl⟩|⟨b,c,t,h1,h2,h3,rfl,_⟩
 ·exact⟨none,0,rfl⟩
 ·exact⟨_,c,rfl⟩
theorem Own.owS(q:Own lo h 8 v l.length (ssL l))(a:l.length<4000000):OwS lo h v l:=by
 generalize hm:l.length=n at q;generalize hc:ssL l=cs at q;cases q with
 |nil=>exact .inl ⟨rfl,List.length_eq_zero_iff.1 hm⟩
 |full h1 h2 h3 h4 h5=>
  subst hm;subst hc;exact .inr ⟨_,UNK,[],h1,h2,by rw[oC];exact h3,rfl,by unfold UNK;omega,λ_=>rfl⟩
theorem vF(a b:List (List Nat)):ssL (a++b)=ssL a++ssL b:=by simp[ssL]
theorem MT(a:List Nat)(b:List (List Nat)):ssL (a::b)=us a++ssL b:=rfl
theorem DU(h:∀r∈l,IsS r):(ssL l).take (i*8)=ssL (l.take i):=by
 by_cases hi:i<=l.length
 ·have e:l=l.take i++l.drop i:=(rv i l).symm;have a:(ssL (l.take i)).length=i*8:=by rw[fQ λr b=>h r (wt b),m6,tp hi]
  conv=>lhs;rw[e,vF]
  rw[←a,List.take_left]
 ·rw[gk (by rw[fQ h];omega),gk (by omega)]
theorem MU(h:∀r∈l,IsS r):(ssL l).drop (i*8)=ssL (l.drop i):=by
 by_cases hi:i<=l.length
 ·have e:l=l.take i++l.drop i:=(rv i l).symm;have a:(ssL (l.take i)).length=i*8:=by rw[fQ λr b=>h r (wt b),m6,tp hi]
  conv=>lhs;rw[e,vF]
  rw[←a,Ej]
 ·rw[pA (by rw[fQ h];omega),pA (by omega)];rfl
theorem BJ{t:List Value}(h:∀r∈l,IsS r)(hr:IsS r)(hi:i<l.length):cW (ssL l++t) (0+i*8) (us r)=ssL (l.set i r)++t:=by
 have b:=fQ h;have a:(us r).length=8:=by rw[aK,hr.len]
 rw[hX,eY (by rw[a,ec,b];omega),a,j3 (by omega),sy (by omega),DU h,show i*8+8=(i+1)*8 by omega,MU h,List.set_eq_take_append_cons_drop,if_pos hi,vF,MT];simp
variable{x:List Nat}
theorem qS{t:List Value}(h:∀r∈l,IsS r)(hi:l[i]? =some x):cG 8 (cw (0+i*8) (ssL l++t))=us x:=by
 have a:=(List.getElem?_eq_some_iff.1 hi).1;have b:=fQ h;rw[bQ,aW,hX,sy (by omega),j3 (by rw[List.length_drop];omega),GF h hi]
theorem BK{t:List Value}(h:∀r∈l,IsS r)(hr:IsS r)(hi:i<l.length):(Nat.beq (cF (cellsOf (sv r))) 8&&Nat.ble (0+i*8+8) (cF (ssL l++t))&&eC (cellsOf (sv r)))=true:=by
 have e:cellsOf (sv r)=us r:=by show(us r).toArray.toList=_;simp
 rw[e,bX,bX,aK,hr.len,dQ,ec,fQ h,gL (by omega)];rfl
theorem JS(f:aF T)(e:T 89=some f194)(hr:Rdy h)(s:SsQ h v l)(j:l.length<1000000):Al T 89 [v] h λv h'=>OwS h.next h' v l:=by
 refine .of f e hr (λv i g q=>OwS.flat g q) ?_;rcases aJ.inv s.sl with⟨c',rfl,h0,_⟩|⟨b,o,cap,rfl,s1,hc⟩
 ·have a:l=[]:=List.length_eq_zero_iff.1 h0;subst a;refine Y6 ?_;refine aG (BZ (by exact rfl) (by exact rfl) (by exact rfl)) ?_;refine Y7 ?_;exact dG hr.log rfl (.inl ⟨rfl,rfl⟩)
 ·have d:=BI (s.sl.ext ((Ext.refl h).push (.cells [] true 8)));by_cases h0:l.length=0
  ·have a:l=[]:=List.length_eq_zero_iff.1 h0;subst a;refine Y6 ?_;refine aG (BZ (by exact rfl) (by exact rfl) (by exact rfl)) ?_;refine Y5 ?_;refine aG (iu (by exact rfl) (by exact rfl)) ?_;refine yM ?_;refine aG (vN (by exact rfl) (by exact rfl) d (bl _)) ?_;refine Y3 ?_;refine dG hr.log rfl (.inr ⟨h.next,_,[],bl _,go _,?_,rfl,bl _,λq=>absurd rfl q⟩)
   (simp(disch:=first|omega|(simp only[z1,z2];omega))only[z3,z4,z5,z6,z7,z1,z2];exact rfl)
  ·refine Y6 ?_;refine aG (BZ (by exact rfl) (by exact rfl) (by exact rfl)) ?_;refine Y5 ?_;refine aG (iu (by exact rfl) (by exact rfl)) ?_;refine yM ?_;refine aG (vM (c:=0) (len:=0) (by exact rfl) (by exact rfl) d h0 (by omega) (by decide) (z3 h _) (by exact bl _) (by omega) (by exact rfl)) ?_;refine Y3 ?_;refine dG hr.log rfl (.inr ⟨h.next+1,UNK,[],ti _,go _,?_,?_,by unfold UNK;omega,λ_=>rfl⟩)
   ·rw[oC];(simp(disch:=first|omega|(simp only[z1,z2];omega)|(simp only[z1,z2];done)|fail)only[z8,z4,z5,z9,z7,z1,z2];exact rfl)
   ·rw[hX];rfl
theorem yj(hi:l[i]? =some r)(Q:List Nat->Bool):(l.take (i+1)).filter Q=(l.take i).filter Q++(if Q r then [r]else []):=by
 obtain⟨a,rfl⟩:=List.getElem?_eq_some_iff.1 hi;rw[zs a,wi];congr 1;by_cases hq:Q l[i]=true
 ·simp[hq]
 ·simp[hq]
theorem Ad(hi:i<l.length):(l.set i r).take (i+1)=l.take i++[r]:=by
 apply u3;intro k;by_cases hk:k<i
 ·rw[gS (by omega),List.getElem?_set_ne (by omega),hG (by rw[m6];omega),gS hk]
 ·by_cases hk2:k=i
  ·subst hk2;rw[gS (by omega),List.getElem?_set_self hi,gK (by rw[m6];omega),m6,tp (by omega),ul];rfl
  ·rw[re (by rw[m6,lp];omega),re (by rw[ec,m6,wl];omega)]
theorem Ac{j:Nat}(hi:i<j):(l.set i r).drop j=l.drop j:=by
 apply u3;intro k;rw[me,me,List.getElem?_set_ne (by omega)]
def zS:List Value:=aR 8 (.int .u64 0)
theorem BR:∀n,eC (eW n zS)=true
 |0=>rfl
 |n+1=>by
  show eC (dP zS (eW n zS))=true;rw[dI];exact pV rfl (BR n)
theorem ye{D:List (List Nat)}{t ws:List Value}(b:∀r∈l,IsS r)(hi:i<=l.length)(c:l.take i=D)(d:cW (ssL l++t) (0+i*8) (eW (l.length-i) zS)=ws):∃t',ws=ssL D++t':=by
 have e:(eW (l.length-i) zS).length=(l.length-i)*8:=by rw[kZ];rfl
 have a:=fQ b;rw[←d,eY (by rw[e,ec,a];omega),hX,j3 (by omega),DU b,c,rr];exact⟨_,rfl⟩
theorem Hj(K:aF T)(hf:T 88=some f193)(O:T 115=some f257)(hr:Rdy h)(q:OwS lo h v l)(S:∀r∈l,IsS r)(hn:l.length<1000000){g:Nat}(P:List Nat->Bool)
 (Z:∀h':Heap,WF h'→h.next<=h'.next->(∀z,z<lo->h'.get z=h.get z)->∀r,IsS r->Pu T g (sv r::cap) {h' with log:=[]} (.bool (P r))):
 Gs T 88 [v, .func (.func g) #[] cap.toArray] h (vB v) (λv h'=>OwS lo h' v (l.filter λr=> !P r)):=by
 have sR:=q.ss S;obtain⟨a,c,rfl⟩:=q.form;refine .of K hf ?_ ?_
 ·intro v F M Y be aw hq;exact OwS.flat Y hq
 have C:=CU K O hr sR hn P (λr hR=>by
  have:=Z h hr.wf (bl _) (λ_ _=>rfl) r (S r hR)
  rwa [hr.self]at this)
 refine Y7 ?_;refine FW.pu (by rw[hr.self];exact C) ?_;clear C;by_cases hi:0<=jC P l 0
 ·obtain⟨k,rk,F,M,h3,h4⟩:=CR P l 0 hi;rw[hX]at h3;rw[h3];have s:k<l.length:=(List.getElem?_eq_some_iff.1 F).1;rcases q with⟨_,rfl⟩|⟨b,c',tl,hb1,hb2,hb3,Y,hcl,hcu⟩
  ·simp at s
  ·cases Y;obtain rfl:=hcu (λq=>by rw[q]at s;simp at s);have m1:an .eql (.int .i64 (k:Nat)) (.int .i64 (-1))=some (.bool false):=iH (by omega);refine Y17 ?_;refine cT (λmm e ds h'=>∃(j i:Nat) (m:List (List Nat)),j<=l.length/\i<j/\mm=l.length-j/\e=[(0, .slice (some ⟨b,0,none⟩) l.length UNK),(1, .func (.func g) #[] cap.toArray),(5, .int .i64 (i:Nat)),(6, .int .i64 (j:Nat))]/\ds=[]∧
    WF h'∧h.next<=h'.next/\(∀z,z<lo->h'.get z=h.get z)/\(∀z∈h'.log,vB (.slice (some ⟨b,0,none⟩) l.length UNK) z)/\h'.get b=some (.cells (ssL m++tl) true 8)/\m.length=l.length/\(∀r∈m,IsS r)/\m.take i=(l.take j).filter (λr=> !P r)/\m.drop j=l.drop j)
    ⟨k+1,k,l,s,go _,rfl,rfl,rfl,hr.wf,bl _,λ_ _=>rfl,(by rw[hr.log];intro z p;cases p),hb3,rfl,S,?_,rfl⟩ ?_
   ·rw[yj F,M];simp only[Bool.not_true,rc,if_false,oC];exact(List.filter_eq_self.2 (λx D=>by rw[h4 x D];rfl)).symm
   rintro mm e ds H ⟨j,i,m,hj,aE,rfl,rfl,rfl,hw,W,w,I,L,U,d,o,A⟩;have G:b<H.next:=WF.bP hw L
   by_cases hlt:j<l.length
   ·obtain⟨r,B⟩:∃r,l[j]? =some r:=⟨l[j],bx hlt⟩;have J:m[j]? =some r:=by
     have e1:(m.drop j)[0]? =(l.drop j)[0]? :=by rw[A]
     rw[me,me]at e1;exact e1.trans B
    have f:=d r (eA J);have bi:=qS (t:=tl) d J;have rl:=bR f.len;have bj:=cS f.len;have bo:=f.len;refine Y17 ?_;refine aG (uG) ?_;refine aG (dg (by exact rfl) (by exact rfl) YG (by(simp only[aK];assumption)) (by exact rfl) (by exact dQ _)) ?_;refine Y3 ?_;refine aG (di (by exact rfl) YG (by assumption) (by assumption)) ?_;have N:WF (((H.push (.cells (aR 8 (.int .u64 0)) true 1)).wr h.next H.next (.cells (us r) true 1))):=(hw.push (.cells (aR 8 (.int .u64 0)) true 1)).as (AS.wr h.next _ _ _);have E:=Z _ N (show h.next<=H.next+1 by omega) (λz p=>by
     rw[z5 (by omega),z4 (by omega)];exact w z p) r f
    refine mX (rB (all:=sv r::cap) (by exact rfl) (by exact rfl) (by exact rfl) (by rw[dI,dI];simp[sv])) ?_;refine FW.pu E ?_;clear E;have u:∀z∈(((H.push (.cells (aR 8 (.int .u64 0)) true 1)).wr h.next H.next (.cells (us r) true 1))).log,vB (.slice (some ⟨b,0,none⟩) l.length UNK) z:=by
     rw[Heap.aD W];exact I
    have y:(((H.push (.cells (aR 8 (.int .u64 0)) true 1)).wr h.next H.next (.cells (us r) true 1))).get b=some (.cells (ssL m++tl) true 8):=by
     rw[z5 (by omega),z4 G];exact L
    have ar:(((H.push (.cells (aR 8 (.int .u64 0)) true 1)).wr h.next H.next (.cells (us r) true 1))).get H.next=some (.cells (us r) true 1):=by
     rw[z6,z3];rfl
    have n:∀z,z<lo->(((H.push (.cells (aR 8 (.int .u64 0)) true 1)).wr h.next H.next (.cells (us r) true 1))).get z=h.get z:=λz p=>by
     rw[z5 (by omega),z4 (by omega)];exact w z p
    have ae:(((H.push (.cells (aR 8 (.int .u64 0)) true 1)).wr h.next H.next (.cells (us r) true 1))).next=H.next+1:=rfl
    generalize(((H.push (.cells (aR 8 (.int .u64 0)) true 1)).wr h.next H.next (.cells (us r) true 1)))=H2 at*;cases K:P r with
    |true=>
     refine Y11 ?_;refine⟨l.length-(j+1),by omega,j+1,i,m,by omega,by omega,rfl,rfl,rfl,N,by omega,n,u,y,U,d,?_,?_⟩
     ·rw[yj B,K,o];simp
     ·rw[←List.drop_drop,←List.drop_drop,A]
    |false=>
     have kc:=BK (t:=tl) d f (i:=i) (by omega);have kw:cW (ssL m++tl) (0+i*8) (cellsOf (sv r))=ssL (m.set i r)++tl:=by
      have e:cellsOf (sv r)=us r:=by show(us r).toArray.toList=_;simp
      rw[e,BJ d f (by omega)]
     refine Y8 ?_;refine aG (iV (by exact rfl) (by exact rfl) y kc kw) ?_;refine Y5 ?_;refine bH ?_;refine Y8 ?_;refine⟨l.length-(j+1),by omega,j+1,i+1,m.set i r,by omega,by omega,rfl,rfl,rfl,N.as (AS.wr h.next _ _ _),(by show h.next<=H2.next;omega),?_,uB u ⟨_,_,rfl⟩,?_,by rw[lp];exact U,?_,?_,?_⟩
     ·intro z p;rw[z5 (by omega)];exact n z p
     ·rw[z6,y];rfl
     ·intro x D;rcases wn D with D|rfl
      ·exact d x D
      ·exact f
     ·rw[Ad (by omega),yj B,K,o];simp
     ·rw[Ac (by omega),←List.drop_drop,←List.drop_drop,A]
   ·obtain rfl:j=l.length:=by omega
    rw[q9]at o;have p:(eW (l.length-i) zS).length=(l.length-i)*8:=by rw[kZ];rfl
    have ba:i<=l.length:=by omega
    have V:=fQ d;refine Y16 ?_;refine aG (rD (by exact rfl) (by exact rfl) (by assumption) (by omega)) ?_;refine aG (FN (z:=zS) (by exact rfl) (by omega) L (by rw[p,ec,V];omega) (by exact BR _) rfl) ?_;refine Y4 ?_;refine aG (vQ (by exact rfl) (by exact rfl) YG (by omega) (by omega)) ?_;refine Y3 ?_;refine iy (uB I ⟨_,_,rfl⟩) rfl ?_;have Q:(l.filter λr=> !P r).length=i:=by
     rw[←o,m6];omega
    obtain⟨t',X⟩:=ye (t:=tl) (i:=i) (ws:=cW (ssL m++tl) (0+i*8) (eW (l.length-i) zS)) d (by omega) o (by rw[U]);refine .inr ⟨b,UNK,t',hb1,G,?_,?_,by unfold UNK;omega,λ_=>rfl⟩
    ·rw[z6,L,z7,X]
    ·rw[Q];rfl
 ·obtain⟨F,M⟩:=CQ P l 0 hi;rw[F];refine Y14 ?_;refine iy (by rw[hr.log];intro z p;cases p) rfl ?_;show OwS lo h (.slice a l.length c) _;rw[List.filter_eq_self.2 (λx D=>by rw[M x D];rfl)];exact q
def ddS:List (List Nat)->List (List Nat)
 |a::b::l=>if a=b then ddS (b::l)else a::ddS (b::l)
 |l=>l
theorem wj:∀(l:List (List Nat)) (y x:List Nat),ddS (l++[y,x])=if y=x then ddS (l++[y])else ddS (l++[y])++[x]
 |[],y,x=>by
  show(if y=x then [x]else y::[x])=if y=x then [y]else [y]++[x]
  by_cases h:y=x
  ·rw[if_pos h,if_pos h,h]
  ·rw[if_neg h,if_neg h];rfl
 |[a],y,x=>by
  have c:=wj [] y x;simp only[vd]at c;show(if a=y then ddS (y::[x])else a::ddS (y::[x]))=_;have e:ddS ([a]++[y])=if a=y then ddS [y]else a::ddS [y]:=rfl
  rw[e,c];by_cases h:a=y
  ·simp only[if_pos h]
  ·simp only[if_neg h];by_cases h2:y=x
   ·simp only[if_pos h2]
   ·simp only[if_neg h2];rfl
 |a::b::l,y,x=>by
  have c:=wj (b::l) y x;show(if a=b then ddS (b::l++[y,x])else a::ddS (b::l++[y,x]))=_;have e:ddS (a::b::l++[y])=if a=b then ddS (b::l++[y])else a::ddS (b::l++[y]):=rfl
  rw[e,c];by_cases h:a=b
  ·simp only[if_pos h]
  ·simp only[if_neg h];by_cases h2:y=x
   ·simp only[if_pos h2]
   ·simp only[if_neg h2];rfl
theorem Ct{k:Nat}{y:List Nat}(b:l[k]? =some y)(a:l[k+1]? =some x):ddS (l.take (k+1+1))=if y=x then ddS (l.take (k+1))else ddS (l.take (k+1))++[x]:=by
 rw[fU a,fU b,rr];exact wj _ y x
theorem vt:∀{l:List (List Nat)} {x:List Nat},x∈ddS l->x∈l
 |[],_,h=>h
 |[a],_,h=>h
 |a::b::l,x,h=>by
  unfold ddS at h;by_cases e:a=b
  ·rw[if_pos e]at h;exact bz _ (vt h)
  ·rw[if_neg e]at h;rcases List.mem_cons.1 h with rfl|h
   ·exact b6
   ·exact bz _ (vt h)
theorem zD{m:List (List Nat)}(h:m.drop n=l.drop n):m.drop (n+1)=l.drop (n+1):=by
 have:=congrArg (List.drop 1) h
 rwa [sf,sf]at this
theorem AD:∀l:List (List Nat),(ddS l).length<=l.length
 |[]=>bl _
 |[a]=>bl _
 |a::b::l=>by
  have ih:=AD (b::l);unfold ddS;by_cases e:a=b
  ·rw[if_pos e];exact xa ih
  ·rw[if_neg e];exact Nat.succ_le_succ ih
theorem wg(hp:aF T)(hf:T 87=some f192)(hr:Rdy h)(q:OwS lo h v l)(L:∀r∈l,IsS r)(hn:l.length<1000000):
 Gs T 87 [v] h (vB v) (λv p=>OwS lo p v (ddS l)):=by
 obtain⟨a,c,rfl⟩:=q.form;refine .of hp hf ?_ ?_
 ·intro v h1 K hv aE ae hq;exact OwS.flat hv hq
 by_cases K:l.length<2
 ·have e:ddS l=l:=by
   match l,K with
   |[],_=>rfl
   |[_],_=>rfl
  rw[e];have m1:an .lss (.int .i64 (l.length:Nat)) (.int .i64 2)=some (.bool true):=dY (by omega);refine Y16 ?_;exact iy (by rw[hr.log];intro z A;cases A) rfl q
 have m0:an .lss (.int .i64 (l.length:Nat)) (.int .i64 2)=some (.bool false):=eM (by omega);rcases q with⟨_,rfl⟩|⟨b,c',tl,hb1,hb2,hb3,hv,hcl,hcu⟩
 ·exact absurd (show([]:List (List Nat)).length<2 by decide) K
 cases hv;obtain rfl:=hcu (λq=>by rw[q]at K;simp at K);refine Y17 ?_
 refine cT (λP e I p=>∃k:Nat,k+1<=l.length/\l.length-(k+1)=P/\e=[(0, .slice (some ⟨b,0,none⟩) l.length UNK),(3, .int .i64 ((k+1:Nat):Int))]/\I=[]/\h=p∧ddS (l.take (k+1))=l.take (k+1))
  ⟨0,by omega,rfl,rfl,rfl,rfl,?_⟩ ?_
 ·cases l with
  |nil=>rfl
  |cons a l=>rfl
 rintro P e I _ ⟨k,hk,rfl,rfl,rfl,rfl,s⟩;by_cases hlt:k+1<l.length
 ·obtain⟨x,w⟩:∃r,l[k+1]? =some r:=⟨l[k+1],bx hlt⟩;obtain⟨y,U⟩:∃r,l[k]? =some r:=⟨l[k],bx (by omega)⟩;have f:=L x (eA w);have n:=L y (eA U);have j:=Ct U w;have rx:=qS (t:=tl) L w;have ry:=qS (t:=tl) L U;have kx:=bR f.len;have ky:=bR n.len;have B:an .lss (.int .i64 ((k+1:Nat):Int)) (.int .i64 (l.length:Nat))=some (.bool true):=dY (by omega);have Q:an .sub (.int .i64 ((k+1:Nat):Int)) (.int .i64 1)=some (.int .i64 ((k:Nat):Int)):=mQ (by rw[bO]<;>omega);by_cases hxy:y=x
  ·rw[if_pos hxy,s]at j;refine Y23 ?_;refine aO rfl rfl rfl (by exact rfl) (by exact rfl) (by exact rfl) (oR (b:=y) (by exact rfl) (by exact rfl) f.len n.len) ?_;rw[decide_eq_true hxy.symm];refine Y7 ?_;refine aG (rD (by exact rfl) (by exact rfl) (by assumption) (by omega)) ?_;refine Y7 ?_;refine cT (λP e I p=>∃(d i:Nat) (m:List (List Nat)),d+1<=l.length-(k+1)/\l.length-(k+1)-(d+1)=P/\e=[(0, .slice (some ⟨b,0,none⟩) l.length UNK),(3, .int .i64 (i:Nat)),(4, .slice (some ⟨b,0+(k+1)*8,none⟩) (l.length-(k+1)) UNK),(5, .int .i64 ((d+1:Nat):Int))]/\I=[]∧
    WF p∧h.next<=p.next/\(∀z,z<lo->p.get z=h.get z)/\(∀z∈p.log,vB (.slice (some ⟨b,0,none⟩) l.length UNK) z)/\p.get b=some (.cells (ssL m++tl) true 8)/\m.length=l.length/\(∀r∈m,IsS r)/\i<=k+1+d/\m.take i=ddS (l.take (k+1+d+1))/\m.drop (k+1+d)=l.drop (k+1+d))
    ⟨0,k+1,l,by omega,rfl,rfl,rfl,hr.wf,bl _,λ_ _=>rfl,(by rw[hr.log];intro z A;cases A),hb3,rfl,L,bl _,j.symm,rfl⟩ ?_
   rintro P e I H ⟨d,i,m,aw,rfl,rfl,rfl,hw,M,D,F,G,X,g,ar,o,u⟩;have V:b<H.next:=WF.bP hw G
   clear w U f n j rx ry kx ky B Q hxy;by_cases hlt2:d+1<l.length-(k+1)
   ·obtain⟨C,N⟩:∃r,l[k+1+d+1]? =some r:=⟨l[k+1+d+1],bx (by omega)⟩;obtain⟨S,O⟩:∃r,l[k+1+d]? =some r:=⟨l[k+1+d],bx (by omega)⟩;have mx:m[k+1+d+1]? =some C:=by
     have J:(m.drop (k+1+d))[1]? =(l.drop (k+1+d))[1]? :=by rw[u]
     rw[me,me]at J;exact J.trans N
    have my:m[k+1+d]? =some S:=by
     have J:(m.drop (k+1+d))[0]? =(l.drop (k+1+d))[0]? :=by rw[u]
     rw[me,me]at J;exact J.trans O
    have f:=g C (eA mx);have n:=g S (eA my);have j:=Ct O N;have rx:=qS (t:=tl) g mx;have ry:=qS (t:=tl) g my;rw[show 0+(k+1+d+1)*8=0+(k+1)*8+(d+1)*8 by omega]at rx;rw[show 0+(k+1+d)*8=0+(k+1)*8+d*8 by omega]at ry;have kx:=bR f.len;have ky:=bR n.len;have B:an .lss (.int .i64 ((d+1:Nat):Int)) (.int .i64 ((l.length-(k+1):Nat):Int))=some (.bool true):=dY (by omega);have Q:an .sub (.int .i64 ((d+1:Nat):Int)) (.int .i64 1)=some (.int .i64 ((d:Nat):Int)):=mQ (by rw[bO]<;>omega);by_cases hxy:S=C
    ·rw[if_pos hxy]at j;refine Y23 ?_;refine aO rfl rfl rfl (by exact rfl) (by exact rfl) (by exact rfl) (oR (b:=S) (by exact rfl) (by exact rfl) f.len n.len) ?_;rw[decide_eq_true hxy.symm];refine Y12 ?_;exact⟨l.length-(k+1)-(d+1+1),by omega,d+1,i,m,by omega,rfl,rfl,rfl,hw,M,D,F,G,X,g,by omega,by rw[o,←j];rfl,zD u⟩
    ·rw[if_neg hxy]at j;have kc:=BK (t:=tl) g f (i:=i) (by omega);have kw:cW (ssL m++tl) (0+i*8) (cellsOf (sv C))=ssL (m.set i C)++tl:=by
      have e:cellsOf (sv C)=us C:=by show(us C).toArray.toList=_;simp
      rw[e,BJ g f (by omega)]
     refine Y23 ?_;refine aO rfl rfl rfl (by exact rfl) (by exact rfl) (by exact rfl) (oR (b:=S) (by exact rfl) (by exact rfl) f.len n.len) ?_;rw[decide_eq_false (Ne.symm hxy)];refine Y12 ?_;refine aG (iV (by exact rfl) (by exact rfl) G kc kw) ?_;refine Y5 ?_;refine bH ?_;refine Y8 ?_;refine⟨l.length-(k+1)-(d+1+1),by omega,d+1,i+1,m.set i C,by omega,rfl,rfl,rfl,hw.as (AS.wr h.next _ _ _),M,?_,uB F ⟨_,_,rfl⟩,?_,by rw[lp];exact X,?_,by omega,?_,?_⟩
     ·intro z A;rw[z5 (by omega)];exact D z A
     ·rw[z6,G];rfl
     ·intro r w;rcases wn w with w|rfl
      ·exact g r w
      ·exact f
     ·rw[Ad (by omega),o,←Nat.add_assoc,j]
     ·rw[Ac (by omega)];exact zD u
   ·have E:k+1+d+1=l.length:=by omega
    rw[E,q9]at o;have B:an .lss (.int .i64 ((d+1:Nat):Int)) (.int .i64 ((l.length-(k+1):Nat):Int))=some (.bool false):=eM (by omega);have A:(eW (l.length-i) zS).length=(l.length-i)*8:=by rw[kZ];rfl
    have Y:=fQ g;refine Y16 ?_;refine aG (rD (by exact rfl) (by exact rfl) (by assumption) (by omega)) ?_;refine aG (FN (z:=zS) (by exact rfl) (by omega) G (by rw[A,ec,Y];omega) (by exact BR _) rfl) ?_;refine Y4 ?_;refine aG (vQ (by exact rfl) (by exact rfl) YG (by omega) (by omega)) ?_;refine Y8 ?_;refine iy (uB F ⟨_,_,rfl⟩) rfl ?_;have W:(ddS l).length=i:=by
     rw[←o,m6];omega
    obtain⟨t',Z⟩:=ye (t:=tl) (i:=i) (ws:=cW (ssL m++tl) (0+i*8) (eW (l.length-i) zS)) g (by omega) o (by rw[X]);refine .inr ⟨b,UNK,t',hb1,V,?_,?_,by unfold UNK;omega,λ_=>rfl⟩
    ·rw[z6,G,z7,Z]
    ·rw[W];rfl
  ·rw[if_neg hxy,s,←fU w]at j;refine Y23 ?_;refine aO rfl rfl rfl (by exact rfl) (by exact rfl) (by exact rfl) (oR (b:=y) (by exact rfl) (by exact rfl) f.len n.len) ?_;rw[decide_eq_false (Ne.symm hxy)];refine Y12 ?_;exact⟨l.length-(k+1+1),by omega,k+1,by omega,rfl,rfl,rfl,rfl,j⟩
 ·have E:k+1=l.length:=by omega
  rw[E,q9]at s;have B:an .lss (.int .i64 ((k+1:Nat):Int)) (.int .i64 (l.length:Nat))=some (.bool false):=eM (by omega);refine Y18 ?_;refine iy (by rw[hr.log];intro z A;cases A) rfl ?_;rw[s];exact .inr ⟨b,UNK,tl,hb1,hb2,hb3,rfl,hcl,λ_=>rfl⟩
end Go.A.Pk
end
