/- Walks of functions, plain laws, the table. -/
import Derived.Test.YtkaeljcfdnhacaaGreatDoorLU3
import Derived.Test.YtkaeljcfdnhacaaGreatDoorLF
import Derived.Test.YtkaeljcfdnhacaaGreatDoorLU2
import Derived.Test.YtkaeljcfdnhacaaGreatDoorLD
set_option linter.all false
set_option maxHeartbeats 16000000
set_option maxRecDepth 100000
section
namespace Go.A.Pk
variable {T:Nat->Option an}
variable{h:Heap}{v:Value}{i n:Nat}{cs:List Value}
theorem wE(s:aK h 1 v n cs){x:Value}(hi:cs[i]? =some x):
 ∃b o c e a t,v= .slice (some ⟨b,o,none⟩) n c/\h.get b=some (.cells e a t)/\b<h.next/\bN e (o+i*1)=some x:=by
 have d:=(List.getElem?_eq_some_iff.1 hi).1;rcases aK.inv s with⟨_,_,h0,hc⟩|⟨b,o,cap,hs,s3,hc⟩
 ·rw[hc]at d;simp at d
 ·obtain⟨e,a,t,g,f⟩:=s3.obj;have hl:=s3.len;refine⟨b,o,cap,e,a,t,hs,g,s3.lt,?_⟩;rw[bk,aR]at f;rw[←f,gS (by omega),kK]at hi;rw[bW,xf];exact hi
theorem ints_at{l:List Int}{x:Int}(h:l[i]? =some x):(ints l)[i]? =some (zc x):=by simp[ints,h]
def fm(l:List Nat):List Nat:=l++List.replicate (8-l.length) 0
theorem uL{l:List Nat}(h:l.length<=8):(fm l).length=8:=by unfold fm;rw[eA,wl];omega
def z8:List Nat:=[0,0,0,0,0,0,0,0]
def qX(l:List Int):Bool:=l.all λx=>inR x 0 2
def Qy(l:List Int)(n:Nat):List Nat×Bool:=if n<l.length∨qX l=false then(z8,false)else(fm (l.map Int.toNat),decide (l.length=n))
theorem T6(f:List Nat)(i k:Nat):(fL f).set (0+i*1) (.int .u8 (k:Nat))=fL (f.set i k):=by
 rw[j3,xf];unfold fL;rw[Ys]
variable{w:List Nat×List Nat}
theorem HD{l:List Pb}{os:List (List Nat)}(h:sB w l os=0):sIn w.1 w.2=true/\os.length<=6/\(∀s∈os,¬s=s0)/\l.length<=8:=by
 unfold sB at h;split at h
 ·cases h
 ·rename_i h1;split at h
  ·cases h
  ·rename_i h2;split at h
   ·cases h
   ·rename_i h3;refine⟨by simpa using h1,by omega,λs a e=>h3 (List.any_eq_true.2 ⟨s,a,decide_eq_true e⟩),?_⟩;unfold prE at h;split at h
    ·cases h
    ·omega
def zsF(l:List Pb)(fs:List Int):Zs:=l.zip (fs.map Int.toNat)
variable{a b:List Nat}
theorem TW(r:aM T)(q:T 136=some f259)(hr:Rdy h)(n:IsS a)(hb:IsS b):Pu T 136 [sv a,sv b] h (zc (cmpL a b)):=by
 refine .of r q hr rfl ?_;have u:Ext h ((h.push (qt (cellsOf (sv a)))).push (qt (cellsOf (sv b)))):=((Ext.refl h).push _).push _;have z:((h.push (qt (cellsOf (sv a)))).push (qt (cellsOf (sv b)))).get h.next=some (qt (us a)):=YG
 have A:((h.push (qt (cellsOf (sv a)))).push (qt (cellsOf (sv b)))).get (h.next+1)=some (qt (us b)):=YG;refine Y5 ?_;generalize((h.push (qt (cellsOf (sv a)))).push (qt (cellsOf (sv b))))=H at*;have d:=u.log.trans hr.log;refine Y5 ?_
 refine bg (λm e k l=>∃j:Nat,j<=8/\8-j=m/\e=[(2, sb h.next),(3, sb (h.next+1)),(5, zc (j:Nat))]/\k=[]/\H=l∧a.take j=b.take j)
  ⟨0,gK _,rfl,rfl,rfl,rfl,rfl⟩ ?_
 rintro m e k l ⟨j,B,rfl,rfl,rfl,rfl,c⟩;by_cases hlt:j<8
 ·obtain⟨x,g⟩:∃x,a[j]? =some x:=⟨a[j]'(by rw[n.len];exact hlt),a6 _⟩;obtain⟨y,i⟩:∃x,b[j]? =some x:=⟨b[j]'(by rw[hb.len];exact hlt),a6 _⟩;have v:=jc g;have w:=jc i;have s:zd j 8 true:=cH (by omega);by_cases hxy:x=y
  ·subst hxy;have o:af .lss (.int .u64 (x:Nat)) (.int .u64 (x:Nat))=some (.bool false):=cS (by omega);have t:af .gtr (.int .u64 (x:Nat)) (.int .u64 (x:Nat))=some (.bool false):=fu (by omega);refine Y40 ?_;refine Y7 ?_;refine⟨8-(j+1),by omega,j+1,by omega,rfl,rfl,rfl,rfl,?_⟩;rw[Qh,Qh,c,g,i]
  ·have p:=BK c g i hxy;rw[p];unfold Am;by_cases hl:x<y
   ·rw[if_pos hl];have o:af .lss (.int .u64 (x:Nat)) (.int .u64 (y:Nat))=some (.bool true):=cH (by omega);refine Y34 ?_;exact ah d rfl rfl
   ·rw[if_neg hl,if_pos (by omega)];have o:af .lss (.int .u64 (x:Nat)) (.int .u64 (y:Nat))=some (.bool false):=cS (by omega);have t:af .gtr (.int .u64 (x:Nat)) (.int .u64 (y:Nat))=some (.bool true):=dY (by omega);refine Y40 ?_;refine Y8 ?_;exact ah d rfl rfl
 ·obtain rfl:j=8:=by omega
  have f:a=b:=by
   rw[dn (by rw[n.len];omega),dn (by rw[hb.len];omega)]at c;exact c
  rw[f,nW];have s:zd ((8:Nat):Int) 8 false:=rfl;refine Y15 ?_;exact ah d rfl rfl
def atS(x:List Nat)(l:List (List Nat)):Nat->Nat
 |0=>0
 |k+1=>if cmpL x (l.getD k [])<0 then atS x l k else k+1
theorem xI(x:List Nat)(l:List (List Nat)):∀k,atS x l k<=k
 |0=>bl _
 |k+1=>by
  unfold atS;split
  ·exact EQ (xI x l k)
  ·exact bl _
def Jf(l:List (List Nat))(x:List Nat)(k:Nat):Bool:=decide (0<k)&&decide (l.getD (k-1) []=x)
def Cs(l:List (List Nat))(x:List Nat)(k:Nat):List (List Nat):=if Jf l x k=true then l else l.take k++[x]++l.drop k
def pJ(l:List (List Nat))(x:List Nat):List (List Nat):=Cs l x (atS x l l.length)
theorem DF(x:List Nat)(l:List (List Nat)):∀k,k<=l.length->(∀i,atS x l k<=i->i<k->cmpL x (l.getD i [])<0)/\(0<atS x l k->¬cmpL x (l.getD (atS x l k-1) [])<0)
 |0,_=>⟨λi _ h=>by omega,λh=>by unfold atS at h;omega⟩
 |k+1,hk=>by
  obtain⟨h1,h2⟩:=DF x l k (by omega);unfold atS;split
  ·rename_i hc;refine⟨λi a hl=> ?_,h2⟩;rcases Id i k with q|q
   ·exact h1 i a q
   ·obtain rfl:i=k:=by omega
    exact hc
  ·rename_i hc;refine⟨λi a hl=>by omega,λ_=> ?_⟩;rw[Nat.add_sub_cancel];exact hc
variable{l:List (List Nat)}
theorem qv(h:i<l.length):l.getD i []∈l:=by
 rw[gk,a6 h];exact yi h
variable{p x:List Nat}
theorem zv(h:p∈pJ l x):p=x∨p∈l:=by
 unfold pJ Cs at h;split at h
 ·exact .inr h
 ·rcases List.mem_append.1 h with h|h
  ·rcases List.mem_append.1 h with h|h
   ·exact .inr (wy h)
   ·exact .inl (List.mem_singleton.1 h)
  ·exact .inr (List.mem_of_mem_drop h)
theorem zw(h:p=x∨p∈l):p∈pJ l x:=by
 unfold pJ Cs;split
 ·rename_i hc;unfold Jf at hc;rw[dk,decide_eq_true_eq,decide_eq_true_eq]at hc;rcases h with rfl|h
  ·have a:=qv (l:=l) (i:=atS p l l.length-1) (by have:=xI p l l.length;omega);rw[hc.2]at a;exact a
  ·exact h
 ·rcases h with rfl|h
  ·exact Cl _ (Fr _ (List.mem_singleton.2 rfl))
  ·rw[←List.take_append_drop (atS x l l.length) l]at h;rcases List.mem_append.1 h with h|h
   ·exact Cl _ (Cl _ h)
   ·exact Fr _ h
theorem E6:p∈pJ l x↔p=x∨p∈l:=⟨zv,zw⟩
theorem J8{c:List Nat}(h1:SLt a b)(d:SLt b c)(e:IsS a)(hb:IsS b)(f:IsS c):SLt a c:=by
 have g:[a,b,c].Pairwise SLt∨True:= .inr trivial;unfold SLt at*;exact oU (e.len.trans hb.len.symm) (hb.len.trans f.len.symm) h1 d
theorem It(v:∀s∈l,IsS s)(r:IsS x)(f:l.Pairwise SLt):(pJ l x).Pairwise SLt:=by
 have E:=xI x l l.length;obtain⟨B,C⟩:=DF x l l.length (bl _);unfold pJ Cs;split
 ·exact f
 ·rename_i hc;generalize atS x l l.length=k at*;have h:∀i,i<k->SLt (l.getD i []) x:=by
   intro i j;have g:0<k:=by omega
   have A:=C g;have n:=v _ (qv (l:=l) (i:=k-1) (by omega));have o:l.getD (k-1) []≠x:=by
    intro e;apply hc;unfold Jf;rw[decide_eq_true g,decide_eq_true e];rfl
   have D:=jg (r.len.trans n.len.symm);have c:SLt (l.getD (k-1) []) x:=by
    unfold SLt;rcases Int.lt_or_le (cmpL (l.getD (k-1) []) x) 0 with q|q
    ·exact q
    ·exact absurd (kL (n.len.trans r.len.symm) (by omega)) o
   rcases Id i (k-1)with q|q
   ·have w:l.getD i []=l[i]'(by omega):=by rw[gk,a6];rfl
    have y:l.getD (k-1) []=l[k-1]'(by omega):=by rw[gk,a6];rfl
    have t:=List.pairwise_iff_getElem.1 f i (k-1) (by omega) (by omega) q;rw[←w,←y]at t;exact J8 t c (v _ (qv (by omega))) n r
   ·obtain rfl:i=k-1:=by omega
    exact c
  have ht:=f.take (i:=k);have z:=f.drop (i:=k);have p:∀a∈l.take k,∀b∈l.drop k,SLt a b:=by
   rw[←List.take_append_drop k l]at f;exact(List.pairwise_append.1 f).2.2
  rw[yn];refine List.pairwise_append.2 ⟨ht,List.pairwise_cons.2 ⟨λb d=> ?_,z⟩,λa u b d=> ?_⟩
  ·change b∈l.drop k at d;obtain⟨i,j,rfl⟩:=List.getElem_of_mem d;rw[G7]at j;rw[List.getElem_drop];have:=B (k+i) (by omega) (by omega);rw[gk,a6 (by omega)]at this;exact this
  ·change b∈x::l.drop k at d;have m:SLt a x:=by
    obtain⟨i,j,rfl⟩:=List.getElem_of_mem u;rw[lp]at j;rw[List.getElem_take];have:=h i (by omega);rw[gk,a6 (by omega)]at this;exact this
   rcases List.mem_cons.1 d with rfl|d
   ·exact m
   ·exact p a u b d
theorem Ct(b:∀s∈l,IsS s)(c:IsS x):∀s∈pJ l x,IsS s:=λs a=>by
 rcases zv a with rfl|a
 ·exact c
 ·exact b s a
theorem E7(l:List (List Nat))(x:List Nat):(pJ l x).length<=l.length+1:=by
 have:=xI x l l.length;unfold pJ Cs;split
 ·omega
 ·simp only[eA,lp,G7,WC];omega
variable{lo sz:Nat}{h':Heap}
theorem Own.Ee{a:Nat}(b:cO v=true)(q:Own lo h sz v n cs):Own a h' sz v n cs:=by
 cases q with
 |nil=>exact .nil
 |full=>cases b
variable{k:Nat}
theorem Own.Vm(b:∀s∈l,IsS s)(s:Own lo h 8 v l.length (ssL l))(a:k<l.length):
 ∃q,v= sh q l.length UNK/\q<h.next/\h.get q=some (.cells (ssL l) true 8)/\bO 8 (bK (0+k*8) (ssL l))=us (l.getD k []):=by
 have e:bO 8 (bK (0+k*8) (ssL l))=us (l.getD k []):=by
  have:=pO (t:=[]) b (a6 a);rw[md]at this;rw[this,gk,a6 a];rfl
 generalize hn:l.length=n at s;generalize hc:ssL l=cs at s;cases s with
 |nil=>omega
 |full h1 h2 h3 h4 h5=>subst hn;subst hc;exact⟨_,rfl,h2,h3,e⟩
theorem Fz:∀l:List (List Nat),eG (ssL l)=true
 |[]=>rfl
 |s::l=>by rw[Fx];exact mR (bX s) (Fz l)
structure Th (T:Nat->Option an):Prop where
 p:aM T
 f200:T 107=some f200
 f259:T 136=some f259
theorem GC(F:Th T)(hr:Rdy h)(ba:lo<=h.next)(t:∀s∈l,IsS s)(ow:Own lo h 8 v l.length (ssL l))(hn:l.length<900000)(u:IsS x):
 Al T 107 [v,sv x] h λv' U=>Own lo U 8 v' (pJ l x).length (ssL (pJ l x)):=by
 refine .of F.p F.f200 hr (λv h1 D q=>Own.Ee D q) ?_;obtain⟨a,c,rfl⟩:∃a c,v= .slice a l.length c:=(ow.slice (by omega)).form;have x0:Ext h (h.push (qt (cellsOf (sv x)))):=(Ext.refl h).push _;have g0:(h.push (qt (cellsOf (sv x)))).get h.next=some (qt (us x)):=YG
 have n0:(h.push (qt (cellsOf (sv x)))).next=h.next+1:=rfl
 have bj:=aL u.len;have a7:=aV u.len;refine Y4 ?_;generalize(h.push (qt (cellsOf (sv x))))=H at*;have W:=x0.wf hr.wf;have hL:=x0.log.trans hr.log;have g:=ow.ext x0;have n:=xI x l l.length;unfold pJ;refine Y5 ?_;refine De (E:=[(0, .slice a l.length c),(3, sb h.next),(5, zc ((atS x l l.length:Nat):Int)),(20, .bool false)]) (H:=H) ?_ ?_
 ·refine mW ?_
  refine bg (λm e ds U=>∃k:Nat,k<=l.length/\atS x l k=atS x l l.length/\k=m/\e=[(0, .slice a l.length c),(3, sb h.next),(5, zc (k:Nat))]/\ds=[]/\H=U)
   ⟨l.length,bl _,rfl,rfl,rfl,rfl,rfl⟩ ?_
  rintro m e ds U ⟨k,hk,j,rfl,rfl,rfl,rfl⟩;cases k with
  |zero=>
   have j:0=atS x l l.length:=j;rw[←j];refine Y4 ?_;refine qZ9 (b:=Av (by rfl) (by rfl) (by exact fu (by omega))) (H:=?_);refine Y18 ?_;exact⟨rfl,rfl,rfl,rfl⟩
  |succ k=>
   have o:=t _ (qv (l:=l) (i:=k) (by omega));obtain⟨q,D,M,N,A⟩:=Own.Vm t g (k:=k) (by omega);cases D;have ky:=aL o.len;have m0:zs ((k+1:Nat):Int) 0 true:=dY (by omega);have ms:vd ((k+1:Nat):Int) 1 ((k:Nat):Int):=kg (by rw[aU (by omega) (by omega)];omega);have d:atS x l (k+1)=if cmpL x (l.getD k [])<0 then atS x l k else k+1:=rfl
   have C:=TW F.p F.f259 (h:={H with log:=[]}) (.of W) u o;generalize l.getD k []=y at*;by_cases hc:cmpL x y<0
   ·rw[if_pos hc]at d;have m3:zd (cmpL x y) 0 true:=cH hc;refine Y13 ?_;refine FW.puD C (by(repeat apply aC rfl);exact aQ) ?_;clear C;refine Y13 ?_;refine bH ?_;refine Y3 ?_;exact⟨k,by omega,k,by omega,d▸j,rfl,rfl,rfl,rfl⟩
   ·rw[if_neg hc]at d;have m3:zd (cmpL x y) 0 false:=cS (by omega);have L:k+1=atS x l l.length:=d▸j;rw[←L];refine Y13 ?_;refine FW.puD C (by(repeat apply aC rfl);exact aQ) ?_;clear C;refine Y10 ?_;exact⟨rfl,rfl,rfl,rfl⟩
 generalize atS x l l.length=k at*;cases hq:Jf l x k with
 |true=>
  have w:Cs l x k=l:=by unfold Cs;rw[if_pos hq]
  rw[w];unfold Jf at hq;rw[dk,decide_eq_true_eq,decide_eq_true_eq]at hq;obtain⟨be,O⟩:=hq;obtain⟨f,rfl⟩:∃f,k=f+1:=⟨k-1,by omega⟩;rw[Nat.add_sub_cancel]at O;obtain⟨q,D,M,N,A⟩:=Own.Vm t g (k:=f) (by omega);cases D;rw[O]at A;have m0:zs ((f+1:Nat):Int) 0 true:=dY (by omega);have ms:vd ((f+1:Nat):Int) 1 ((f:Nat):Int):=kg (by rw[aU (by omega) (by omega)];omega);refine Y12 ?_;refine qZ9 (b:=jy (b:=x) (by rfl) (by rfl) u.len u.len) (H:=?_);rw[decide_eq_true (rfl:x=x)];refine Y11 ?_;exact dN hL rfl g
 |false=>
  have w:Cs l x k=l.take k++[x]++l.drop k:=by unfold Cs;rw[hq];rfl
  rw[w];refine De (E:=[(0, .slice a l.length c),(3, sb h.next),(5, zc (k:Nat)),(33, .bool false)]) (H:=H) ?_ ?_
  ·cases k with
   |zero=>
    have m0:zs ((0:Nat):Int) 0 false:=rfl;refine Y18 ?_;exact⟨rfl,rfl,rfl,rfl⟩
   |succ f=>
    have o:=t _ (qv (l:=l) (i:=f) (by omega));have ky:=aL o.len;have Z:¬l.getD f []=x:=by
     intro e;unfold Jf at hq;rw[Nat.add_sub_cancel,decide_eq_true e,decide_eq_true (Nat.succ_pos f)]at hq;cases hq
    obtain⟨q,D,M,N,A⟩:=Own.Vm t g (k:=f) (by omega);cases D;generalize l.getD f []=y at*;have m0:zs ((f+1:Nat):Int) 0 true:=dY (by omega);have ms:vd ((f+1:Nat):Int) 1 ((f:Nat):Int):=kg (by rw[aU (by omega) (by omega)];omega);refine Y11 ?_;refine qZ9 (b:=jy (b:=x) (by rfl) (by rfl) o.len u.len) (H:=?_);rw[decide_eq_false Z];refine Y6 ?_;exact⟨rfl,rfl,rfl,rfl⟩
  have x7:Ext H (H.push (.cells [] true 8)):=(Ext.refl H).push _;have J:(H.push (.cells [] true 8)).get H.next=some (.cells [] true 8):=z3 _ _
  have n7:(H.push (.cells [] true 8)).next=H.next+1:=rfl
  have X:=(x7.old _ (by omega)).trans g0;have S:=g.ext x7;have Y:(l.take k++[x]++l.drop k).length=k+1+(l.length-k):=by simp only[eA,lp,G7,WC];omega
  have P:ssL [x]=us x:=by simp[ssL]
  rw[Y,pN,pN,P];refine Y4 ?_;refine Py (i:=k) S n (by rfl) (by rfl) ?_;intro u1 B;rw[zZ t]at B;skip;refine vL (lo:=H.next) (b:=H.next) J (ec _) (bl _) (by omega) (by omega) (by rfl) (by rfl) B (by rw[fH (λr hr=>t r (wy hr)),lp,xr n]) ?_;intro v1 K o8 I;have I:Ext (H.push (.cells [] true 8)) K:=I;have V:=x7.trans I;have ar:=(I.old _ (by omega)).trans X;have n8:=I.next
  clear J B S;refine Y5 ?_;refine aF (mG (BP u (by rfl)) (show bM (aI 8 (Value.int IntKind.u64 0))=8 from rfl)) ?_;skip;refine Pw (lo:=H.next) (c1:=us x) (o8.ext ((Ext.refl K).push _)) (by omega) (by omega) (by omega) (by show H.next<=K.next+1;omega) (by omega) (by rfl) (by rfl) (gw (cs:=us x) (z3 K _) a7 (by rw[aB,u.len])) (by rw[aB,u.len]) (bX _) ?_;intro v2 h9 o9 x9;have n9:K.next+1<=h9.next:=x9.next
  have ae:Own lo h9 8 (.slice a l.length c) l.length (ssL l):=g.keep (by omega) λz _ hz=>(x9.old z hz).trans ((z4 (by omega)).trans (V.old z hz));refine Y6 ?_;refine Pz (i:=k) ae n (by rfl) (by rfl) ?_;intro u3 aw Q G;have bo:=G.next
  rw[Fy t]at Q;skip;refine SH (lo:=H.next) (o9.ext G) (by omega) (by omega) (by omega) (by omega) (by omega) (by omega) (by rfl) (by rfl) Q (by rw[fH (λr hr=>t r (List.mem_of_mem_drop hr)),G7]) (Fz _) ?_;intro v4 aE a8 am;refine Y3 ?_;exact dN (am.log.trans (G.log.trans (x9.log.trans (I.log.trans hL)))) rfl (a8.low (by omega))
structure KF (T:Nat->Option an):Prop where
 rf:Ti T
 pt:Th T
 f258:T 133=some f258
 f316:T 156=some f316
def lI(s:List Nat):List Nat:=iu (shC (-(bY s).1.lo.x) (-(bY s).1.lo.y) (-(bY s).1.lo.z)) s
theorem ql(s:List Nat):Rng (bY s).1 (-(bY s).1.lo.x) (-(bY s).1.lo.y) (-(bY s).1.lo.z):=by
 obtain⟨⟨b,c,d⟩,⟨h1,h2,a⟩⟩:=iA s;exact⟨by omega,by omega,by omega⟩
theorem xS(s:List Nat):IsS (lI s):=mP (ql s)
variable{s:List Nat}
theorem Qn(F:KF T)(hr:Rdy h)(q:IsS s)(O:¬s=s0):Pu T 156 [sv s] h (sv (lI s)):=by
 have U:=F.pt.p;refine .of U F.f316 hr (pP _) ?_;have Y:=aL q.len;have Z:=aV q.len;have K:Ext h ((h.push (qt (cellsOf (sv s)))).push (qt (aI 8 (.int .u64 0)))):=((Ext.refl h).push _).push _;have G:((h.push (qt (cellsOf (sv s)))).push (qt (aI 8 (.int .u64 0)))).get h.next=some (qt (us s)):=YG
 have I:((h.push (qt (cellsOf (sv s)))).push (qt (aI 8 (.int .u64 0)))).get (h.next+1)=some (qt (us s0)):=YG;have n0:((h.push (qt (cellsOf (sv s)))).push (qt (aI 8 (.int .u64 0)))).next=h.next+2:=rfl
 refine Y4 ?_;generalize((h.push (qt (cellsOf (sv s)))).push (qt (aI 8 (.int .u64 0))))=H at*;have W:=K.wf hr.wf;have Q:=K.log.trans hr.log;have a:=iA s;have f:=xS s;have l:=ql s;have b:∀c∈aX s 512,inG (shC (-(bY s).1.lo.x) (-(bY s).1.lo.y) (-(bY s).1.lo.z) c)=true:=λc S=>l.all (dO.1 S);have m:=AE F.rf.tr F.rf.f138 (h:={H with log:=[]}) (.of W) q;have j:(bY s).2=true:=by unfold bY;rw[if_neg O]
 have k:lI s=iu (shC (-(bY s).1.lo.x) (-(bY s).1.lo.y) (-(bY s).1.lo.z)) s:=rfl;generalize lI s=o at*;generalize bY s=bb at*;obtain⟨n,E⟩:=bb;dsimp only at a l b j k;subst j;unfold IY at m;dsimp only at m;have B:=a.lo.x;have C:=a.lo.y;have D:=a.lo.z;have nx:=Gg B;have ny:=Gg C;have nz:=Gg D;refine dw (E0:=[(1, sb h.next),(2, sb (h.next+1)),(3, sb H.next),(4, .bool true)]) (P:=λe=>Ext H e∧e.next=H.next+1/\e.get H.next=some (qt (bxL n))) ?_ ?_
 ·refine Y3 ?_;refine FW.pu m ?_;refine Y6 ?_;refine bH ?_;refine y1 ?_;exact⟨rfl,rfl,rfl,dX (by omega) _ _,rfl,fU _ _⟩
 clear m;rintro g ⟨r,n1,J⟩;have M:=r.wf W;have u:=r.log.trans Q;have i:=(r.old _ (by omega)).trans G;have d:=(r.old _ (by omega)).trans I;clear G I;have t:=EI F.rf.tr F.rf.f225 (h:={g with log:=[]}) (.of M) q (x:= -n.lo.x) (y:= -n.lo.y) (z:= -n.lo.z) ⟨by omega,by omega⟩ ⟨by omega,by omega⟩ ⟨by omega,by omega⟩ b;rw[←k]at t;have w:=aL f.len;have A:=aV f.len;have V:=f.len;refine Y8 ?_;refine dw (E0:=[(2, sb (h.next+1)),(5, sb g.next)]) (P:=λe=>Ext g e∧e.next=g.next+1/\e.get g.next=some (qt (us o))) ?_ ?_
 ·refine Y5 ?_;refine aF (KX (by rfl) (by assumption)) ?_;refine Y3 ?_;refine aF (KX (by rfl) (by assumption)) ?_;refine Y3 ?_;refine aF (KX (by rfl) (by assumption)) ?_;refine yC ?_;refine FW.pu t ?_;refine Y4 ?_;refine aF (bB (by rfl) (by rfl) YG (by(simp only[aB];assumption)) (by rfl) (by exact bX _)) ?_;refine yM ?_;refine bH ?_;refine y1 ?_;refine⟨rfl,rfl,rfl,(by first|exact dX (by omega) _ _|skip),rfl,?_⟩
  (simp(disch:=first|omega|(simp only[z1,z2];omega))only[z3,z4,z5,z6,z7,z1,z2,J,i,d];done)
 clear t;rintro X ⟨L,n2,q2⟩;have v:=L.log.trans u;have N:=(L.old _ (by omega)).trans d;clear i d J;refine y4 ?_;refine yV ?_;refine aF (bB (by rfl) (by rfl) (by assumption) (by(simp only[aB];assumption)) (by rfl) (by exact bX _)) ?_;refine y3 ?_;refine nT ?_;refine ah ?_ (bS (own:=true) (s:=1) rfl ?_ A w rfl) rfl
 ·rw[Heap.au (by omega)];exact v
 ·exact YG
def qy(b:List Nat)(n:Nat):List (List Nat):=((List.range n).map λt=>lI (dM b t)).foldl pJ []
theorem rT(b:List Nat)(n:Nat):qy b (n+1)=pJ (qy b n) (lI (dM b n)):=by
 unfold qy;rw[PH,wx,D4];rfl
theorem BY(b:List Nat):∀n,∀s∈qy b n,IsS s
 |0=>λs hs=>by cases hs
 |n+1=>by rw[rT];exact Ct (BY b n) (xS _)
theorem yH(b:List Nat):∀n,(qy b n).length<=n
 |0=>bl _
 |n+1=>by rw[rT];exact ed (E7 _ _) (Nat.succ_le_succ (yH b n))
theorem yG(b p:List Nat):∀n,p∈qy b n↔ ∃t,t<n/\lI (dM b t)=p
 |0=>⟨λh=>(by cases h),λ⟨t,h,_⟩=>by omega⟩
 |n+1=>by
  rw[rT,E6,yG b p n];constructor
  ·rintro(rfl|⟨t,h1,h2⟩)
   ·exact⟨n,ec n,rfl⟩
   ·exact⟨t,by omega,h2⟩
  ·rintro⟨t,h1,h2⟩;rcases Id t n with q|q
   ·exact .inr ⟨t,q,h2⟩
   ·obtain rfl:t=n:=by omega
    exact .inl h2.symm
theorem CU(hb:IsS b)(e:¬b=s0)(t:Nat):¬dM b t=s0:=by
 intro q;have a:∀x∈aX b 512,inG (gi t x)=true:=λc d=>nC c (jf d);obtain⟨c,d⟩:=oI hb e;have:=(jE a (gi t c)).2 ⟨c,d,rfl⟩;rw[show iu (gi t) b=s0 from q,nr]at this;cases this
theorem Jk(F:KF T)(hr:Rdy h)(hb:IsS b)(K:¬b=s0):Al T 133 [sv b] h λv a=>Own h.next a 8 v (qy b 24).length (ssL (qy b 24)):=by
 have M:=F.pt.p;refine .of M F.f258 hr (λv h1 N q=>Own.Ee N q) ?_;have Z:=aL hb.len;have k9:=aV hb.len;have J:Ext h (h.push (qt (cellsOf (sv b)))):=(Ext.refl h).push _;have A:(h.push (qt (cellsOf (sv b)))).get h.next=some (qt (us b)):=YG
 have n0:(h.push (qt (cellsOf (sv b)))).next=h.next+1:=rfl
 refine Y4 ?_;generalize(h.push (qt (cellsOf (sv b))))=H at*;have W:=J.wf hr.wf;have L:=J.log.trans hr.log;refine Y8 ?_
 refine bg (λm e z a=>∃(t:Nat) (v:Value),t<=24/\24-t=m/\e=[(1, sb h.next),(3,v),(4, zc (t:Nat))]/\z=[]/\Ext H a∧Own H.next a 8 v (qy b t).length (ssL (qy b t)))
  ⟨0,_,gK _,rfl,rfl,rfl, .refl H, .nil⟩ ?_
 rintro m e z G ⟨t,v,E,rfl,rfl,rfl,g,I⟩;have y:=g.wf W;have f:=g.log.trans L;have B:=(g.old _ (by omega)).trans A;have nG:=g.next
 by_cases ht:t<24
 ·have s:zd t 24 true:=cH (by omega);have c:=mV b t;have o:=CU hb K t;have u:=Kl F.rf.tr (h:={G with log:=[]}) (.of y) hb ht;have r:=rT b t;have n:=BY b t;have D:=yH b t;generalize dM b t=p at*;have k:=xS p;generalize qy b t=l at*;have O:=aL c.len;have Q:=aV c.len;have S:=c.len;refine Y10 ?_;refine dw (E0:=[(1, sb h.next),(3,v),(4, zc (t:Nat)),(5, sb G.next)]) (P:=λa=>Ext G a∧a.next=G.next+1/\a.get G.next=some (qt (us p))) ?_ ?_
  ·refine Y4 ?_;refine FW.pu u ?_;refine Y4 ?_;refine aF (bB (by rfl) (by rfl) YG (by(simp only[aB];assumption)) (by rfl) (by exact bX _)) ?_;refine yM ?_;refine bH ?_;refine y1 ?_;refine⟨rfl,rfl,rfl,(by first|exact dX (by omega) _ _|skip),rfl,?_⟩
   (simp(disch:=first|omega|(simp only[z1,z2];omega))only[z3,z4,z5,z6,z7,z1,z2,A,B];done)
  clear u;rintro j ⟨i,n1,q1⟩;have d:=i.wf y;have C:=i.log.trans f;have w:=Qn F (h:={j with log:=[]}) (.of d) c o;have x:=GC F.pt (h:={j with log:=[]}) (.of d) (lo:=H.next) (by show H.next<=j.next;omega) n ((I.ext i).log []) (by omega) k;clear B;refine Y4 ?_;refine FW.pu w ?_;clear w;skip;refine yC ?_;refine FW.al x (λv a m q=>q.log m) ?_;rintro V Y X U;clear x;refine yM ?_;refine bH ?_;refine Y8 ?_;exact⟨24-(t+1),by omega,t+1,V,by omega,rfl,rfl,rfl,(g.trans i).trans X,by rw[r];exact U⟩
 ·obtain rfl:t=24:=by omega
  have s:zd ((24:Nat):Int) 24 false:=rfl;generalize qy b 24=l at*;refine Y16 ?_;exact dN f rfl (I.low (by omega))
theorem TF{x y z x' a z':Int}(r:Rng (bY s).1 x y z)(j:Rng (bY (iu (shC x y z) s)).1 x' a z')(k:Rng (bY s).1 (x+x') (y+a) (z+z')):
 iu (shC x' a z') (iu (shC x y z) s)=iu (shC (x+x') (y+a) (z+z')) s:=by
 have h1:∀c∈aX s 512,inG (shC x y z c)=true:=λc b=>r.all (dO.1 b);have h2:∀c∈aX (iu (shC x y z) s) 512,inG (shC x' a z' c)=true:=λc b=>j.all (dO.1 b);have l:∀c∈aX s 512,inG (shC (x+x') (y+a) (z+z') c)=true:=λc b=>k.all (dO.1 b);refine wU (mP j) (mP k) λm i o n=> ?_;have e:eO (iu (shC x' a z') (iu (shC x y z) s)) (eX m i)=true↔eO (iu (shC (x+x') (y+a) (z+z')) s) (eX m i)=true:=by
  rw[jE h2,jE l];constructor
  ·rintro⟨c,b,f⟩;obtain⟨d,g,rfl⟩:=(jE h1 c).1 b;refine⟨d,g,?_⟩;rw[←f];unfold shC;dsimp only;congr 1<;>omega
  ·rintro⟨d,g,h⟩;refine⟨shC x y z d,(jE h1 _).2 ⟨d,g,rfl⟩,?_⟩;rw[←h];unfold shC;dsimp only;congr 1<;>omega
 cases h1:eO (iu (shC x' a z') (iu (shC x y z) s)) (eX m i)with
 |true=>rw[e.1 h1]
 |false=>
  cases h2:eO (iu (shC (x+x') (y+a) (z+z')) s) (eX m i)with
  |false=>rfl
  |true=>rw[e.2 h2]at h1;cases h1
theorem xT(c:Ce):eO (lI s) c=true↔ ∃d,eO s d=true/\shC (-(bY s).1.lo.x) (-(bY s).1.lo.y) (-(bY s).1.lo.z) d=c:=
 jE (λc a=>(ql s).all (dO.1 a)) c
theorem Qo(d:IsS s)(a:¬s=s0):¬lI s=s0:=by
 intro q;obtain⟨c,b⟩:=oI d a;have:=(xT (s:=s) _).2 ⟨c,b,rfl⟩;rw[q,nr]at this;cases this
theorem HJ(e:IsS s)(a:¬s=s0):(bY (lI s)).1.hi.x=(bY s).1.hi.x-(bY s).1.lo.x/\(bY (lI s)).1.hi.y=(bY s).1.hi.y-(bY s).1.lo.y/\(bY (lI s)).1.hi.z=(bY s).1.hi.z-(bY s).1.lo.z:=by
 obtain⟨⟨r,t,u⟩,⟨o,p,q⟩⟩:=iA s;obtain⟨⟨i,j,k⟩,⟨f,g,h⟩⟩:=iA (lI s);obtain⟨c0,hc0⟩:=oI e a;have m:=mZ hc0;have up:=F3 (Qo e a) (x:=(bY s).1.hi.x-(bY s).1.lo.x) (y:=(bY s).1.hi.y-(bY s).1.lo.y) (z:=(bY s).1.hi.z-(bY s).1.lo.z) (by omega) (by omega) (by omega) λc b=>by
  obtain⟨d,l,rfl⟩:=(xT c).1 b;have:=mZ l;unfold shC;dsimp only;omega
 have n:=F3 a (x:=(bY (lI s)).1.hi.x+(bY s).1.lo.x) (y:=(bY (lI s)).1.hi.y+(bY s).1.lo.y) (z:=(bY (lI s)).1.hi.z+(bY s).1.lo.z) (by omega) (by omega) (by omega) λc b=>by
  have:=mZ ((xT _).2 ⟨c,b,rfl⟩);unfold shC at this;dsimp only at this;omega
 omega
def InC(s:List Nat)(x y z:Nat):Prop:=(x:Int)<=7-(bY s).1.hi.x/\(y:Int)<=7-(bY s).1.hi.y/\(z:Int)<=7-(bY s).1.hi.z
variable{y z:Nat}
theorem InC.rng{x:Nat}(h:InC s x y z):Rng (bY s).1 x y z:=by
 obtain⟨⟨e,f,g⟩,⟨b,c,d⟩⟩:=iA s;obtain⟨h1,h2,a⟩:=h;exact⟨by omega,by omega,by omega⟩
def Uf(a:List Nat)(im:List (List Nat))(p:List Nat):Prop:=∃s∈im,∃x y z:Nat,InC s x y z/\iu (shC x y z) s=p/\sIn p a=true
theorem GA(hb:IsS b)(j:¬b=s0):Uf a (qy b 24) p↔TI a b p:=by
 constructor
 ·rintro⟨s,u,x,y,z,c,rfl,d⟩;obtain⟨t,ht,rfl⟩:=(yG b s 24).1 u;have q:=HJ (mV b t) (CU hb j t);have e:=ql (dM b t);have f:=c.rng;obtain⟨E,F,G⟩:=c;obtain⟨⟨B,C,D⟩,⟨v,w,A⟩⟩:=iA (dM b t);have l:Rng (bY (dM b t)).1 (-(bY (dM b t)).1.lo.x+x) (-(bY (dM b t)).1.lo.y+y) (-(bY (dM b t)).1.lo.z+z):=⟨by omega,by omega,by omega⟩;exact⟨t,ht,_,_,_,l,(TF e f l).symm,d⟩
 ·rintro⟨t,ht,x,y,z,r,rfl,d⟩;have q:=HJ (mV b t) (CU hb j t);have e:=ql (dM b t);obtain⟨⟨B,C,D⟩,⟨v,w,A⟩⟩:=iA (dM b t);obtain⟨m,n,o⟩:=r;have c:InC (lI (dM b t)) ((bY (dM b t)).1.lo.x+x).toNat ((bY (dM b t)).1.lo.y+y).toNat ((bY (dM b t)).1.lo.z+z).toNat:=⟨by omega,by omega,by omega⟩;have f:=c.rng;have g: -(bY (dM b t)).1.lo.x+(((bY (dM b t)).1.lo.x+x).toNat:Int)=x:=by omega
  have h: -(bY (dM b t)).1.lo.y+(((bY (dM b t)).1.lo.y+y).toNat:Int)=y:=by omega
  have i: -(bY (dM b t)).1.lo.z+(((bY (dM b t)).1.lo.z+z).toNat:Int)=z:=by omega
  have k:=TF e f (by rw[g,h,i];exact⟨m,n,o⟩);rw[g,h,i]at k;exact⟨_,(yG b _ 24).2 ⟨t,ht,rfl⟩,_,_,_,c,k,d⟩
structure PlI (a:List Nat) (im:List (List Nat)) (i z y x:Nat) (l:List (List Nat)):Prop where
 ok:∀p∈l,IsS p
 pw:l.Pairwise SLt
 sound:∀p∈l,Uf a im p
 comp:∀j s,im[j]? =some s->∀x' y' z':Nat,InC s x' y' z'→(j<i∨j=i/\(z'<z∨z'=z/\(y'<y∨y'=y/\x'<x)))->sIn (iu (shC x' y' z') s) a=true->iu (shC x' y' z') s∈l
theorem PlI.nil{a:List Nat}{im:List (List Nat)}:PlI a im 0 0 0 0 []:=
 ⟨λp b=>(by cases b), .nil,(λp b=>by cases b),λj s _ c d e _ h _=>by omega⟩
variable{im:List (List Nat)}
theorem PlI.skip{x:Nat}(q:PlI a im i z y x l)(hi:im[i]? =some s)(k:sIn (iu (shC x y z) s) a=false):PlI a im i z y (x+1) l:=by
 obtain⟨m,n,o,p⟩:=q;refine⟨m,n,o,λj r c e f g b h d=> ?_⟩;by_cases he:j=i/\g=z/\f=y/\e=x
 ·obtain⟨rfl,rfl,rfl,rfl⟩:=he;rw[hi]at c;cases c;rw[k]at d;cases d
 ·exact p j r c e f g b (by omega) d
theorem PlI.put{x:Nat}(q:PlI a im i z y x l)(hi:im[i]? =some s)(f:InC s x y z)(o:sIn (iu (shC x y z) s) a=true):PlI a im i z y (x+1) (pJ l (iu (shC x y z) s)):=by
 obtain⟨g,t,u,v⟩:=q;have b:=mP f.rng;refine⟨Ct g b,It g b t,λp e=> ?_,λj w d h k m c n r=> ?_⟩
 ·rcases zv e with rfl|e
  ·exact⟨s,bz hi,x,y,z,f,rfl,o⟩
  ·exact u p e
 ·by_cases he:j=i/\m=z/\k=y/\h=x
  ·obtain⟨rfl,rfl,rfl,rfl⟩:=he;rw[hi]at d;cases d;exact zw (.inl rfl)
  ·exact zw (.inr (v j w d h k m c (by omega) r))
theorem PlI.LS{x:Nat}(q:PlI a im i z y x l)(hi:im[i]? =some s)(r:¬ (x:Int)<=7-(bY s).1.hi.x):PlI a im i z (y+1) 0 l:=by
 obtain⟨f,g,h,k⟩:=q;refine⟨f,g,h,λj m c n o p b d e=>k j m c n o p b ?_ e⟩;by_cases he:j=i
 ·subst he;rw[hi]at c;cases c;obtain⟨t,u,v⟩:=b;omega
 ·omega
theorem PlI.Z8(q:PlI a im i z y 0 l)(hi:im[i]? =some s)(r:¬ (y:Int)<=7-(bY s).1.hi.y):PlI a im i (z+1) 0 0 l:=by
 obtain⟨f,g,h,k⟩:=q;refine⟨f,g,h,λj m c n o p b d e=>k j m c n o p b ?_ e⟩;by_cases he:j=i
 ·subst he;rw[hi]at c;cases c;obtain⟨t,u,v⟩:=b;omega
 ·omega
theorem PlI.Z9(q:PlI a im i z 0 0 l)(hi:im[i]? =some s)(r:¬ (z:Int)<=7-(bY s).1.hi.z):PlI a im (i+1) 0 0 0 l:=by
 obtain⟨f,g,h,k⟩:=q;refine⟨f,g,h,λj m c n o p b d e=>k j m c n o p b ?_ e⟩;by_cases he:j=i
 ·subst he;rw[hi]at c;cases c;obtain⟨t,u,v⟩:=b;omega
 ·omega
theorem RD(a b:List Nat):(lU a b).Pairwise SLt:=by
 unfold lU;split
 ·exact .nil
 ·have h:∀s∈(jm a b).map (·.s),IsS s:=λs c=>by
   obtain⟨f,d,rfl⟩:=List.mem_map.1 c;exact(wS d).1
  exact LJ (λs c=>h s (ir.1 c)) (IC h)
theorem UT(d:IsS a)(hb:IsS b)(c:¬b=s0)(e:l.Pairwise SLt)(g:∀p∈l,Uf a (qy b 24) p):l.length<=98304:=
 ed (zf (J7 e) λp f=>(wX d hb c).2 ((GA hb c).1 (g p f))) (uM a b)
theorem US(h:IsS a)(hb:IsS b)(c:¬b=s0)(q:PlI a (qy b 24) (qy b 24).length 0 0 0 l):l=lU a b:=by
 obtain⟨m,n,o,p⟩:=q;refine zY m (λs f=>pH f) n (RD a b) λx=>⟨λg=>(wX h hb c).2 ((GA hb c).1 (o x g)),λg=> ?_⟩;obtain⟨s,f,r,t,u,d,rfl,k⟩:=(GA hb c).2 ((wX h hb c).1 g);obtain⟨j,i⟩:=List.getElem?_of_mem f;have e:=(List.getElem?_eq_some_iff.1 i).1;exact p j s i r t u d (.inl e) k
structure Tk (T:Nat->Option an):Prop where
 im:KF T
 f199:T 106=some f199
variable{u:Value}
theorem Own.XE{a:Nat}{k:Int}(b:cO (.tuple #[u, zc k])=true)(q:Own lo h sz u n cs):Own a h' sz u n cs:=by
 cases q with
 |nil=>exact .nil
 |full h1 h2 h3 h4 h5=>
  simp[cO,iY,dF,flat,nQ,lR]at b;try cases b.1
theorem GW(F:Tk T)(hr:Rdy h)(ha:IsS a)(hb:IsS b)(E:¬b=s0):
 Al T 106 [sv a,sv b] h λv d=>∃u,v= .tuple #[u, zc 0]/\Own h.next d 8 u (lU a b).length (ssL (lU a b)):=by
 have hp:=F.im.pt.p;refine .of hp F.f199 hr (λv h1 hv ⟨u,e,q⟩=>⟨u,e,by subst e;exact Own.XE hv q⟩) ?_;have dT:=aL ha.len;have e9:=aV ha.len;have eg:=aL hb.len;have eh:=aV hb.len;have x0:Ext h ((h.push (qt (cellsOf (sv a)))).push (qt (cellsOf (sv b)))):=((Ext.refl h).push _).push _;have gA:((h.push (qt (cellsOf (sv a)))).push (qt (cellsOf (sv b)))).get h.next=some (qt (us a)):=YG
 have gB:((h.push (qt (cellsOf (sv a)))).push (qt (cellsOf (sv b)))).get (h.next+1)=some (qt (us b)):=YG;have n0:((h.push (qt (cellsOf (sv a)))).push (qt (cellsOf (sv b)))).next=h.next+2:=rfl
 refine Y6 ?_;generalize((h.push (qt (cellsOf (sv a)))).push (qt (cellsOf (sv b))))=H at*;have W:=x0.wf hr.wf;have hL:=x0.log.trans hr.log;have aE:=λ(l:List (List Nat))=>UT ha hb E (l:=l);have ae:=λ(l:List (List Nat))=>US ha hb E (l:=l);have J:=BY b 24;have dq:=yH b 24;have C:=Jk F.im (h:={H with log:=[]}) (.of W) hb E;generalize qy b 24=im at*;generalize lU a b=res at*;refine Y4 ?_;refine aF (jy (b:=s0) (by rfl) (by rfl) hb.len rfl) ?_;rw[decide_eq_false E];refine Y10 ?_;refine FW.al C (λv d m q=>q.log m) ?_;rintro v B x2 qi;clear C;have qi:Own H.next B 8 v im.length (ssL im):=qi
 have bo:=x0.trans x2;have W2:=bo.wf hr.wf;have a8:=x2.log.trans hL;have n2:=x2.next
 have Y:=(x2.old _ (by omega)).trans gA;have si:SsQ B v im:=⟨qi.slice (by omega),J⟩;obtain⟨ai,U,rfl⟩:=si.sl.form;clear gA gB qi;refine Y7 ?_
 refine bg (λm e t d=>∃(i:Nat) (v:Value) (l:List (List Nat)),i<=im.length/\im.length-i=m/\e=[(2, sb h.next),(6,v),(7, .slice ai im.length U),(8, zc (i:Nat))]/\t=[]/\Ext B d∧Own B.next d 8 v l.length (ssL l)/\PlI a im i 0 0 0 l)
  ⟨0,_,[],gK _,rfl,rfl,rfl, .refl B, .nil, .nil⟩ ?_
 rintro m e t G ⟨i,v,l,hi,rfl,rfl,rfl,xG,r,j⟩;have WG:=xG.wf W2;have cf:=xG.log.trans a8;have nG:=xG.next
 by_cases hlt:i<im.length
 ·obtain⟨s,o⟩:∃s,im[i]? =some s:=⟨im[i],a6 hlt⟩;have hs:=J s (bz o);have eK:=aL hs.len;have eQ:=aV hs.len;obtain⟨S,oi,c2,vs,f0,tt,hv,gl,cj,el⟩:=(si.ext xG).elem o;cases hv;have cX:zd i im.length true:=cH (by omega);have D2:=AE F.im.rf.tr F.im.rf.f138 (h:={G with log:=[]}) (.of WG) hs;have n:=iA s;have cJ:=λ(x y z:Nat) (l:List (List Nat)) (q:PlI a im i z y x l)=>q.skip o;have A:=λ(x y z:Nat) (l:List (List Nat)) (q:PlI a im i z y x l)=>q.put o;have am:=λ(x y z:Nat) (l:List (List Nat)) (q:PlI a im i z y x l)=>q.LS o;have ar:=λ(y z:Nat) (l:List (List Nat)) (q:PlI a im i z y 0 l)=>q.Z8 o;have aw:=λ(z:Nat) (l:List (List Nat)) (q:PlI a im i z 0 0 l)=>q.Z9 o;have L:=λ(x y z:Nat) (hc:InC s x y z)=>mP hc.rng;have g:=λ(x y z:Nat) (hc:InC s x y z) (c:Ce) (h:c∈aX s 512)=>hc.rng.all (dO.1 h);unfold InC at A L g;generalize hbb:bY s=bb at*;obtain⟨D,da⟩:=bb;dsimp only at n A am ar aw L g;unfold IY at D2;dsimp only at D2;have f7:=n.lo.x;have cY:=n.hi.x;have f8:=n.lo.y;have d8:=n.hi.y;have f9:=n.lo.z;have d9:=n.hi.z;have sx:=dL cY;have sy:=dL d8;have sz:=dL d9;refine Y12 ?_;refine dw (E0:=[(2, sb h.next),(6,v),(7, .slice (some ⟨S,oi,none⟩) im.length U),(8, zc (i:Nat)),(9, sb G.next)]) (P:=λd=>Ext G d∧d.next=G.next+1/\d.get G.next=some (qt (bxL D))) ?_ ?_
  ·refine Y6 ?_;refine FW.pu D2 ?_;refine Y6 ?_;refine bH ?_;refine y1 ?_;exact⟨rfl,rfl,rfl,dX (by omega) _ _,rfl,fU _ _⟩
  clear D2;rintro Q ⟨f,n3,q3⟩;have bj:=r.ext f;have xH:=xG.trans f;have Z:=(f.old _ cj).trans gl;have kq:G.next<Q.next:=by omega
  generalize G.next=q at*
  clear r gl f n3;refine Y4 ?_
  refine bg (λk e t d=>∃(z:Nat) (v:Value) (l:List (List Nat)),z<=8/\8-z=k/\e=[(2, sb h.next),(6,v),(7, .slice (some ⟨S,oi,none⟩) im.length U),(8, zc (i:Nat)),(9, sb q),(11, zc (z:Nat))]/\t=[]/\Ext Q d∧Own B.next d 8 v l.length (ssL l)/\PlI a im i z 0 0 l)
   ⟨0,_,l,by omega,rfl,rfl,rfl, .refl Q,bj,j⟩ ?_
  clear bj j;rintro k e t K ⟨z,v,l,dE,rfl,rfl,rfl,f,r,j⟩;have N:=(f.old _ kq).trans q3;by_cases hle:(z:Int)<=7-D.hi.z
  ·have lz:zp z (7-D.hi.z) true:=eE hle;refine Y18 ?_
   refine bg (λk e t d=>∃(y:Nat) (v:Value) (l:List (List Nat)),y<=8/\8-y=k/\e=[(2, sb h.next),(6,v),(7, .slice (some ⟨S,oi,none⟩) im.length U),(8, zc (i:Nat)),(9, sb q),(11, zc (z:Nat)),(12, zc (y:Nat))]/\t=[]/\Ext Q d∧Own B.next d 8 v l.length (ssL l)/\PlI a im i z y 0 l)
    ⟨0,_,l,by omega,rfl,rfl,rfl,f,r,j⟩ ?_
   clear r j f N;rintro k e t K ⟨y,v,l,dC,rfl,rfl,rfl,f,r,j⟩;have N:=(f.old _ kq).trans q3;by_cases hley:(y:Int)<=7-D.hi.y
   ·have ly:zp y (7-D.hi.y) true:=eE hley;refine Y18 ?_
    refine bg (λk e t d=>∃(x:Nat) (v:Value) (l:List (List Nat)),x<=8/\8-x=k/\e=[(2, sb h.next),(6,v),(7, .slice (some ⟨S,oi,none⟩) im.length U),(8, zc (i:Nat)),(9, sb q),(11, zc (z:Nat)),(12, zc (y:Nat)),(13, zc (x:Nat))]/\t=[]/\Ext Q d∧Own B.next d 8 v l.length (ssL l)/\PlI a im i z y x l)
     ⟨0,_,l,by omega,rfl,rfl,rfl,f,r,j⟩ ?_
    clear r j f N;rintro k e t K ⟨x,v,l,dv,rfl,rfl,rfl,f,r,j⟩;have N:=(f.old _ kq).trans q3;have V:=(xH.trans f).wf W2;have cd:=(xH.trans f).log.trans a8;by_cases hlex:(x:Int)<=7-D.hi.x
    ·have lx:zp x (7-D.hi.x) true:=eE hlex;have w:=L x y z ⟨hlex,hley,hle⟩;have a7:=(f.old _ (show S<Q.next by omega)).trans Z;have n3:=f.next
     have D3:=EI F.im.rf.tr F.im.rf.f225 (h:={K with log:=[]}) (.of V) hs (x:=(x:Nat)) (y:=(y:Nat)) (z:=(z:Nat)) ⟨by omega,by omega⟩ ⟨by omega,by omega⟩ ⟨by omega,by omega⟩ (g x y z ⟨hlex,hley,hle⟩);have be:=cJ x y z l j;have M:=λq=>A x y z l j ⟨hlex,hley,hle⟩ q;generalize iu (shC x y z) s=ls at*;have eJ:=aV w.len;have eI:=aL w.len;have db:=w.len;have du:=aE l j.pw j.sound;have ba:=j.ok;refine Y14 ?_;refine dw (E0:=[(2, sb h.next),(6,v),(7, .slice (some ⟨S,oi,none⟩) im.length U),(8, zc (i:Nat)),(9, sb q),(11, zc (z:Nat)),(12, zc (y:Nat)),(13, zc (x:Nat)),(14, sb K.next)]) (P:=λd=>Ext K d∧d.next=K.next+1/\d.get K.next=some (qt (us ls))) ?_ ?_
     ·refine Y9 ?_;refine FW.pu D3 ?_;refine Y4 ?_;refine aF (bB (by rfl) (by rfl) YG (by(simp only[aB];assumption)) (by rfl) (by exact bX _)) ?_;refine yM ?_;refine bH ?_;refine y1 ?_;refine⟨rfl,rfl,rfl,(by first|exact dX (by omega) _ _|skip),rfl,?_⟩
      (simp(disch:=first|omega|(simp only[z1,z2];omega))only[z3,z4,z5,z6,z7,z1,z2,Y,Z,q3,N,a7];done)
     clear D3 N a7;rintro G4 ⟨x4,n4,N⟩;have X:=x4.wf V;have dp:=x4.log.trans cd;have I:=f.trans x4;have dj:=((xH.trans I).old _ (by omega)).trans Y;have O:=zO hp F.im.rf.f52 F.im.rf.f140 (h:={G4 with log:=[]}) (.of X) w ha;have D5:=GC F.im.pt (h:={G4 with log:=[]}) (.of X) (lo:=B.next) (by show B.next<=G4.next;have:=(xH.trans I).next;omega) ba ((r.ext x4).log []) (by omega) w;clear hbb;cases hin:sIn ls a with
     |false=>
      rw[hin]at O;refine Y4 ?_;refine FW.pu O ?_;clear O D5;refine Y14 ?_;exact⟨8-(x+1),by omega,x+1,v,l,by omega,rfl,rfl,rfl,I,r.ext x4,be hin⟩
     |true=>
      rw[hin]at O;refine Y4 ?_;refine FW.pu O ?_;clear O;refine Y10 ?_;refine FW.al D5 (λv d m q=>q.log m) ?_;rintro v5 G5 x5 q5;clear D5;refine yM ?_;refine bH ?_;refine Y8 ?_;exact⟨8-(x+1),by omega,x+1,v5,_,by omega,rfl,rfl,rfl,I.trans x5,q5,M hin⟩
    ·have lx:zp x (7-D.hi.x) false:=ew (by omega);refine Y21 ?_;exact⟨8-(y+1),by omega,y+1,v,l,by omega,rfl,rfl,rfl,f,r,am x y z l j hlex⟩
   ·have ly:zp y (7-D.hi.y) false:=ew (by omega);refine Y21 ?_;exact⟨8-(z+1),by omega,z+1,v,l,by omega,rfl,rfl,rfl,f,r,ar y z l j hley⟩
  ·have lz:zp z (7-D.hi.z) false:=ew (by omega);refine Y21 ?_;exact⟨im.length-(i+1),by omega,i+1,v,l,by omega,rfl,rfl,rfl,xH.trans f,r,aw z l j hle⟩
 ·obtain rfl:i=im.length:=by omega
  have cX:zd im.length im.length false:=cS (by omega);have e:=ae l j;subst e;refine Y19 ?_;exact dN cf rfl ⟨_,rfl,r.low (by omega)⟩
theorem aK.we(s:aK h sz v n cs)(e:h.next<=h'.next)(d:∀z,z<h.next->h'.get z=h.get z):aK h' sz v n cs:=by
 cases s with
 |nil=>exact .nil
 |mem s hc=>
  obtain⟨f,a,t,b,c⟩:=s.obj;exact .mem ⟨kz s.lt e,⟨f,a,t,(d _ s.lt).trans b,c⟩,s.len⟩ hc
theorem Qs(f:List Nat)(k:Nat):fL (f++[k])=fL f++[.int .u8 (k:Nat)]:=by simp[fL]
def oC(w:List Nat×List Nat)(ps:List (List Nat)):List (List Nat):=ps.foldl (λl p=>pJ l (eU p w.1)) []
theorem za(w:List Nat×List Nat)(ps:List (List Nat))(p:List Nat):oC w (ps++[p])=pJ (oC w ps) (eU p w.1):=by
 unfold oC;rw[D4];rfl
theorem vC{w:List Nat×List Nat}(g:IsW w):∀n:Nat,∀ps:List (List Nat),ps.length=n->(∀p∈ps,IsS p)->(∀s∈oC w ps,IsS s)/\(oC w ps).Pairwise SLt/\(oC w ps).length<=n/\∀q,q∈oC w ps↔ ∃p∈ps,eU p w.1=q
 |0,ps,hn,_=>by
  obtain rfl:ps=[]:=List.length_eq_zero_iff.1 hn;exact⟨λs k=>(by cases k), .nil,bl _,λq=>⟨λh=>(by cases h),λ⟨p,h,_⟩=>(by cases h)⟩⟩
 |n+1,ps,hn,hok=>by
  have c:ps≠[]:=λe=>by rw[e]at hn;cases hn
  have e:=List.dropLast_concat_getLast c;have hl:ps.dropLast.length=n:=by rw[List.length_dropLast];omega
  have l:=hok _ (List.getLast_mem c);have j:∀p∈ps.dropLast,IsS p:=λp b=>hok p ((List.dropLast_sublist ps).subset b);generalize ps.getLast c=x at*;generalize ps.dropLast=d at*;subst e;obtain⟨h1,h2,m,i⟩:=vC g n d hl j;rw[za];have f:=l.less g.a;refine⟨Ct h1 f,It h1 f h2,ed (E7 _ _) (by omega),λq=> ?_⟩;rw[E6,i];constructor
  ·rintro(rfl|⟨p,b,rfl⟩)
   ·exact⟨x,by simp,rfl⟩
   ·exact⟨p,Cl _ b,rfl⟩
  ·rintro⟨p,b,rfl⟩;rcases List.mem_append.1 b with b|b
   ·exact .inr ⟨p,b,rfl⟩
   ·exact .inl (by rw[List.mem_singleton.1 b])
theorem Nw(a:IsW w)(o:List Nat):oC w (lU w.2 o)=nj w o:=by
 obtain⟨h1,h2,_,b⟩:=vC a _ (lU w.2 o) rfl λp c=>pH c;exact zY h1 (λs d=>uI a d) h2 (EK a o) λx=>by rw[b,AY]
def lbS(l:List (List Nat))(i:Nat)(x:List Nat)(n:Nat):Bool:=(List.range n).all λk=> !(!decide (k=i)&&sIn (l.getD k []) x)
theorem ML(l:List (List Nat))(i:Nat)(x:List Nat)(n:Nat):lbS l i x (n+1)=(lbS l i x n&& !(!decide (n=i)&&sIn (l.getD n []) x)):=by
 unfold lbS;rw[PH,Kd];simp
theorem yh{y:List Nat}(h:l[k]? =some y):l.getD k []=y:=by rw[gk,h];rfl
theorem QK(m:l.Pairwise SLt)(hi:l[i]? =some x):lbS l i x l.length= !ni l x:=by
 have c:∀k y,l[k]? =some y->(k=i↔y=x):=λk y a=>by
  constructor
  ·rintro rfl;rw[hi]at a;cases a;rfl
  ·rintro rfl;obtain⟨f,g⟩:=List.getElem?_eq_some_iff.1 hi;obtain⟨h,j⟩:=List.getElem?_eq_some_iff.1 a;rcases Nat.lt_trichotomy k i with q|q|q
   ·have:=List.pairwise_iff_getElem.1 m k i h f q;rw[g,j]at this;exact absurd this (mU _)
   ·exact q
   ·have:=List.pairwise_iff_getElem.1 m i k f h q;rw[g,j]at this;exact absurd this (mU _)
 cases hm:ni l x with
 |true=>
  unfold ni at hm;obtain⟨y,b,h2⟩:=List.any_eq_true.1 hm;rw[dk,Hn,decide_eq_false_iff_not]at h2;obtain⟨k,a⟩:=List.getElem?_of_mem b;have d:=(List.getElem?_eq_some_iff.1 a).1;unfold lbS;rw[Hd,P2];refine⟨k,List.mem_range.2 d,?_⟩;rw[yh a,h2.2,decide_eq_false (λq=>h2.1 ((c k y a).1 q))];simp
 |false=>
  unfold ni at hm;unfold lbS;rw[I0,GE];intro k a;obtain⟨y,b⟩:∃y,l[k]? =some y:=⟨l[k]'(List.mem_range.1 a),a6 _⟩;rw[yh b];have:=List.any_eq_false.1 hm y (bz b);by_cases e:k=i
  ·rw[decide_eq_true e];rfl
  ·rw[decide_eq_false e];rw[decide_eq_false (λq=>e ((c k y b).2 q))]at this;cases hs:sIn y x with
   |false=>rfl
   |true=>rw[hs]at this;exact absurd rfl this
structure Tj (T:Nat->Option an):Prop where
 rp:Tk T
 f95:T 70=some f95
theorem OH(F:Tj T)(hr:Rdy h)(f:IsW w){o:List Nat}(ho:IsS o)(cd:¬o=s0):Al T 70 [wV w,sv o] h λv j=>Own h.next j 8 v (dZ w o).length (ssL (dZ w o)):=by
 have hp:=F.rp.im.pt.p;refine .of hp F.f95 hr (λv h1 O q=>Own.Ee O q) ?_;have cf:cellsOf (wV w)=wL w:=by show(wL w).toArray.toList=_;simp
 have g0:((h.push (qt (cellsOf (wV w)))).push (qt (cellsOf (sv o)))).get h.next=some (qt (wL w)):=by rw[cf];exact(z4 (ec _)).trans (z3 h _)
 have g1:((h.push (qt (cellsOf (wV w)))).push (qt (cellsOf (sv o)))).get (h.next+1)=some (qt (us o)):=z3 _ _;have n0:((h.push (qt (cellsOf (wV w)))).push (qt (cellsOf (sv o)))).next=h.next+2:=rfl
 have x0:Ext h ((h.push (qt (cellsOf (wV w)))).push (qt (cellsOf (sv o)))):=((Ext.refl h).push _).push _;refine Y5 ?_;generalize((h.push (qt (cellsOf (wV w)))).push (qt (cellsOf (sv o))))=H at*;have W:=x0.wf hr.wf;have hL:=x0.log.trans hr.log;have wk:=jR f;have eh:=ic f;have wa:=Dg f;have wb:=Dh f;have e9:=aL f.a.len;have eg:=aL f.b.len;have k8:=aL ho.len;have k9:=aV ho.len;have C1:=GW F.rp (h:={H with log:=[]}) (.of W) f.b ho cd;have t:∀x∈lU w.2 o,IsS x:=λx z=>pH z;have dv:=uM w.2 o;have E:=Nw f o;have U:=EK f o;have n:∀x∈nj w o,IsS x:=λx z=>uI f z;have dp:=vA w o;unfold dZ;generalize nj w o=r at*;generalize lU w.2 o=ps at*;refine Y5 ?_;refine FW.al C1 (λv j m ⟨u,e,q⟩=>⟨u,e,q.log m⟩) ?_;rintro _ I x2 ⟨u,rfl,q2⟩;have q2:Own H.next I 8 u ps.length (ssL ps):=q2
 clear C1 g1;have am:=x0.trans x2;have W2:=am.wf hr.wf;have aw:=x2.log.trans hL;have n2:=x2.next
 have J:=(x2.old _ (by omega)).trans g0;have sp:SsQ I u ps:=⟨q2.slice (by omega),t⟩;obtain⟨a,c,rfl⟩:=sp.sl.form;clear g0 q2;refine Y14 ?_
 refine bg (λm e C j=>∃(i:Nat) (v:Value),i<=ps.length/\ps.length-i=m/\e=[(2, sb h.next),(5, .slice a ps.length c),(7,v),(8, zc (i:Nat))]/\C=[]/\Ext I j∧Own I.next j 8 v (oC w (ps.take i)).length (ssL (oC w (ps.take i))))
  ⟨0,_,gK _,rfl,rfl,rfl, .refl I, .nil⟩ ?_
 rintro m e C G ⟨i,v,hi,rfl,rfl,rfl,S,A⟩;have WG:=S.wf W2;have ba:=S.log.trans aw;have nG:=S.next
 have K:=(S.old _ (by omega)).trans J;by_cases hlt:i<ps.length
 ·obtain⟨p,L⟩:∃s,ps[i]? =some s:=⟨ps[i],a6 hlt⟩;have M:=t p (bz L);have bo:=M.less f.a;have dC:=aL M.len;obtain⟨bi,oi,c2,vs,a8,tt,O,gl,V,el⟩:=(sp.ext S).elem L;cases O;have cX:zd i ps.length true:=cH (by omega);have N:oC w (ps.take (i+1))=pJ (oC w (ps.take i)) (eU p w.1):=by rw[eD L,za]
  obtain⟨X,_,bj,_⟩:=vC f _ (ps.take i) rfl λx z=>t x (wy z);rw[lp]at bj;generalize oC w (ps.take i)=l at*;have D1:=zQ hp F.rp.im.rf.f140 (h:={G with log:=[]}) (.of WG) M f.a;have D2:=GC F.rp.im.pt (h:={G with log:=[]}) (.of WG) (lo:=I.next) (by show I.next<=G.next;omega) X (A.log []) (by omega) bo;generalize eU p w.1=lx at*;obtain⟨av,cv,rfl⟩:∃a c,v= .slice a l.length c:=(A.slice (by omega)).form;refine Y21 ?_;refine FW.puD D1 (by(repeat apply aC rfl);apply aG rfl (aq rfl (dx (by rfl)) (by exact dG _ _ _)) rfl;exact aQ) ?_;clear D1;skip;refine qC ?_;refine FW.alD D2 (λv j m q=>q.log m) ?_;rintro v5 G5 x5 q5;clear D2;have dj:=(x5.old _ V).trans gl;have db:=(x5.old _ (show h.next<G.next by omega)).trans K;clear gl K J;refine⟨_,by apply aC rfl;exact aQ,?_⟩;refine Y10 ?_;exact⟨ps.length-(i+1),by omega,i+1,v5,by omega,rfl,rfl,rfl,S.trans x5,by rw[N];exact q5⟩
 ·obtain rfl:i=ps.length:=by omega
  rw[hP,E]at A;have cX:zd ps.length ps.length false:=cS (by omega);have sr:SsQ G v r:=⟨A.slice (by omega),n⟩;obtain⟨a2,c2,rfl⟩:=sr.sl.form;clear E sp A J K;refine Y21 ?_
  refine bg (λm e C j=>∃(i:Nat) (v:Value),i<=r.length/\r.length-i=m/\e=[(7, .slice a2 r.length c2),(9,v),(10, zc (i:Nat))]/\C=[]/\Ext G j∧Own G.next j 8 v ((r.take i).filter λx=> !ni r x).length (ssL ((r.take i).filter λx=> !ni r x)))
   ⟨0,_,gK _,rfl,rfl,rfl, .refl G, .nil⟩ ?_
  rintro m e C Q ⟨i,v,du,rfl,rfl,rfl,P,A⟩;have W3:=P.wf WG;have aE:=P.log.trans ba;have n3:=P.next
  by_cases hlt:i<r.length
  ·obtain⟨x,z⟩:∃s,r[i]? =some s:=⟨r[i],a6 hlt⟩;have g:=n x (bz z);have B:=uV z (λx=> !ni r x);have be:=QK U z;have dE:=aL g.len;have cj:=aV g.len;obtain⟨b,o1,c3,vs,a8,tt,O,gl,V,el⟩:=(sr.ext P).elem z;cases O;have dq:((r.take i).filter λx=> !ni r x).length<=r.length:=ed (PP ..) (by rw[lp];omega);generalize((r.take i).filter λx=> !ni r x)=out at*;have a7:zd i r.length true:=cH (by omega);refine Y20 ?_
   refine bg (λm e C j=>∃k:Nat,k<=r.length/\r.length-k=m/\e=[(7, .slice (some ⟨b,o1,none⟩) r.length c2),(9,v),(10, zc (i:Nat)),(11, .bool (lbS r i x k)),(12, zc (k:Nat))]/\C=[]/\Q=j)
    ⟨0,gK _,rfl,rfl,rfl,rfl⟩ ?_
   rintro m e C j ⟨k,hk,rfl,rfl,rfl,rfl⟩;by_cases hkl:k<r.length
   ·obtain⟨y,hy⟩:∃s,r[k]? =some s:=⟨r[k],a6 hkl⟩;have Z:=n y (bz hy);have dT:=aL Z.len;have d:=ML r i x k;rw[yh hy]at d;obtain⟨b2,o2,c3,d8,ae,cY,O,ar,d9,da⟩:=(sr.ext P).elem hy;cases O;obtain⟨rfl,rfl,rfl⟩:d8=vs/\ae=a8/\cY=tt:=by
     have e:=ar.symm.trans gl;injection e with e
     injection e with e1 e2 e3
     exact⟨e1,e2,e3⟩
    have cJ:zd k r.length true:=cH (by omega);by_cases hki:k=i
    ·have mn:zB k i false:=qE (by omega);rw[decide_eq_true hki,Hd,A1,I0,AC]at d;refine Y40 ?_;exact⟨r.length-(k+1),by omega,k+1,by omega,rfl,by rw[d],rfl,rfl⟩
    ·have mn:zB k i true:=jr (by omega);rw[decide_eq_false hki,I0,wd]at d;have D:=zO hp F.rp.im.rf.f52 F.rp.im.rf.f140 (h:={Q with log:=[]}) (.of W3) Z g;cases hin:sIn y x with
     |true=>
      rw[hin]at D d;rw[Hd,IH]at d;refine Y27 ?_;refine FW.puD D (by(repeat apply aC rfl);exact aQ) ?_;clear D;refine Y7 ?_;refine bH ?_;refine Y8 ?_;exact⟨r.length-(k+1),by omega,k+1,by omega,rfl,by rw[d],rfl,rfl⟩
     |false=>
      rw[hin]at D d;rw[I0,AC]at d;refine Y27 ?_;refine FW.puD D (by(repeat apply aC rfl);exact aQ) ?_;clear D;refine Y13 ?_;exact⟨r.length-(k+1),by omega,k+1,by omega,rfl,by rw[d],rfl,rfl⟩
   ·obtain rfl:k=r.length:=by omega
    have cJ:zd r.length r.length false:=cS (by omega);rw[be];cases hm:ni r x with
    |true=>
     rw[hm,Hd,if_neg (by simp),md]at B;rw[Hd];refine Y25 ?_;exact⟨r.length-(i+1),by omega,i+1,v,by omega,rfl,rfl,rfl,P,by rw[B];exact A⟩
    |false=>
     rw[hm,I0,if_pos rfl]at B;rw[I0];have Y:ssL [x]=us x:=by simp[ssL]
     refine Y23 ?_;refine aF (mG (BP g (by rfl)) (show bM (aI 8 (Value.int IntKind.u64 0))=8 from rfl)) ?_;skip;refine uZ (lo:=G.next) (c1:=us x) (A.ext ((Ext.refl Q).push _)) (by omega) (by omega) (by omega) (by show G.next<=Q.next+1;omega) (by omega) (by rfl) (by rfl) (gw (cs:=us x) (z3 Q _) cj (by rw[aB,g.len])) (by rw[aB,g.len]) (bX _) ?_;intro v2 h9 o9 x9;refine yM ?_;refine bH ?_;refine Y8 ?_;refine⟨r.length-(i+1),by omega,i+1,v2,by omega,rfl,rfl,rfl,((P.lx (bl _)).trans ((((Ext.refl Q).push _).lx (by omega)).trans x9)).ext,?_⟩;rw[B,pN,Y,eA];exact o9
  ·obtain rfl:i=r.length:=by omega
   have a7:zd r.length r.length false:=cS (by omega);rw[hP]at A;refine Y18 ?_;exact dN aE rfl (A.low (by omega))
theorem uv{α:Type}{p q:α->Bool}(h:∀x,q x=true->p x=true):∀l:List α,(l.filter λx=>p x&& !q x).length+(l.filter q).length=(l.filter p).length
 |[]=>rfl
 |x::l=>by
  have ih:=uv h l;rw[In,In,In];cases hq:q x with
  |true=>rw[h x hq];simp only[Hd,IH,if_true,me];rw[if_neg (by simp)];omega
  |false=>
   cases hp:p x with
   |true=>rw[if_pos (by rfl),if_neg (by simp),if_pos rfl,me,me];omega
   |false=>rw[if_neg (by simp),if_neg (by simp),if_neg (by simp)];exact ih
theorem LH(d:IsS a)(hb:IsS b)(h:sIn a b=true):gX (eU b a)+gX a=gX b:=by
 have e:=(mj d hb).1 h;unfold gX aX;rw[←uv (p:=eO b) (q:=eO a) e];congr 2;refine Hm λc _=> ?_;exact Bg hb d c
structure KG (T:Nat->Option an):Prop where
 rn:Tj T
 rs:Tl T
 f94:T 28=some f94
 f198:T 69=some f198
theorem Rx(F:KG T)(hr:Rdy h)(c:IsW w):Pu T 69 [wV w] h (sv (eU w.2 w.1)):=by
 have i:=F.rn.rp.im.pt.p;refine .of i F.f198 hr (pP _) ?_;have e:cellsOf (wV w)=wL w:=by show(wL w).toArray.toList=_;simp
 have o:((h.push (qt (cellsOf (wV w)))).push (qt (aI 8 (.int .u64 0)))).get h.next=some (qt (wL w)):=by rw[e];exact(z4 (ec _)).trans (z3 h _)
 have q:((h.push (qt (cellsOf (wV w)))).push (qt (aI 8 (.int .u64 0)))).get (h.next+1)=some (qt (us s0)):=z3 _ _;have r:((h.push (qt (cellsOf (wV w)))).push (qt (aI 8 (.int .u64 0)))).next=h.next+2:=rfl
 have j:Ext h ((h.push (qt (cellsOf (wV w)))).push (qt (aI 8 (.int .u64 0)))):=((Ext.refl h).push _).push _;refine Y4 ?_;generalize((h.push (qt (cellsOf (wV w)))).push (qt (aI 8 (.int .u64 0))))=H at*;have W:=j.wf hr.wf;have k:=j.log.trans hr.log;have t:=Dg c;have u:=Dh c;have m:=aL c.a.len;have n:=aL c.b.len;have d:=c.b.less c.a;have C:=zQ i F.rn.rp.im.rf.f140 (h:={H with log:=[]}) (.of W) c.b c.a;generalize eU w.2 w.1=ls at*;have f:=aL d.len;have g:=aV d.len;have l:=d.len;refine Y6 ?_;refine FW.pu C ?_;refine aF (bB (by rfl) (by rfl) (by assumption) (by(simp only[aB];assumption)) (by rfl) (by exact bX _)) ?_;refine y3 ?_;refine nT ?_;refine ah ?_ (bS (own:=true) (s:=1) rfl ?_ g f rfl) rfl
 ·rw[Heap.au (by show h.next<=h.next+1;omega)];exact k
 ·exact YG
theorem M1(F:KG T)(hr:Rdy h)(c:IsW w)(f:sIn w.1 w.2=true):Pu T 28 [wV w] h (zc (if pX w then 82 else 0)):=by
 have k:=F.rn.rp.im.pt.p;refine .of k F.f94 hr rfl ?_;have g:cellsOf (wV w)=wL w:=by show(wL w).toArray.toList=_;simp
 have o:(h.push (qt (cellsOf (wV w)))).get h.next=some (qt (wL w)):=by rw[g];exact z3 h _
 have W:WF (h.push (qt (cellsOf (wV w)))):=hr.wf.push _;have i:(h.push (qt (cellsOf (wV w)))).log=[]:=hr.log;refine Y4 ?_;generalize(h.push (qt (cellsOf (wV w))))=H at*;have s:=jR c;have m:=ic c;have d:=Rx F (h:={H with log:=[]}) (.of W) c;have e:=HK F.rn.rp.im.rf.tr.cr F.rn.rp.im.rf.f84 (h:={H with log:=[]}) (.of W) (c.b.less c.a);have r:=LH c.a c.b f;have j:pX w=decide (64<gX (eU w.2 w.1)):=by
  unfold pX;by_cases q:64<gX (eU w.2 w.1)
  ·rw[decide_eq_true q,decide_eq_true (by omega)]
  ·rw[decide_eq_false q,decide_eq_false (by omega)]
 rw[j];generalize gX (eU w.2 w.1)=n at*;by_cases q:64<n
 ·have l:zs n 64 true:=dY (by omega);rw[if_pos (by rw[decide_eq_true q])];refine Y4 ?_;refine FW.pu d ?_;clear d;skip;refine yC ?_;refine FW.pu e ?_;clear e;refine Y8 ?_;exact ah i rfl rfl
 ·have l:zs n 64 false:=fu (by omega);rw[if_neg (by rw[decide_eq_false q];simp)];refine Y4 ?_;refine FW.pu d ?_;clear d;skip;refine yC ?_;refine FW.pu e ?_;clear e;refine Y9 ?_;exact ah i rfl rfl
def Ek(l:List Nat):Bool:=l.any λk=>decide (k=3)
theorem Tu{l:List Nat}(h:l[i]? =some k):(fL l)[i]? =some (.int .u8 (k:Nat)):=by simp[fL,h]
structure Dt (T:Nat->Option an):Prop where
 p:aM T
 f52:T 78=some f52
 f53:T 68=some f53
 f112:T 40=some f112
 f113:T 41=some f113
 f115:T 43=some f115
 f118:T 76=some f118
 f140:T 105=some f140
 f208:T 77=some f208
theorem J2(F:Dt T)(hr:Rdy h){l:List Pb}(s:PbS h v l)(K:l.length<1000000):Pu T 68 [v] h (zc (prE l)):=by
 refine .of F.p F.f53 hr rfl ?_;obtain⟨a,c,rfl⟩:=s.form;have x:=hr.log;unfold prE;by_cases h8:8<l.length
 ·have E:zs l.length 8 true:=dY (by omega);rw[if_pos h8];refine Y15 ?_;exact ah x rfl rfl
 rw[if_neg h8];have E:zs l.length 8 false:=fu (by omega);refine Y17 ?_
 refine bg (λm e A B=>∃i:Nat,i<=l.length/\l.length-i=m/\e=[(0, .slice a l.length c),(3, zc (i:Nat))]/\A=[]/\h=B∧(l.take i).any kj=false)
  ⟨0,gK _,rfl,rfl,rfl,rfl,rfl⟩ ?_
 rintro m e A _ ⟨i,J,rfl,rfl,rfl,rfl,j⟩;by_cases hlt:i<l.length
 ·obtain⟨p,k⟩:∃r,l[i]? =some r:=⟨l[i],a6 hlt⟩;have w:=bz k;have f:=s.ok p w;obtain⟨b,o,H,O,G,t,D,gl,I,n⟩:=s.elem k;cases D;have L:=n.cells;have M:=aL f.len;have N:=n.cost;have z:zd i l.length true:=cH (by omega);have C:=Mv F.p F.f113 (h:={h with log:=[]}) (.of hr.wf) p.cost 1 1000;have y:(l.take (i+1)).any kj=((l.take i).any kj||kj p):=by
   obtain⟨u,rfl⟩:=List.getElem?_eq_some_iff.1 k;rw[vy u,HG];simp
  have g:kj p=true->l.any kj=true:=λq=>List.any_eq_true.2 ⟨p,w,q⟩;have d:kj p=(decide (p.cells=s0)|| !inR p.cost 1 1000):=rfl;generalize inR p.cost 1 1000=b2 at*;by_cases hz:p.cells=s0
  ·rw[decide_eq_true hz,So]at d;rw[if_pos (g d)];refine Y19 ?_;refine aF (jy (b:=s0) (by rfl) (by rfl) f.len rfl) ?_;rw[decide_eq_true hz];refine Y20 ?_;exact ah x rfl rfl
  ·rw[decide_eq_false hz,If]at d;cases b2 with
   |false=>
    rw[if_pos (g d)];refine Y19 ?_;refine aF (jy (b:=s0) (by rfl) (by rfl) f.len rfl) ?_;rw[decide_eq_false hz];refine Y13 ?_;refine FW.pu C ?_;refine Y14 ?_;exact ah x rfl rfl
   |true=>
    refine Y19 ?_;refine aF (jy (b:=s0) (by rfl) (by rfl) f.len rfl) ?_;rw[decide_eq_false hz];refine Y13 ?_;refine FW.pu C ?_;refine Y13 ?_;exact⟨l.length-(i+1),by omega,i+1,by omega,rfl,rfl,rfl,rfl,by rw[y,j,d];rfl⟩
 ·obtain rfl:i=l.length:=by omega
  have z:zd l.length l.length false:=cS (by omega);rw[hP]at j;rw[if_neg (by rw[j];simp)];refine Y17 ?_;exact ah x rfl rfl
theorem T9(fs:List Int)(n:Nat):(Qy fs n).2=(decide (fs.length=n)&&qX fs):=by
 unfold Qy;split
 ·rename_i h;rcases h with q|q
  ·rw[decide_eq_false (by omega),A1]
  ·rw[q,IH]
 ·rename_i h;cases q:qX fs with
  |false=>exact absurd (.inr q) h
  |true=>rw[AC]
variable{fs:List Int}
theorem JZ(F:Dt T)(hr:Rdy h){l:List Pb}(I:PbS h u l)(w:aK h 1 v fs.length (ints fs))(D:fs.length<1000000):Pu T 40 [u,v] h (zc (if(Qy fs l.length).2 then 0 else 1)):=by
 refine .of F.p F.f112 hr rfl ?_;obtain⟨a,c,rfl⟩:=I.form;obtain⟨y,z,rfl⟩:=w.form;have j:=hr.log;rw[T9];by_cases he:fs.length=l.length
 ·have G:zB fs.length l.length false:=qE (by omega);rw[decide_eq_true he,wd];refine Y19 ?_
  refine bg (λm e t A=>∃i:Nat,i<=fs.length/\fs.length-i=m/\e=[(1, .slice y fs.length z),(5, zc (i:Nat))]/\t=[]/\h=A∧qX (fs.take i)=true)
   ⟨0,gK _,rfl,rfl,rfl,rfl,rfl⟩ ?_
  rintro m e t _ ⟨i,L,rfl,rfl,rfl,rfl,d⟩;by_cases hlt:i<fs.length
  ·obtain⟨x,n⟩:∃s,fs[i]? =some s:=⟨fs[i],a6 hlt⟩;obtain⟨b,o,J,N,H,M,E,gl,B,K⟩:=wE w (ints_at n);cases E;have r:zd i fs.length true:=cH (by omega);have C:=Mv F.p F.f113 (h:={h with log:=[]}) (.of hr.wf) x 0 2;have g:qX (fs.take (i+1))=(qX (fs.take i)&&inR x 0 2):=by
    obtain⟨f,rfl⟩:=List.getElem?_eq_some_iff.1 n;unfold qX;rw[vy f,Kd];simp
   have k:inR x 0 2=false->qX fs=false:=λq=>by
    unfold qX;rw[P2];exact⟨x,bz n,by rw[q];simp⟩
   cases hin:inR x 0 2 with
   |false=>
    rw[hin]at C;rw[k hin,if_neg (by simp)];refine Y18 ?_;refine FW.pu C ?_;refine Y12 ?_;exact ah j rfl rfl
   |true=>
    rw[hin]at C g;refine Y18 ?_;refine FW.pu C ?_;refine Y11 ?_;exact⟨fs.length-(i+1),by omega,i+1,by omega,rfl,rfl,rfl,rfl,by rw[g,d];rfl⟩
  ·obtain rfl:i=fs.length:=by omega
   have r:zd fs.length fs.length false:=cS (by omega);rw[hP]at d;rw[d,if_pos rfl];refine Y17 ?_;exact ah j rfl rfl
 ·have G:zB fs.length l.length true:=jr (by omega);rw[decide_eq_false he,A1,if_neg (by simp)];refine Y17 ?_;exact ah j rfl rfl
theorem Ii(h:qX fs=true){x:Int}(a:fs[i]? =some x):∃k:Nat,x=(k:Int)/\k<=2:=by
 have:=List.all_eq_true.1 h x (bz a);have:=of_decide_eq_true this;exact⟨x.toNat,by omega,by omega⟩
theorem PU{l:List Pb}{p:Pb}(b:l[i]? =some p)(a:fs[i]? =some ((k:Nat):Int)):(zsF l fs)[i]? =some (p,k):=Hl b (by rw[xc,a];rfl)
theorem IT{l:List Pb}(h:fs.length=l.length):(zsF l fs).length=l.length:=by
 unfold zsF;rw[List.length_zip,hS];omega
theorem PV{l:List Pb}(h:∀p∈l,IsS p.cells):∀x∈zsF l fs,IsS x.1.cells:=vP h
def trQ(t:List Nat)(x:Pb×Nat):Bool:= !((decide (x.2=1)&& !sIn x.1.cells t)||(decide (x.2=2)&&sIn x.1.cells t))
theorem VA(w:List Nat×List Nat)(z:Zs)(t:List Nat):trB w z t=(sIn w.1 t&&sIn t w.2&&z.all (trQ t)):=rfl
variable{pv:Value}
theorem FE(F:Dt T)(hr:Rdy h)(u:IsW w){l:List Pb}(U:PbS h pv l)(hl:l.length<1000000)(sf:aK h 1 v fs.length (ints fs))(K:fs.length=l.length)(L:qX fs=true)(D:IsS s):
 Pu T 77 [wV w,pv,v,sv s] h (.bool (trB w (zsF l fs) s)):=by
 refine .of F.p F.f208 hr rfl ?_;have N:cellsOf (wV w)=wL w:=by show(wL w).toArray.toList=_;simp
 obtain⟨a,c,rfl⟩:=U.form;obtain⟨a2,c2,rfl⟩:=sf.form;have I:Ext h ((h.push (qt (cellsOf (wV w)))).push (qt (cellsOf (sv s)))):=((Ext.refl h).push _).push _;have g0:((h.push (qt (cellsOf (wV w)))).push (qt (cellsOf (sv s)))).get h.next=some (qt (wL w)):=by rw[N];exact(z4 (ec _)).trans (z3 h _)
 have g1:((h.push (qt (cellsOf (wV w)))).push (qt (cellsOf (sv s)))).get (h.next+1)=some (qt (us s)):=z3 _ _;have n0:((h.push (qt (cellsOf (wV w)))).push (qt (cellsOf (sv s)))).next=h.next+2:=rfl
 refine Y5 ?_;generalize((h.push (qt (cellsOf (wV w)))).push (qt (cellsOf (sv s))))=H at*;have W:=I.wf hr.wf;have z:=I.log.trans hr.log;have wa:=Dg u;have wb:=Dh u;have aw:=aL u.a.len;have aE:=aL u.b.len;have k8:=aL D.len;have k9:=aV D.len;have n:=zO F.p F.f52 F.f140 (h:={H with log:=[]}) (.of W) u.a D;have y:=zO F.p F.f52 F.f140 (h:={H with log:=[]}) (.of W) D u.b;rw[VA];cases h1:sIn w.1 s with
 |false=>
  rw[h1]at n;refine Y6 ?_;refine FW.pu n ?_;refine Y15 ?_;exact ah z rfl rfl
 |true=>
 rw[h1]at n;cases h2:sIn s w.2 with
 |false=>
  rw[h2]at y;refine Y6 ?_;refine FW.pu n ?_;refine Y10 ?_;refine FW.pu y ?_;refine Y10 ?_;exact ah z rfl rfl
 |true=>
 rw[h2]at y;rw[wd,wd];have P:=IT K;have V:=U.ext I;have S:=sf.ext I;refine Y6 ?_;refine FW.pu n ?_;refine Y10 ?_;refine FW.pu y ?_;clear n y;refine Y12 ?_
 refine bg (λm e X h'=>∃i:Nat,i<=l.length/\l.length-i=m/\e=[(1, .slice a l.length c),(2, .slice a2 fs.length c2),(7, sb (h.next+1)),(9, zc (i:Nat))]/\X=[]/\H=h'∧((zsF l fs).take i).all (trQ s)=true)
  ⟨0,gK _,rfl,rfl,rfl,rfl,rfl⟩ ?_
 rintro m e X _ ⟨i,hi,rfl,rfl,rfl,rfl,f⟩;by_cases hlt:i<l.length
 ·obtain⟨p,j⟩:∃r,l[i]? =some r:=⟨l[i],a6 hlt⟩;have B:=U.ok p (bz j);obtain⟨b,o,c3,vs,am,t,M,gl,hb,J⟩:=V.elem j;cases M;obtain⟨x,O⟩:∃s,fs[i]? =some s:=⟨fs[i]'(by omega),a6 _⟩;obtain⟨k,rfl,hk⟩:=Ii L O;obtain⟨b2,o2,c4,ar,Z,t2,M,a8,ae,a7⟩:=wE S (ints_at O);cases M;have k1:=J.cells;have k2:=aL B.len;have Q:zd i l.length true:=cH (by omega);have C:=zO F.p F.f52 F.f140 (h:={H with log:=[]}) (.of W) B D;have Y:=PU j O;have g:((zsF l fs).take (i+1)).all (trQ s)=(((zsF l fs).take i).all (trQ s)&&trQ s (p,k)):=by rw[IK Y,Kd];simp
  have A:trQ s (p,k)=false->(zsF l fs).all (trQ s)=false:=λq=>by rw[P2];exact⟨_,bz Y,by rw[q];simp⟩
  have d:trQ s (p,k)= !((decide (k=1)&& !sIn p.cells s)||(decide (k=2)&&sIn p.cells s)):=rfl;generalize trQ s (p,k)=tq at*;have E:af .eql (zc (k:Nat)) (zc 1)=some (.bool (decide (k=1))):=sJ (c:=1) rfl;have G:af .eql (zc (k:Nat)) (zc 2)=some (.bool (decide (k=2))):=sJ (c:=2) rfl;cases hin:sIn p.cells s with
  |true=>
   rw[hin]at C d;by_cases hk2:k=2
   ·rw[decide_eq_true hk2,decide_eq_false (show¬k=1 by omega)]at d;rw[decide_eq_false (show¬k=1 by omega)]at E;rw[decide_eq_true hk2]at G;rw[A d];refine Y21 ?_;refine FW.puD C (by(repeat apply aC rfl);exact aQ) ?_;refine Y40 ?_;refine Y3 ?_;exact ah z rfl rfl
   ·rw[decide_eq_false hk2,Hd,IH]at d;rw[decide_eq_false hk2]at G;by_cases hk1:k=1
    ·rw[decide_eq_true hk1]at E;refine Y21 ?_;refine FW.puD C (by(repeat apply aC rfl);exact aQ) ?_;refine Y40 ?_;refine Y3 ?_;exact⟨l.length-(i+1),by omega,i+1,by omega,rfl,rfl,rfl,rfl,by rw[g,f,d];rfl⟩
    ·rw[decide_eq_false hk1]at E;refine Y21 ?_;refine FW.puD C (by(repeat apply aC rfl);exact aQ) ?_;refine Y39 ?_;refine Y2 ?_;exact⟨l.length-(i+1),by omega,i+1,by omega,rfl,rfl,rfl,rfl,by rw[g,f,d];rfl⟩
  |false=>
   rw[hin]at C d;by_cases hk1:k=1
   ·rw[decide_eq_true hk1]at E d;rw[A d];refine Y21 ?_;refine FW.puD C (by(repeat apply aC rfl);exact aQ) ?_;refine Y37 ?_;exact ah z rfl rfl
   ·rw[decide_eq_false hk1,A1,IH]at d;rw[decide_eq_false hk1]at E;by_cases hk2:k=2
    ·rw[decide_eq_true hk2]at G;refine Y21 ?_;refine FW.puD C (by(repeat apply aC rfl);exact aQ) ?_;refine Y40 ?_;refine Y2 ?_;exact⟨l.length-(i+1),by omega,i+1,by omega,rfl,rfl,rfl,rfl,by rw[g,f,d];rfl⟩
    ·rw[decide_eq_false hk2]at G;refine Y21 ?_;refine FW.puD C (by(repeat apply aC rfl);exact aQ) ?_;refine Y39 ?_;refine Y2 ?_;exact⟨l.length-(i+1),by omega,i+1,by omega,rfl,rfl,rfl,rfl,by rw[g,f,d];rfl⟩
 ·obtain rfl:i=l.length:=by omega
  have Q:zd l.length l.length false:=cS (by omega);rw[←P,hP]at f;rw[f];refine Y17 ?_;exact ah z rfl rfl
theorem rS(F:Dt T)(hr:Rdy h)(n:IsW w){l:List Pb}(Q:PbS h pv l)(hl:l.length<1000000)(sf:aK h 1 v fs.length (ints fs))(D:fs.length=l.length)(J:qX fs=true):
 Pu T 43 [wV w,pv,v] h (.tuple #[sv (bsS w.1 (zsF l fs)), .bool (bsB w (zsF l fs))]):=by
 refine .of F.p F.f115 hr (II _ _) ?_;have a7:cellsOf (wV w)=wL w:=by show(wL w).toArray.toList=_;simp
 obtain⟨a,c,rfl⟩:=Q.form;obtain⟨a2,c2,rfl⟩:=sf.form;have S:Ext h ((h.push (qt (cellsOf (wV w)))).push (qt (aI 8 (.int .u64 0)))):=((Ext.refl h).push _).push _;have g0:((h.push (qt (cellsOf (wV w)))).push (qt (aI 8 (.int .u64 0)))).get h.next=some (qt (wL w)):=by rw[a7];exact(z4 (ec _)).trans (z3 h _)
 have g1:((h.push (qt (cellsOf (wV w)))).push (qt (aI 8 (.int .u64 0)))).get (h.next+1)=some (qt (us s0)):=z3 _ _;have n0:((h.push (qt (cellsOf (wV w)))).push (qt (aI 8 (.int .u64 0)))).next=h.next+2:=rfl
 have I:(h.push (qt (cellsOf (wV w)))).next=h.next+1:=rfl
 refine Y5 ?_;generalize((h.push (qt (cellsOf (wV w)))).push (qt (aI 8 (.int .u64 0))))=H at*;rw[I];clear I;have W:=S.wf hr.wf;have hL:=S.log.trans hr.log;have wa:=Dg n;have cf:=aL n.a.len;have wk:=jR n;have cj:=ic n;have be:=n.a.len;have a8:=IT D;have q:=PV (fs:=fs) Q.ok;have O:=Q.ext S;have N:=sf.ext S;refine dw (E0:=[(1, .slice a l.length c),(2, .slice a2 fs.length c2),(3, sb h.next),(6, sb (h.next+1)),(8, sb H.next)]) (P:=λu=>Ext H u∧u.next=H.next+1/\u.get H.next=some (qt (us w.1))) ?_ ?_
 ·refine Y4 ?_;refine aF (bB (by rfl) (by rfl) YG (by(simp only[aB];assumption)) (by rfl) (by exact bX _)) ?_;refine bH ?_;refine y1 ?_;exact⟨rfl,rfl,rfl,dX (by omega) _ _,rfl,YG⟩
 rintro H1 ⟨x1,n1,B⟩;refine Y5 ?_
 refine bg (λm e ds u=>∃i:Nat,i<=l.length/\l.length-i=m/\e=[(1, .slice a l.length c),(2, .slice a2 fs.length c2),(3, sb h.next),(6, sb (h.next+1)),(8, sb H.next),(9, zc (i:Nat))]/\ds=[]/\Ext H u∧u.next=H.next+1/\u.get H.next=some (qt (us (bsS w.1 ((zsF l fs).take i)))))
  ⟨0,gK _,rfl,rfl,rfl,x1,n1,B⟩ ?_
 clear B x1 n1;rintro m e ds G ⟨i,hi,rfl,rfl,rfl,g,nG,B⟩;have WG:=g.wf W;have Z:=g.log.trans hL;have U:=(g.old _ (by omega)).trans g0;have V:=(g.old _ (by omega)).trans g1;have d:IsS (bsS w.1 ((zsF l fs).take i)):=nF n.a λx K=>q x (wy K);by_cases hlt:i<l.length
 ·obtain⟨p,y⟩:∃r,l[i]? =some r:=⟨l[i],a6 hlt⟩;have A:=Q.ok p (bz y);obtain⟨b,o,c3,vs,ar,t,hv,gl,hb,X⟩:=(O.ext g).elem y;cases hv;obtain⟨x,K⟩:∃s,fs[i]? =some s:=⟨fs[i]'(by omega),a6 _⟩;obtain⟨k,rfl,hk⟩:=Ii J K;obtain⟨b2,o2,c4,cd,aw,t2,hv,Y,ba,aE⟩:=wE (N.ext g) (ints_at K);cases hv;have k1:=X.cells;have k2:=aL A.len;have am:zd i l.length true:=cH (by omega);have f:bsS w.1 ((zsF l fs).take (i+1))=bsJ (bsS w.1 ((zsF l fs).take i)) (p,k):=by
   unfold bsS;rw[IK (PU y K),D4];rfl
  generalize bsS w.1 ((zsF l fs).take i)=s at*;have L:=aL d.len;have M:=aV d.len;have ae:=d.len;have mk:af .eql (zc (k:Nat)) (zc 1)=some (.bool (decide (k=1))):=sJ (c:=1) rfl;have C:=Fh F.p F.f118 (h:={G with log:=[]}) (.of WG) d A;unfold bsJ at f;dsimp only at f;by_cases hk1:k=1
  ·rw[decide_eq_true hk1]at mk;rw[if_pos hk1]at f;have E:=d.join A;generalize gM s p.cells=j at*;have bj:=aL E.len;have bo:=E.len;refine Y28 ?_;refine FW.puD C (by(repeat apply aC rfl);exact aQ) ?_;refine jV rfl rfl rfl (by rfl) (by rfl) (by rfl) (by assumption) (by(simp only[aB];assumption)) (by(simp only[aB];assumption)) (by exact bX _) (by omega) (by omega) (by exact aQ) ?_;refine lW ?_;refine y1 ?_;refine MD ?_;refine uA ?_;refine Y5 ?_;refine⟨l.length-(i+1),by omega,i+1,by omega,rfl,rfl,rfl,⟨g.next,?_,?_,?_⟩,nG,?_⟩
   ·rw[Heap.au (by omega)];exact g.log
   ·intro z hz;exact(z5 (by omega)).trans (g.old z hz)
   ·intro wf;exact(g.wf wf).as (AS.wr h.next _ _ _)
   ·rw[f];(simp(disch:=first|omega|(simp only[z1,z2];omega))only[z3,z4,z5,z6,z7,z1,z2,g0,g1,U,V,gl,Y,B];done)
  ·rw[decide_eq_false hk1]at mk;rw[if_neg hk1]at f;refine Y28 ?_;exact⟨l.length-(i+1),by omega,i+1,by omega,rfl,rfl,rfl,g,nG,by rw[f];exact B⟩
 ·obtain rfl:i=l.length:=by omega
  have am:zd l.length l.length false:=cS (by omega);rw[←a8,hP]at B d;have C:=FE F (h:={G with log:=[]}) (.of WG) n ((O.ext g).log []) hl ((N.ext g).log []) D J d;rw[Sv n q]at C;generalize bsB w (zsF l fs)=bb at*;generalize bsS w.1 (zsF l fs)=s at*;have L:=aL d.len;have M:=aV d.len;have ae:=d.len;refine Y21 ?_;refine FW.puD C (by(repeat apply aC rfl);apply aG rfl (aq rfl (bV (by rfl) (by assumption) (by assumption) (by assumption)) (by exact rK _)) rfl;exact aQ) ?_;refine jV rfl rfl rfl (by rfl) (by rfl) (by rfl) (by assumption) (by(simp only[aB];assumption)) (by rfl) (by exact bX _) (by omega) (by omega) (by apply aC rfl;exact aQ) ?_;refine qM ?_;refine lW ?_;refine Y3 ?_;refine ah ?_ (bS (own:=true) (s:=1) rfl ?_ M L (rB rfl rfl)) rfl
  ·rw[Heap.au (by omega)];exact Z
  ·exact YG
end Go.A.Pk
end
section
namespace Go.A.Pk
structure aaC (t:List Nat) (l:List Pb) (f:List Nat):Prop where
 len:f.length=l.length
 at':∀(i:Nat) (p:Pb) (k:Nat),l[i]? =some p->f[i]? =some k->k=0∨k=YU t p
section
variable {w:List Nat×List Nat} (hw:IsW w) {t:List Nat} (ht:IsS t) (h1:Sub w.1 t) (h2:Sub t w.2) {l:List Pb} (hl:∀p∈l,IsS p.cells)
include hw ht h1 h2 hl
end
def mnF(g:Nat->Int)(L:List Nat)(c:Int):Int:=L.foldl (λn p=>min n (g p)) c
def gZ(n:Nat)(f:List Nat):List Nat:=(List.range n).filter λp=>decide (f.getD p 0=0)
variable{n p:Nat}{f:List Nat}
theorem om:p∈gZ n f↔p<n/\f.getD p 0=0:=by
 unfold gZ;rw[List.mem_filter,List.mem_range,decide_eq_true_eq]
theorem Jq(n:Nat)(f:List Nat):gZ (n+1) f=gZ n f++(if f.getD n 0=0 then [n]else []):=by
 unfold gZ;rw[PH,Ix];congr 1;by_cases h:f.getD n 0=0
 ·rw[if_pos h,ST (by rw[decide_eq_true_eq];exact h)];rfl
 ·rw[if_neg h,LE (by rw[decide_eq_true_eq];exact h)];rfl
variable{a:Nat}
theorem Mh{x:Nat}(b:p<f.length):(f.set p a).getD x 0=if x=p then a else f.getD x 0:=by
 rw[gk,gk,P1];by_cases h:p=x
 ·rw[if_pos h,if_pos h.symm,if_pos (by omega)];rfl
 ·rw[if_neg h,if_neg (λq=>h q.symm)]
theorem MP(c:p<f.length)(b:a≠0):gZ n (f.set p a)=(gZ n f).filter λx=>decide (x≠p):=by
 unfold gZ;rw[List.filter_filter];refine Hm λx _=> ?_;rw[Mh c];by_cases h:x=p
 ·rw[if_pos h,decide_eq_false b,decide_eq_false (by simpa using h)];rfl
 ·rw[if_neg h,decide_eq_true h,wd]
theorem B7(d:p<f.length)(b:a≠0)(c:p∈gZ n f):(gZ n (f.set p a)).length<(gZ n f).length:=by
 rw[MP d b,List.length_filter_lt_length_iff_exists];exact⟨p,c,by simp⟩
theorem yK(n:Nat)(f:List Nat):(gZ n f).length<=n:=by
 unfold gZ;exact ed (PP _ _) (by rw[List.length_range];exact bl _)
section
variable (w:List Nat×List Nat) (l:List Pb) (ns:List (List (List Nat)))
def eM(f:List Nat):Bool:=bsB w (l.zip f)&&ns.any λr=>decide (jX (l.zip f) (bsS w.1 (l.zip f)) r=3)
def dW(p:Nat):Int:=(l.getD p ⟨s0,0⟩).cost
def VB:Nat->List Nat->Int
 |0,f=>if eM w l ns f then 100000 else 0
 |k+1,f=>if eM w l ns f then mnF (λp=>dW l p+max (VB k (f.set p 1)) (VB k (f.set p 2))) (gZ l.length f) 100000 else 0
def aax(f:List Nat):Int:=VB w l ns l.length f
end
variable {w:List Nat×List Nat} {l:List Pb} {ns:List (List (List Nat))}
theorem mw{w:List Nat×List Nat}{l:List Pb}{os:List (List Nat)}:sB w l os=0↔sIn w.1 w.2=true/\os.length<=6/\os.any (λs=>decide (s=s0))=false/\l.length<=8/\l.any kj=false:=by
 unfold sB prE;cases sIn w.1 w.2<;>cases os.any (λs=>decide (s=s0))<;>cases l.any kj<;>by_cases h6:6<os.length<;>by_cases h8:8<l.length<;>simp[h6,h8]<;>omega
theorem uP{l:List Pb}(h:l.any kj=false):∀p∈l,1<=p.cost/\p.cost<=1000:=λp a=>by
 have:=List.any_eq_false.1 h p a;unfold kj inR at this;simp at this;exact this.2
theorem YL{n:Nat}(h:n<8):z8[n]? =some 0:=by
 match n,h with
 |0,_=>rfl
 |1,_=>rfl
 |2,_=>rfl
 |3,_=>rfl
 |4,_=>rfl
 |5,_=>rfl
 |6,_=>rfl
 |7,_=>rfl
structure Fk where
 probe:Int
 yes:Int
 no:Int
def dR(s:List Fk):List Int:=s.flatMap λx=>[x.yes,x.no]
theorem tE(x:Fk)(s:List Fk):dR (x::s)=x.yes::x.no::dR s:=rfl
theorem Bb(a b:List Fk):dR (a++b)=dR a++dR b:=by unfold dR;rw[List.flatMap_append]
theorem sj{s:List Fk}{i:Int}:i∈dR s↔ ∃(j:Nat) (x:Fk),s[j]? =some x/\(x.yes=i∨x.no=i):=by
 unfold dR;rw[List.mem_flatMap];constructor
 ·rintro⟨x,c,a⟩;obtain⟨j,b⟩:=List.mem_iff_getElem?.1 c;refine⟨j,x,b,?_⟩;simp at a;exact a.imp Eq.symm Eq.symm
 ·rintro⟨j,x,b,a⟩;refine⟨x,bz b,?_⟩;simp;exact a.imp Eq.symm Eq.symm
section
variable (w:List Nat×List Nat) (l:List Pb) (ns:List (List (List Nat))) (s:List Fk)
def jF(cost:Int):Nat->List Nat->Int->Int->Int->Option Nat
 |0,_,_,_,_=>none
 |k+1,f,at_,from_,paid=>
  if at_= -1 then(if eM w l ns f=true then none else some 0)else
  if eM w l ns f=true/\from_<at_/\at_<s.length then
   match s[at_.toNat]? with
   |none=>none
   |some x=>
    if(0<=x.probe/\x.probe<l.length)/\f.getD x.probe.toNat 0=0 then
     if paid+dW l x.probe.toNat<=cost then
      match jF cost k (f.set x.probe.toNat 1) x.yes at_ (paid+dW l x.probe.toNat)with
      |none=>none
      |some a=>match jF cost k (f.set x.probe.toNat 2) x.no at_ (paid+dW l x.probe.toNat)with
       |none=>none
       |some b=>some (a+b+1)
     else none
    else none
  else none
def nY:Nat->Int->List Nat->Int->Bool
 |0,_,_,_=>false
 |k+1,at_,f,cost=>
  if cost<0 then false else
  if at_= -1 then !eM w l ns f else
  if eM w l ns f=true then
   match s[at_.toNat]? with
   |none=>false
   |some x=>if f.getD x.probe.toNat 0=0 then nY k x.yes (f.set x.probe.toNat 1) (cost-dW l x.probe.toNat)&&nY k x.no (f.set x.probe.toNat 2) (cost-dW l x.probe.toNat)else false
  else false
end
def lS(n i m:Int):Prop:=n= -1∨i<n/\n<m
def wD(s:List Fk):Prop:=((dR s).filter λi=>decide (i≠ -1)).Nodup
def j7(s:List Fk):Int:=if s.length=0 then -1 else 0
def uQ(w:List Nat×List Nat)(l:List Pb)(ns:List (List (List Nat)))(s:List Fk)(cost:Int):Prop:=
 (s.length=0->0<=cost)/\wD s/\jF w l ns s cost 10 z8 (j7 s) (-1) 0=some s.length
def OX(l:List Pb)(s:List Fk):Prop:=∀(i:Nat) x,s[i]? =some x->(0<=x.probe/\x.probe<l.length)/\lS x.yes i s.length/\lS x.no i s.length
def JY(w:List Nat×List Nat)(l:List Pb)(ns:List (List (List Nat)))(s:List Fk)(cost:Int):Prop:=
 OX l s/\(∀i:Nat,0<i->i<s.length->(dR s).count (i:Int)=1)/\nY w l ns s 10 (j7 s) z8 cost=true
theorem Cp:∀(n:Nat) (L:List Nat),L.Nodup->(∀x∈L,x<n)->L.length<=n/\(L.length=n->∀i,i<n->i∈L)
 |0,L,_,h=>by
  cases L with
  |nil=>exact⟨bl 0,λ_ i b=>absurd b (Nat.not_lt_zero i)⟩
  |cons x L=>exact absurd (h x bx) (Nat.not_lt_zero x)
 |n+1,L,hn,h=>by
  by_cases hm:n∈L
  ·have h1:=Cp n (L.erase n) (hn.erase n) λx a=>by
    have:=(hn.mem_erase_iff).1 a;have:=h x this.2;omega
   rw[List.length_erase_of_mem hm]at h1;have c:=List.length_pos_of_mem hm;refine⟨by omega,λe i b=> ?_⟩;by_cases hin:i=n
   ·rw[hin];exact hm
   ·exact List.mem_of_mem_erase (h1.2 (by omega) i (by omega))
  ·have h1:=Cp n L hn λx a=>by
    have:=h x a;have:x≠n:=λe=>hm (e▸a);omega
   exact⟨by omega,λe=>by omega⟩
theorem Qk{s:List Fk}{c:Int}(g:(dR s).count c<=1):(∀(i j:Nat) x y,s[i]? =some x->s[j]? =some y->(x.yes=c∨x.no=c)->(y.yes=c∨y.no=c)->i=j)/\(∀x∈s,¬ (x.yes=c/\x.no=c)):=by
 induction s with
 |nil=>exact⟨λi j x y b=>by simp at b,λx a=>(by cases a)⟩
 |cons z s h=>
  rw[tE,List.count_cons,List.count_cons]at g;have h:=h (by omega);have k:(z.yes=c∨z.no=c)->(dR s).count c=0:=λq=>by
   rcases q with q|q
   ·rw[if_pos (show(z.yes==c)=true by simpa using q)]at g;omega
   ·rw[if_pos (show(z.no==c)=true by simpa using q)]at g;omega
  have e:(dR s).count c=0->∀(j:Nat) y,s[j]? =some y->¬ (y.yes=c∨y.no=c):=λq j y d f=>(List.count_eq_zero.1 q) (sj.2 ⟨j,y,d,f⟩);refine⟨λi j x y b d a f=> ?_,λx a q=> ?_⟩
  ·cases i with
   |zero=>
    cases j with
    |zero=>rfl
    |succ j=>
     simp at b d;subst b;exact absurd f (e (k a) j y d)
   |succ i=>
    cases j with
    |zero=>
     simp at b d;subst d;exact absurd a (e (k f) i x b)
    |succ j=>
     simp at b d;rw[h.1 i j x y b d a f]
  ·rcases List.mem_cons.1 a with rfl|a
   ·rw[if_pos (show(x.yes==c)=true by simpa using q.1),if_pos (show(x.no==c)=true by simpa using q.2)]at g;omega
   ·exact h.2 x a q
theorem tL{s:List Fk}:wD s↔ ∀c:Int,c≠ -1->(dR s).count c<=1:=by
 unfold wD;rw[List.nodup_iff_count];constructor
 ·intro h c a;have:=h c
  rwa [List.count_filter (by simpa using a)]at this
 ·intro h c;by_cases a:c= -1
  ·subst a;rw[List.count_eq_zero.2 (by simp)];omega
  ·rw[List.count_filter (by simpa using a)];exact h c a
def ndK(s:List Fk):Nat->Int->List Nat
 |0,_=>[]
 |k+1,at_=>if at_= -1 then []else match s[at_.toNat]? with
  |none=>[]
  |some x=>at_.toNat::(ndK s k x.yes++ndK s k x.no)
section
variable {w:List Nat×List Nat} {l:List Pb} {ns:List (List (List Nat))} {s:List Fk} {cost:Int}
def okF(l:List Pb)(s:List Fk)(L:List Nat)(j:Nat):Prop:=∃x,s[j]? =some x/\(0<=x.probe/\x.probe<l.length)/\(x.yes= -1∨(j:Int)<x.yes/\x.yes<s.length/\x.yes.toNat∈L)/\(x.no= -1∨(j:Int)<x.no/\x.no<s.length/\x.no.toNat∈L)
theorem EO{L d:List Nat}(h:∀j∈L,j∈d){j:Nat}(q:okF l s L j):okF l s d j:=by
 obtain⟨x,h1,h2,e,f⟩:=q;exact⟨x,h1,h2,e.imp id λ⟨a,b,c⟩=>⟨a,b,h _ c⟩,f.imp id λ⟨a,b,c⟩=>⟨a,b,h _ c⟩⟩
theorem Dd(u:∀p∈l,0<=p.cost):∀{k:Nat} {f:List Nat} {a fr paid:Int} {m:Nat}, -1<=fr->jF w l ns s cost k f a fr paid=some m→
 m=(ndK s k a).length/\(∀j∈ndK s k a,okF l s (ndK s k a) j)/\(a= -1∨fr<a/\a<s.length/\a.toNat∈ndK s k a)/\(∀j∈ndK s k a,(j:Int)=a∨a<j/\∃i x,i∈ndK s k a/\s[i]? =some x/\(x.yes=j∨x.no=j))/\((a= -1->paid<=cost)->paid<=cost/\nY w l ns s k a f (cost-paid)=true):=by
 intro k;induction k with
 |zero=>intro f a fr paid m _ h;simp[jF]at h
 |succ k ih=>
  intro f a fr paid m J h;unfold jF at h;by_cases ha:a= -1
  ·subst ha;rw[if_pos rfl]at h;split at h
   ·cases h
   ·rename_i v;cases h;have e:ndK s (k+1) (-1)=[]:=by unfold ndK;rw[if_pos rfl]
    rw[e];refine⟨rfl,λj b=>(by cases b), .inl rfl,λj b=>(by cases b),λz=> ?_⟩;have z:=z rfl;refine⟨z,?_⟩;unfold nY;rw[if_neg (by omega),if_pos rfl];simpa using v
  ·rw[if_neg ha]at h;split at h
   ·rename_i u;obtain⟨v,h1,h2⟩:=u;split at h
    ·cases h
    ·rename_i x hx;split at h
     ·rename_i hpr;split at h
      ·rename_i hpay;split at h
       ·cases h
       ·rename_i m1 hm1;split at h
        ·cases h
        ·rename_i m2 hm2;cases h;obtain⟨A,B,o,C,D⟩:=ih (fr:=a) (by omega) hm1;obtain⟨E,F,t,G,H⟩:=ih (fr:=a) (by omega) hm2;have e:ndK s (k+1) a=a.toNat::(ndK s k x.yes++ndK s k x.no):=by
          rw[ndK,if_neg ha,hx]
         have g:((a.toNat:Nat):Int)=a:=Int.toNat_of_nonneg (by omega);rw[e];refine⟨?_,?_, .inr ⟨h1,h2,bx⟩,?_,λ_=> ?_⟩
         ·rw[A,E,me,eA]
         ·intro j b;rcases List.mem_cons.1 b with rfl|b
          ·refine⟨x,hx,hpr.1,?_,?_⟩
           ·rw[g];exact o.imp id λ⟨p,q,r⟩=>⟨p,q,bu _ (Cl _ r)⟩
           ·rw[g];exact t.imp id λ⟨p,q,r⟩=>⟨p,q,bu _ (Fr _ r)⟩
          ·rcases List.mem_append.1 b with b|b
           ·exact EO (λi d=>bu _ (Cl _ d)) (B j b)
           ·exact EO (λi d=>bu _ (Fr _ d)) (F j b)
         ·intro j b;rcases List.mem_cons.1 b with rfl|b
          ·exact .inl g
          ·refine .inr ?_;rcases List.mem_append.1 b with b|b
           ·rcases C j b with q|⟨q,i,y,d,hy⟩
            ·rcases o with c|c
             ·omega
             ·exact⟨by omega,_,x,bx,hx, .inl q.symm⟩
            ·rcases o with c|c
             ·rw[c]at q b d;have:ndK s k (-1)=[]:=by cases k<;>simp[ndK]
              rw[this]at b;cases b
             ·exact⟨by omega,i,y,bu _ (Cl _ d),hy⟩
           ·rcases G j b with q|⟨q,i,y,d,hy⟩
            ·rcases t with c|c
             ·omega
             ·exact⟨by omega,_,x,bx,hx, .inr q.symm⟩
            ·rcases t with c|c
             ·rw[c]at q b d;have:ndK s k (-1)=[]:=by cases k<;>simp[ndK]
              rw[this]at b;cases b
             ·exact⟨by omega,i,y,bu _ (Fr _ d),hy⟩
         ·have hc0:0<=dW l x.probe.toNat:=by
           unfold dW;have n:x.probe.toNat<l.length:=by omega
           rw[gk,a6 n];exact u _ (yi n)
          have K:=(D λ_=>hpay).2;have c:=(H λ_=>hpay).2;have I:cost-paid-dW l x.probe.toNat=cost-(paid+dW l x.probe.toNat):=by omega
          refine⟨by omega,?_⟩;unfold nY;rw[if_neg (by omega),if_neg ha,if_pos v];simp only[hx];rw[if_pos hpr.2,I,K,c];rfl
      ·cases h
     ·cases h
   ·cases h
theorem Q9(o:wD s){p:Nat}{x:Fk}(f:s[p]? =some x){b c:List Nat}(h1:∀j∈b,okF l s b j)(t:∀j∈c,okF l s c j)
 (h:∀j∈b,(p:Int)<j/\((j:Int)=x.yes∨∃i y,i∈b/\s[i]? =some y/\(y.yes=j∨y.no=j)))(a2:∀j∈c,(p:Int)<j/\((j:Int)=x.no∨∃i y,i∈c/\s[i]? =some y/\(y.yes=j∨y.no=j))):
 ∀j,j∈b->j∈c->False:=by
 intro j;induction j using Nat.strongRecOn with
 |ind j ih=>
  intro r k;have a:=Qk (tL.1 o (j:Int) (by omega));have g:∀{L:List Nat},(∀j∈L,okF l s L j)->∀{i y},i∈L->s[i]? =some y->(y.yes=j∨y.no=j)->i<j:=λ{L} m {i y} n q d=>by
   obtain⟨z,z1,_,z3,z4⟩:=m i n;rw[q]at z1;cases z1;rcases d with d|d<;>omega
  rcases(h j r).2 with q1|⟨i1,y1,b1,c1,d1⟩
  ·rcases(a2 j k).2 with q2|⟨i2,y2,b2,c2,d2⟩
   ·exact a.2 x (bz f) ⟨q1.symm,q2.symm⟩
   ·have:=a.1 p i2 x y2 f c2 (.inl q1.symm) d2;have:=(a2 i2 b2).1;omega
  ·rcases(a2 j k).2 with q2|⟨i2,y2,b2,c2,d2⟩
   ·have:=a.1 p i1 x y1 f c1 (.inr q2.symm) d1;have:=(h i1 b1).1;omega
   ·have e:=a.1 i1 i2 y1 y2 c1 c2 d1 d2;subst e;exact ih i1 (g h1 b1 c1 d1) b1 b2
theorem EJ(o:∀p∈l,0<=p.cost)(E:wD s):∀{k:Nat} {f:List Nat} {a fr paid:Int} {m:Nat}, -1<=fr->jF w l ns s cost k f a fr paid=some m->(ndK s k a).Nodup:=by
 intro k;induction k with
 |zero=>intro f a fr paid m _ h;simp[jF]at h
 |succ k ih=>
  intro f a fr paid m C h;unfold jF at h;by_cases ha:a= -1
  ·subst ha;have e:ndK s (k+1) (-1)=[]:=by unfold ndK;rw[if_pos rfl]
   rw[e];exact List.nodup_nil
  ·rw[if_neg ha]at h;split at h
   ·rename_i hcc;obtain⟨H,h1,h2⟩:=hcc;split at h
    ·cases h
    ·rename_i x hx;split at h
     ·rename_i hpr;split at h
      ·rename_i hpay;split at h
       ·cases h
       ·rename_i m1 hm1;split at h
        ·cases h
        ·rename_i m2 hm2;have F:=ih (fr:=a) (by omega) hm1;have G:=ih (fr:=a) (by omega) hm2;obtain⟨_,r,t,u,_⟩:=Dd o (fr:=a) (by omega) hm1;obtain⟨_,v,z,A,_⟩:=Dd o (fr:=a) (by omega) hm2;have B:((a.toNat:Nat):Int)=a:=Int.toNat_of_nonneg (by omega);have d:ndK s k (-1)=[]:=by cases k<;>simp[ndK]
         have g:∀j∈ndK s k x.yes,((a.toNat:Nat):Int)<j/\((j:Int)=x.yes∨∃i y,i∈ndK s k x.yes/\s[i]? =some y/\(y.yes=j∨y.no=j)):=λj b=>by
          rcases t with q|q
          ·rw[q,d]at b;cases b
          ·rcases u j b with q2|⟨q2,q3⟩
           ·exact⟨by omega, .inl q2⟩
           ·exact⟨by omega, .inr q3⟩
         have n:∀j∈ndK s k x.no,((a.toNat:Nat):Int)<j/\((j:Int)=x.no∨∃i y,i∈ndK s k x.no/\s[i]? =some y/\(y.yes=j∨y.no=j)):=λj b=>by
          rcases z with q|q
          ·rw[q,d]at b;cases b
          ·rcases A j b with q2|⟨q2,q3⟩
           ·exact⟨by omega, .inl q2⟩
           ·exact⟨by omega, .inr q3⟩
         have e:ndK s (k+1) a=a.toNat::(ndK s k x.yes++ndK s k x.no):=by
          rw[ndK,if_neg ha,hx]
         rw[e,Pi,WB];refine⟨λc=> ?_,F,G,λi D j b e=> ?_⟩
         ·rcases List.mem_append.1 c with c|c
          ·have:=(g _ c).1;omega
          ·have:=(n _ c).1;omega
         ·subst e;exact Q9 E hx r v g n i D b
      ·cases h
     ·cases h
   ·cases h
theorem Ya:∀(n:Nat) (L:List Nat),(∀i,i<n->i∈L)->n<=L.length
 |0,_,_=>gK _
 |n+1,L,h=>by
  have hm:=h n (ec n);have:=Ya n (L.erase n) λi a=>(List.mem_erase_of_ne (by omega)).2 (h i (by omega));rw[List.length_erase_of_mem hm]at this;have:=List.length_pos_of_mem hm;omega
theorem RF(o:∀p∈l,0<=p.cost)(h:uQ w l ns s cost):JY w l ns s cost:=by
 obtain⟨h1,h2,n⟩:=h;obtain⟨t,m,F,u,v⟩:=Dd o (by omega) n;have k:=EJ o h2 (by omega) n;have g:∀j∈ndK s 10 (j7 s),j<s.length:=λj A=>by
  obtain⟨x,d,_⟩:=m j A;exact(List.getElem?_eq_some_iff.1 d).1
 have a:=(Cp s.length _ k g).2 t.symm;have b:=(v λe=>by
  unfold j7 at e;split at e
  ·rename_i q;exact h1 q
  ·cases e).2
 rw[Int.sub_zero]at b;refine⟨λi x d=> ?_,λi G c=> ?_,b⟩
 ·have c:=(List.getElem?_eq_some_iff.1 d).1;obtain⟨y,r,C,D,E⟩:=m i (a i c);rw[d]at r;cases r;exact⟨C,D.imp id λq=>⟨q.1,q.2.1⟩,E.imp id λq=>⟨q.1,q.2.1⟩⟩
 ·have B:=tL.1 h2 (i:Int) (by omega);have z:j7 s=0:=by unfold j7;rw[if_neg (by omega)]
  have f:(i:Int)∈dR s:=by
   rcases u i (a i c)with q|⟨_,j,x,_,d,hn⟩
   ·omega
   ·exact sj.2 ⟨j,x,d,hn⟩
  have:=List.count_pos_iff.2 f;omega
theorem Qz(n:OX l s):∀{k:Nat} {f:List Nat} {a fr paid:Int},nY w l ns s k a f (cost-paid)=true->(a= -1∨fr<a/\a<s.length)-> -1<=fr->∃m,jF w l ns s cost k f a fr paid=some m:=by
 intro k;induction k with
 |zero=>intro f a fr paid h;simp[nY]at h
 |succ k ih=>
  intro f a fr paid h r t;unfold nY at h;unfold jF;by_cases hneg:cost-paid<0
  ·rw[if_pos hneg]at h;cases h
  rw[if_neg hneg]at h;by_cases ha1:a= -1
  ·rw[if_pos ha1]at h⊢;cases ho:eM w l ns f with
   |true=>rw[ho]at h;cases h
   |false=>exact⟨0,rfl⟩
  ·rw[if_neg ha1]at h⊢;have c:fr<a/\a<s.length:=r.resolve_left ha1;cases ho:eM w l ns f with
   |false=>rw[ho]at h;cases h
   |true=>
    rw[ho,if_pos rfl]at h;rw[if_pos ⟨rfl,c⟩];have g:a.toNat<s.length:=by omega
    obtain⟨x,q⟩:∃x,s[a.toNat]? =some x:=⟨_,a6 g⟩;have d:((a.toNat:Nat):Int)=a:=Int.toNat_of_nonneg (by omega);obtain⟨u,o,p⟩:=n a.toNat x q;simp only[q]at h⊢;split at h
    ·rename_i hz;rw[dk]at h;have e:cost-paid-dW l x.probe.toNat=cost-(paid+dW l x.probe.toNat):=by omega
     rw[e]at h;rw[if_pos ⟨u,hz⟩];unfold lS at o p;rw[d]at o p;obtain⟨v,i⟩:=ih (fr:=a) h.1 o (by omega);obtain⟨y,j⟩:=ih (fr:=a) h.2 p (by omega);have b:paid+dW l x.probe.toNat<=cost:=by
      have:=h.1;cases k with
      |zero=>simp[nY]at this
      |succ k=>
       unfold nY at this;by_cases hq:cost-(paid+dW l x.probe.toNat)<0
       ·rw[if_pos hq]at this;cases this
       ·omega
     rw[if_pos b];simp only[i,j];exact⟨_,rfl⟩
    ·cases h
theorem RW(r:∀p∈l,0<=p.cost)(h:JY w l ns s cost):uQ w l ns s cost:=by
 obtain⟨h1,h2,f⟩:=h;have n:j7 s= -1∨ -1<j7 s/\j7 s<s.length:=by
  unfold j7;split
  ·exact .inl rfl
  ·exact .inr (by omega)
 obtain⟨m,z⟩:=Qz (cost:=cost) (paid:=0) h1 (by rw[Int.sub_zero];exact f) n (Int.le_refl _);have d:wD s:=tL.2 λc r=>by
  by_cases a:c∈dR s
  ·obtain⟨j,x,g,b⟩:=sj.1 a;obtain⟨_,B,C⟩:=h1 j x g;unfold lS at B C;have N:(j:Int)<c/\c<s.length:=by
    rcases b with b|b<;>omega
   have e:c=((c.toNat:Nat):Int):=(Int.toNat_of_nonneg (by omega)).symm;have:=h2 c.toNat (by omega) (by omega);rw[←e]at this;omega
  ·rw[List.count_eq_zero.2 a];omega
 obtain⟨K,D,H,L,M⟩:=Dd r (by omega) z;have A:=EJ r d (by omega) z;have v:∀j∈ndK s 10 (j7 s),j<s.length:=λj J=>by
  obtain⟨x,g,_⟩:=D j J;exact(List.getElem?_eq_some_iff.1 g).1
 have k:∀i,i<s.length->i∈ndK s 10 (j7 s):=by
  intro i;induction i using Nat.strongRecOn with
  |ind i ih=>
   intro I;have t:j7 s=0:=by unfold j7;rw[if_neg (by omega)]
   rcases Nat.eq_zero_or_pos i with rfl|hpos
   ·rcases H with q|q
    ·omega
    ·have:=q.2.2;rw[t]at this⊢;exact this
   ·have a:(i:Int)∈dR s:=List.count_pos_iff.1 (by rw[h2 i hpos I];omega);obtain⟨j,x,g,b⟩:=sj.1 a;obtain⟨_,B,C⟩:=h1 j x g;unfold lS at B C;have u:j<i:=by rcases b with b|b<;>omega
    obtain⟨y,E,_,F,G⟩:=D j (ih j u (by omega));rw[g]at E;cases E;rcases b with b|b
    ·rw[b]at F;rcases F with q|⟨_,_,q⟩
     ·omega
     ·exact q
    ·rw[b]at G;rcases G with q|⟨_,_,q⟩
     ·omega
     ·exact q
 have o:m=s.length:=by
  have O:=(Cp s.length _ A v).1;have P:=Ya s.length _ k;omega
 refine⟨λe=> ?_,d,by rw[z,o]⟩;unfold j7 at f;rw[if_pos e]at f;unfold nY at f;by_cases hq:cost<0
 ·rw[if_pos hq]at f;cases f
 ·omega
theorem RE(a:∀p∈l,0<=p.cost):uQ w l ns s cost↔JY w l ns s cost:=⟨RF a,RW a⟩
end
section
variable {w:List Nat×List Nat} {l:List Pb} {ns:List (List (List Nat))}
theorem hc0(a:∀p∈l,1<=p.cost/\p.cost<=1000):∀p∈l,0<=p.cost:=λp b=>by have:=(a p b).1;omega
end
end Go.A.Pk
end
