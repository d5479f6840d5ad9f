/- Walks of functions, plain laws, the table. -/
import Derived.Test.YtppgkemkfdkobaaGreatDoorGU3
import Derived.Test.YtppgkemkfdkobaaGreatDoorGF
import Derived.Test.YtppgkemkfdkobaaGreatDoorGU2
import Derived.Test.YtppgkemkfdkobaaGreatDoorGD
set_option linter.all false
set_option maxHeartbeats 16000000
set_option maxRecDepth 100000
section
namespace Go.A.Pk
variable {T:Nat->Option aq}
variable{h:Heap}{v:Value}{i n:Nat}{cs:List Value}
def uc(s:aH h 1 v n cs){x:Value}(hi:cs[i]? =some x):
 ∃b o c e a t,v= .slice (some ⟨b,o,none⟩) n c/\h.get b=some (.cells e a t)/\b<h.next/\bN e (o+i*1)=some x:=by
 have d:=(List.getElem?_eq_some_iff.1 hi).1;rcases aH.inv s with⟨_,_,h0,hc⟩|⟨b,o,cap,hs,s3,hc⟩
 ·rw[hc]at d;simp at d
 ·obtain⟨e,a,t,g,f⟩:=s3.obj;have hl:=s3.len;refine⟨b,o,cap,e,a,t,hs,g,s3.lt,?_⟩;rw[bw,aT]at f;rw[←f,wi ω,wn]at hi;rw[cC,xr];exact hi
def ints_at{l:List Int}{x:Int}(h:l[i]? =some x):(ints l)[i]? =some (zc x):=by simp[ints,h]
def jh(l:List Nat):List Nat:=l++List.replicate (8-l.length) 0
def OS{l:List Nat}(h:l.length<=8):(jh l).length=8:=by unfold jh;rw[dk,wx];omega
def z8:List Nat:=[0,0,0,0,0,0,0,0]
def sI(l:List Int):Bool:=l.all λx=>inR x 0 2
def RI(l:List Int)(n:Nat):List Nat×Bool:=if n<l.length∨sI l=false then(z8,false)else(jh (l.map Int.toNat),decide (l.length=n))
def Va(f:List Nat)(i k:Nat):(fL f).set (0+i*1) (.int .u8 (k:Nat))=fL (f.set i k):=by
 rw[hF,xr];unfold fL;rw[WP]
variable{w:List Nat×List Nat}
def Cr{l:List Pb}{os:List (List Nat)}(h:mM w l os=0):sIn w.1 w.2=true/\os.length<=6/\(∀s∈os,¬s=s0)/\l.length<=8:=by
 unfold mM at h;split at h
 ·cases h
 ·rename_i h1;split at h
  ·cases h
  ·rename_i h2;split at h
   ·cases h
   ·rename_i h3;refine⟨by simpa using h1,ω,λs a e=>h3 (List.any_eq_true.2 ⟨s,a,decide_eq_true e⟩),?_⟩;unfold prE at h;split at h
    ·cases h
    ·omega
def zsF(l:List Pb)(fs:List Int):Zs:=l.zip (fs.map Int.toNat)
variable{a b:List Nat}
def U1(r:aK T)(q:T 149=some f259)(hr:Rdy h)(n:IsS a)(hb:IsS b):Pu T 149 [sv a,sv b] h (zc (cmpL a b)):=by
 refine .of r q hr rfl ?_;have u:Ext h ((h.push (qt (cellsOf (sv a)))).push (qt (cellsOf (sv b)))):=((Ext.refl h).push _).push _;have z:((h.push (qt (cellsOf (sv a)))).push (qt (cellsOf (sv b)))).get h.next=some (qt (us a)):=YG
 have A:((h.push (qt (cellsOf (sv a)))).push (qt (cellsOf (sv b)))).get (h.next+1)=some (qt (us b)):=YG;refine Y5 ?_;generalize((h.push (qt (cellsOf (sv a)))).push (qt (cellsOf (sv b))))=H at*;have d:=u.log.trans hr.log;refine Y5 ?_
 refine aY (λm e k l=>∃j:Nat,j<=8/\8-j=m/\e=[(2, sb h.next),(3, sb (h.next+1)),(5, zc (j:Nat))]/\k=[]/\H=l∧a.take j=b.take j)
  ⟨0,hK _,rfl,rfl,rfl,rfl,rfl⟩ ?_
 rintro m e k l ⟨j,B,rfl,rfl,rfl,rfl,c⟩;by_cases hlt:j<8
 ·obtain⟨x,g⟩:∃x,a[j]? =some x:=⟨a[j]'(by rw[n.len];exact hlt),bx _⟩;obtain⟨y,i⟩:∃x,b[j]? =some x:=⟨b[j]'(by rw[hb.len];exact hlt),bx _⟩;have v:=jm g;have w:=jm i;have s:zd j 8 true:=dz ω;by_cases hxy:x=y
  ·subst hxy;have o:af .lss (.int .u64 (x:Nat)) (.int .u64 (x:Nat))=some (.bool false):=dG ω;have t:af .gtr (.int .u64 (x:Nat)) (.int .u64 (x:Nat))=some (.bool false):=gT ω;refine Y40 ?_;refine Y7 ?_;refine⟨8-(j+1),ω,j+1,ω,rfl,rfl,rfl,rfl,?_⟩;rw[ab3,ab3,c,g,i]
  ·have p:=Cu c g i hxy;rw[p];unfold AW;by_cases hl:x<y
   ·rw[if_pos hl];have o:af .lss (.int .u64 (x:Nat)) (.int .u64 (y:Nat))=some (.bool true):=dz ω;refine Y34 ?_;exact an d rfl rfl
   ·rw[if_neg hl,if_pos ω];have o:af .lss (.int .u64 (x:Nat)) (.int .u64 (y:Nat))=some (.bool false):=dG ω;have t:af .gtr (.int .u64 (x:Nat)) (.int .u64 (y:Nat))=some (.bool true):=fh ω;refine Y40 ?_;refine Y8 ?_;exact an d rfl rfl
 ·obtain rfl:j=8:=ω
  have f:a=b:=by
   rw[go (by rw[n.len];omega),go (by rw[hb.len];omega)]at c;exact c
  rw[f,pH];have s:zd ((8:Nat):Int) 8 false:=rfl;refine Y15 ?_;exact an d rfl rfl
def atS(x:List Nat)(l:List (List Nat)):Nat->Nat
 |0=>0
 |k+1=>if cmpL x (l.getD k [])<0 then atS x l k else k+1
def yJ(x:List Nat)(l:List (List Nat)):∀k,atS x l k<=k
 |0=>bl _
 |k+1=>by
  unfold atS;split
  ·exact HP (yJ x l k)
  ·exact bl _
def J8(l:List (List Nat))(x:List Nat)(k:Nat):Bool:=decide (0<k)&&decide (l.getD (k-1) []=x)
def Dn(l:List (List Nat))(x:List Nat)(k:Nat):List (List Nat):=if J8 l x k=true then l else l.take k++[x]++l.drop k
def qP(l:List (List Nat))(x:List Nat):List (List Nat):=Dn l x (atS x l l.length)
def Ex(x:List Nat)(l:List (List Nat)):∀k,k<=l.length->(∀i,atS x l k<=i->i<k->cmpL x (l.getD i [])<0)/\(0<atS x l k->¬cmpL x (l.getD (atS x l k-1) [])<0)
 |0,_=>⟨λi _ h=>ω,λh=>by unfold atS at h;omega⟩
 |k+1,hk=>by
  obtain⟨h1,h2⟩:=Ex x l k ω;unfold atS;split
  ·rename_i hc;refine⟨λi a hl=> ?_,h2⟩;rcases Hk i k with q|q
   ·exact h1 i a q
   ·obtain rfl:i=k:=ω
    exact hc
  ·rename_i hc;refine⟨λi a hl=>ω,λ_=> ?_⟩;rw[Nat.add_sub_cancel];exact hc
variable{l:List (List Nat)}
def rZ(h:i<l.length):l.getD i []∈l:=by
 rw[dn,bx h];exact CS h
variable{p x:List Nat}
def Ad(h:p∈qP l x):p=x∨p∈l:=by
 unfold qP Dn at h;split at h
 ·exact .inr h
 ·rcases List.mem_append.1 h with h|h
  ·rcases List.mem_append.1 h with h|h
   ·exact .inr (yn h)
   ·exact .inl (List.mem_singleton.1 h)
  ·exact .inr (List.mem_of_mem_drop h)
def Ae(h:p=x∨p∈l):p∈qP l x:=by
 unfold qP Dn;split
 ·rename_i hc;unfold J8 at hc;rw[gk,decide_eq_true_eq,decide_eq_true_eq]at hc;rcases h with rfl|h
  ·have a:=rZ (l:=l) (i:=atS p l l.length-1) (by have:=yJ p l l.length;omega);rw[hc.2]at a;exact a
  ·exact h
 ·rcases h with rfl|h
  ·exact GT _ (IR _ (List.mem_singleton.2 rfl))
  ·rw[←List.take_append_drop (atS x l l.length) l]at h;rcases List.mem_append.1 h with h|h
   ·exact GT _ (GT _ h)
   ·exact IR _ h
def FQ:p∈qP l x↔p=x∨p∈l:=⟨Ad,Ae⟩
def K5{c:List Nat}(h1:SLt a b)(d:SLt b c)(e:IsS a)(hb:IsS b)(f:IsS c):SLt a c:=by
 have g:[a,b,c].Pairwise SLt∨True:= .inr trivial;unfold SLt at*;exact qn (e.len.trans hb.len.symm) (hb.len.trans f.len.symm) h1 d
def Jm(v:∀s∈l,IsS s)(r:IsS x)(f:l.Pairwise SLt):(qP l x).Pairwise SLt:=by
 have E:=yJ x l l.length;obtain⟨B,C⟩:=Ex x l l.length (bl _);unfold qP Dn;split
 ·exact f
 ·rename_i hc;generalize atS x l l.length=k at*;have h:∀i,i<k->SLt (l.getD i []) x:=by
   intro i j;have g:0<k:=ω
   have A:=C g;have n:=v _ (rZ (l:=l) (i:=k-1) ω);have o:l.getD (k-1) []≠x:=by
    intro e;apply hc;unfold J8;rw[decide_eq_true g,decide_eq_true e];rfl
   have D:=jv (r.len.trans n.len.symm);have c:SLt (l.getD (k-1) []) x:=by
    unfold SLt;rcases Int.lt_or_le (cmpL (l.getD (k-1) []) x) 0 with q|q
    ·exact q
    ·exact absurd (lF (n.len.trans r.len.symm) ω) o
   rcases Hk i (k-1)with q|q
   ·have w:l.getD i []=l[i]' ω:=by rw[dn,bx];rfl
    have y:l.getD (k-1) []=l[k-1]' ω:=by rw[dn,bx];rfl
    have t:=List.pairwise_iff_getElem.1 f i (k-1) ω ω q;rw[←w,←y]at t;exact K5 t c (v _ (rZ ω)) n r
   ·obtain rfl:i=k-1:=ω
    exact c
  have ht:=f.take (i:=k);have z:=f.drop (i:=k);have p:∀a∈l.take k,∀b∈l.drop k,SLt a b:=by
   rw[←List.take_append_drop k l]at f;exact(List.pairwise_append.1 f).2.2
  rw[At];refine List.pairwise_append.2 ⟨ht,List.pairwise_cons.2 ⟨λb d=> ?_,z⟩,λa u b d=> ?_⟩
  ·change b∈l.drop k at d;obtain⟨i,j,rfl⟩:=List.getElem_of_mem d;rw[Kd]at j;rw[List.getElem_drop];have:=B (k+i) ω ω;rw[dn,bx ω]at this;exact this
  ·change b∈x::l.drop k at d;have m:SLt a x:=by
    obtain⟨i,j,rfl⟩:=List.getElem_of_mem u;rw[lp]at j;rw[List.getElem_take];have:=h i ω;rw[dn,bx ω]at this;exact this
   rcases List.mem_cons.1 d with rfl|d
   ·exact m
   ·exact p a u b d
def Dp(b:∀s∈l,IsS s)(c:IsS x):∀s∈qP l x,IsS s:=λs a=>by
 rcases Ad a with rfl|a
 ·exact c
 ·exact b s a
def FT(l:List (List Nat))(x:List Nat):(qP l x).length<=l.length+1:=by
 have:=yJ x l l.length;unfold qP Dn;split
 ·omega
 ·simp only[dk,lp,Kd,Do];omega
variable{lo sz:Nat}{h':Heap}
def Own.Bu{a:Nat}(b:dA v=true)(q:Own lo h sz v n cs):Own a h' sz v n cs:=by
 cases q with
 |nil=>exact .nil
 |full=>cases b
variable{k:Nat}
def Own.Wv(b:∀s∈l,IsS s)(s:Own lo h 8 v l.length (ssL l))(a:k<l.length):
 ∃q,v= sh q l.length UNK/\q<h.next/\h.get q=some (.cells (ssL l) true 8)/\cm 8 (bQ (0+k*8) (ssL l))=us (l.getD k []):=by
 have e:cm 8 (bQ (0+k*8) (ssL l))=us (l.getD k []):=by
  have:=qZ (t:=[]) b (bx a);rw[wl]at this;rw[this,dn,bx a];rfl
 generalize hn:l.length=n at s;generalize hc:ssL l=cs at s;cases s with
 |nil=>omega
 |full h1 h2 h3 h4 h5=>subst hn;subst hc;exact⟨_,rfl,h2,h3,e⟩
def Gg:∀l:List (List Nat),eN (ssL l)=true
 |[]=>rfl
 |s::l=>by rw[Ge];exact nT (bZ s) (Gg l)
structure Uj (T:Nat->Option aq):Prop where
 p:aK T
 f200:T 121=some f200
 f259:T 149=some f259
def HC(F:Uj T)(hr:Rdy h)(bo:lo<=h.next)(t:∀s∈l,IsS s)(ow:Own lo h 8 v l.length (ssL l))(hn:l.length<900000)(u:IsS x):
 Al T 121 [v,sv x] h λv' U=>Own lo U 8 v' (qP l x).length (ssL (qP l x)):=by
 refine .of F.p F.f200 hr (λv h1 D q=>Own.Bu D q) ?_;obtain⟨a,c,rfl⟩:∃a c,v= .slice a l.length c:=(ow.slice ω).form;have x0:Ext h (h.push (qt (cellsOf (sv x)))):=(Ext.refl h).push _;have g0:(h.push (qt (cellsOf (sv x)))).get h.next=some (qt (us x)):=YG
 have n0:(h.push (qt (cellsOf (sv x)))).next=h.next+1:=rfl
 have cj:=aN u.len;have ae:=aU u.len;refine Y4 ?_;generalize(h.push (qt (cellsOf (sv x))))=H at*;have W:=x0.wf hr.wf;have hL:=x0.log.trans hr.log;have g:=ow.ext x0;have n:=yJ x l l.length;unfold qP;refine Y5 ?_;refine D0 (E:=[(0, .slice a l.length c),(3, sb h.next),(5, zc ((atS x l l.length:Nat):Int)),(20, .bool false)]) (H:=H) ?_ ?_
 ·refine oe ?_
  refine aY (λm e ds U=>∃k:Nat,k<=l.length/\atS x l k=atS x l l.length/\k=m/\e=[(0, .slice a l.length c),(3, sb h.next),(5, zc (k:Nat))]/\ds=[]/\H=U)
   ⟨l.length,bl _,rfl,rfl,rfl,rfl,rfl⟩ ?_
  rintro m e ds U ⟨k,hk,j,rfl,rfl,rfl,rfl⟩;cases k with
  |zero=>
   have j:0=atS x l l.length:=j;rw[←j];refine Y4 ?_;refine qZ9 (c:=rD ρ ρ (by exact gT ω)) (H:=?_);refine Y18 ?_;exact⟨rfl,rfl,rfl,rfl⟩
  |succ k=>
   have o:=t _ (rZ (l:=l) (i:=k) ω);obtain⟨q,D,M,N,A⟩:=Own.Wv t g (k:=k) ω;cases D;have ky:=aN o.len;have m0:zs ((k+1:Nat):Int) 0 true:=fh ω;have ms:vi ((k+1:Nat):Int) 1 ((k:Nat):Int):=jD (by rw[aO ω ω];omega);have d:atS x l (k+1)=if cmpL x (l.getD k [])<0 then atS x l k else k+1:=rfl
   have C:=U1 F.p F.f259 (h:=η H) (.of W) u o;generalize l.getD k []=y at*;by_cases hc:cmpL x y<0
   ·rw[if_pos hc]at d;have m3:zd (cmpL x y) 0 true:=dz hc;refine Y13 ?_;refine FW.puD C (by(repeat apply aB rfl);exact aQ) ?_;clear C;refine Y13 ?_;refine bA ?_;refine Y3 ?_;exact⟨k,ω,k,ω,d▸j,rfl,rfl,rfl,rfl⟩
   ·rw[if_neg hc]at d;have m3:zd (cmpL x y) 0 false:=dG ω;have L:k+1=atS x l l.length:=d▸j;rw[←L];refine Y13 ?_;refine FW.puD C (by(repeat apply aB rfl);exact aQ) ?_;clear C;refine Y10 ?_;exact⟨rfl,rfl,rfl,rfl⟩
 generalize atS x l l.length=k at*;cases hq:J8 l x k with
 |true=>
  have w:Dn l x k=l:=by unfold Dn;rw[if_pos hq]
  rw[w];unfold J8 at hq;rw[gk,decide_eq_true_eq,decide_eq_true_eq]at hq;obtain⟨cd,O⟩:=hq;obtain⟨f,rfl⟩:∃f,k=f+1:=⟨k-1,ω⟩;rw[Nat.add_sub_cancel]at O;obtain⟨q,D,M,N,A⟩:=Own.Wv t g (k:=f) ω;cases D;rw[O]at A;have m0:zs ((f+1:Nat):Int) 0 true:=fh ω;have ms:vi ((f+1:Nat):Int) 1 ((f:Nat):Int):=jD (by rw[aO ω ω];omega);refine Y12 ?_;refine qZ9 (c:=jK (b:=x) ρ ρ u.len u.len) (H:=?_);rw[decide_eq_true (rfl:x=x)];refine Y11 ?_;exact cW hL rfl g
 |false=>
  have w:Dn l x k=l.take k++[x]++l.drop k:=by unfold Dn;rw[hq];rfl
  rw[w];refine D0 (E:=[(0, .slice a l.length c),(3, sb h.next),(5, zc (k:Nat)),(33, .bool false)]) (H:=H) ?_ ?_
  ·cases k with
   |zero=>
    have m0:zs ((0:Nat):Int) 0 false:=rfl;refine Y18 ?_;exact⟨rfl,rfl,rfl,rfl⟩
   |succ f=>
    have o:=t _ (rZ (l:=l) (i:=f) ω);have ky:=aN o.len;have Z:¬l.getD f []=x:=by
     intro e;unfold J8 at hq;rw[Nat.add_sub_cancel,decide_eq_true e,decide_eq_true (Nat.succ_pos f)]at hq;cases hq
    obtain⟨q,D,M,N,A⟩:=Own.Wv t g (k:=f) ω;cases D;generalize l.getD f []=y at*;have m0:zs ((f+1:Nat):Int) 0 true:=fh ω;have ms:vi ((f+1:Nat):Int) 1 ((f:Nat):Int):=jD (by rw[aO ω ω];omega);refine Y11 ?_;refine qZ9 (c:=jK (b:=x) ρ ρ o.len u.len) (H:=?_);rw[decide_eq_false Z];refine Y6 ?_;exact⟨rfl,rfl,rfl,rfl⟩
  have x7:Ext H (H.push (.cells [] true 8)):=(Ext.refl H).push _;have J:(H.push (.cells [] true 8)).get H.next=some (.cells [] true 8):=z3 _ _
  have n7:(H.push (.cells [] true 8)).next=H.next+1:=rfl
  have X:=(x7.old _ ω).trans g0;have S:=g.ext x7;have Y:(l.take k++[x]++l.drop k).length=k+1+(l.length-k):=by simp only[dk,lp,Kd,Do];omega
  have P:ssL [x]=us x:=by simp[ssL]
  rw[Y,qY,qY,P];refine Y4 ?_;refine Qx (i:=k) S n ρ ρ ?_;intro u1 B;rw[AH t]at B;skip;refine wO (lo:=H.next) (b:=H.next) J (eA _) (bl _) ω ω ρ ρ B (by rw[fP (λr hr=>t r (yn hr)),lp,FX n]) ?_;intro v1 K o8 I;have I:Ext (H.push (.cells [] true 8)) K:=I;have V:=x7.trans I;have ba:=(I.old _ ω).trans X;have n8:=I.next
  clear J B S;refine Y5 ?_;refine aG (kA (CB u ρ) (show bS (aL 8 (Value.int IntKind.u64 0))=8 from rfl)) ?_;skip;refine Qu (lo:=H.next) (c1:=us x) (o8.ext ((Ext.refl K).push _)) ω ω ω (by show H.next<=K.next+1;omega) ω ρ ρ (fA (cs:=us x) (z3 K _) ae (by rw[aF,u.len])) (by rw[aF,u.len]) (bZ _) ?_;intro v2 h9 o9 x9;have n9:K.next+1<=h9.next:=x9.next
  have aw:Own lo h9 8 (.slice a l.length c) l.length (ssL l):=g.keep ω λz _ hz=>(x9.old z hz).trans ((z4 ω).trans (V.old z hz));refine Y6 ?_;refine Qy (i:=k) aw n ρ ρ ?_;intro u3 be Q G;have cJ:=G.next
  rw[Gf t]at Q;skip;refine TT (lo:=H.next) (o9.ext G) ω ω ω ω ω ω ρ ρ Q (by rw[fP (λr hr=>t r (List.mem_of_mem_drop hr)),Kd]) (Gg _) ?_;intro v4 bj ar aE;refine Y3 ?_;exact cW (aE.log.trans (G.log.trans (x9.log.trans (I.log.trans hL)))) rfl (ar.low ω)
structure LA (T:Nat->Option aq):Prop where
 rf:Uk T
 pt:Uj T
 f258:T 146=some f258
 f316:T 169=some f316
def mj(s:List Nat):List Nat:=iD (shC (-(cA s).1.lo.x) (-(cA s).1.lo.y) (-(cA s).1.lo.z)) s
def rS(s:List Nat):Rng (cA s).1 (-(cA s).1.lo.x) (-(cA s).1.lo.y) (-(cA s).1.lo.z):=by
 obtain⟨⟨b,c,d⟩,⟨h1,h2,a⟩⟩:=iG s;exact⟨ω,ω,ω⟩
def y6(s:List Nat):IsS (mj s):=nR (rS s)
variable{s:List Nat}
def Rv(F:LA T)(hr:Rdy h)(q:IsS s)(O:¬s=s0):Pu T 169 [sv s] h (sv (mj s)):=by
 have U:=F.pt.p;refine .of U F.f316 hr (rq _) ?_;have Y:=aN q.len;have Z:=aU q.len;have K:Ext h ((h.push (qt (cellsOf (sv s)))).push (qt (aL 8 (.int .u64 0)))):=((Ext.refl h).push _).push _;have G:((h.push (qt (cellsOf (sv s)))).push (qt (aL 8 (.int .u64 0)))).get h.next=some (qt (us s)):=YG
 have I:((h.push (qt (cellsOf (sv s)))).push (qt (aL 8 (.int .u64 0)))).get (h.next+1)=some (qt (us s0)):=YG;have n0:((h.push (qt (cellsOf (sv s)))).push (qt (aL 8 (.int .u64 0)))).next=h.next+2:=rfl
 refine Y4 ?_;generalize((h.push (qt (cellsOf (sv s)))).push (qt (aL 8 (.int .u64 0))))=H at*;have W:=K.wf hr.wf;have Q:=K.log.trans hr.log;have a:=iG s;have f:=y6 s;have l:=rS s;have b:∀c∈aW s 512,inG (shC (-(cA s).1.lo.x) (-(cA s).1.lo.y) (-(cA s).1.lo.z) c)=true:=λc S=>l.all (dZ.1 S);have m:=Bh F.rf.tr F.rf.f138 (h:=η H) (.of W) q;have j:(cA s).2=true:=by unfold cA;rw[if_neg O]
 have k:mj s=iD (shC (-(cA s).1.lo.x) (-(cA s).1.lo.y) (-(cA s).1.lo.z)) s:=rfl;generalize mj s=o at*;generalize cA s=bb at*;obtain⟨n,E⟩:=bb;dsimp only at a l b j k;subst j;unfold JQ at m;dsimp only at m;have B:=a.lo.x;have C:=a.lo.y;have D:=a.lo.z;have nx:=He B;have ny:=He C;have nz:=He D;refine cQ (E0:=[(1, sb h.next),(2, sb (h.next+1)),(3, sb H.next),(4, .bool true)]) (P:=λe=>Ext H e∧e.next=H.next+1/\e.get H.next=some (qt (bxL n))) ?_ ?_
 ·refine Y3 ?_;refine FW.pu m ?_;refine Y6 ?_;refine bA ?_;refine y1 ?_;exact⟨rfl,rfl,rfl,ff ω _ _,rfl,iW _ _⟩
 clear m;rintro g ⟨r,n1,J⟩;have M:=r.wf W;have u:=r.log.trans Q;have i:=(r.old _ ω).trans G;have d:=(r.old _ ω).trans I;clear G I;have t:=Fx F.rf.tr F.rf.f225 (h:=η g) (.of M) q (x:= -n.lo.x) (y:= -n.lo.y) (z:= -n.lo.z) ⟨ω,ω⟩ ⟨ω,ω⟩ ⟨ω,ω⟩ b;rw[←k]at t;have w:=aN f.len;have A:=aU f.len;have V:=f.len;refine Y8 ?_;refine cQ (E0:=[(2, sb (h.next+1)),(5, sb g.next)]) (P:=λe=>Ext g e∧e.next=g.next+1/\e.get g.next=some (qt (us o))) ?_ ?_
 ·refine Y5 ?_;refine aG (LS ρ τ) ?_;refine Y3 ?_;refine aG (LS ρ τ) ?_;refine Y3 ?_;refine aG (LS ρ τ) ?_;refine yC ?_;refine FW.pu t ?_;refine Y4 ?_;refine aG (bH ρ ρ YG (by(simp only[aF];assumption)) ρ (by exact bZ _)) ?_;refine yM ?_;refine bA ?_;refine y1 ?_;refine⟨rfl,rfl,rfl,(by first|exact ff ω _ _|skip),rfl,?_⟩
  (simp(disch:=first|omega|(simp only[z1,z2];omega))only[z3,z4,z5,z6,z7,z1,z2,J,i,d];done)
 clear t;rintro X ⟨L,n2,q2⟩;have v:=L.log.trans u;have N:=(L.old _ ω).trans d;clear i d J;refine y4 ?_;refine yV ?_;refine aG (bH ρ ρ τ (by(simp only[aF];assumption)) ρ (by exact bZ _)) ?_;refine y3 ?_;refine pq ?_;refine an ?_ (bV (own:=true) (s:=1) rfl ?_ A w rfl) rfl
 ·rw[Heap.aA ω];exact v
 ·exact YG
def se(b:List Nat)(n:Nat):List (List Nat):=((List.range n).map λt=>mj (dY b t)).foldl qP []
def tA(b:List Nat)(n:Nat):se b (n+1)=qP (se b n) (mj (dY b n)):=by
 unfold se;rw[P2,A1,yr];rfl
def CJ(b:List Nat):∀n,∀s∈se b n,IsS s
 |0=>λs hs=>by cases hs
 |n+1=>by rw[tA];exact Dp (CJ b n) (y6 _)
def zx(b:List Nat):∀n,(se b n).length<=n
 |0=>bl _
 |n+1=>by rw[tA];exact gy (FT _ _) (Nat.succ_le_succ (zx b n))
def zw(b p:List Nat):∀n,p∈se b n↔ ∃t,t<n/\mj (dY b t)=p
 |0=>⟨λh=>(by cases h),λ⟨t,h,_⟩=>ω⟩
 |n+1=>by
  rw[tA,FQ,zw b p n];constructor
  ·rintro(rfl|⟨t,h1,h2⟩)
   ·exact⟨n,eA n,rfl⟩
   ·exact⟨t,ω,h2⟩
  ·rintro⟨t,h1,h2⟩;rcases Hk t n with q|q
   ·exact .inr ⟨t,q,h2⟩
   ·obtain rfl:t=n:=ω
    exact .inl h2.symm
def DP(hb:IsS b)(e:¬b=s0)(t:Nat):¬dY b t=s0:=by
 intro q;have a:∀x∈aW b 512,inG (gQ t x)=true:=λc d=>oJ c (jt d);obtain⟨c,d⟩:=p8 hb e;have:=(jS a (gQ t c)).2 ⟨c,d,rfl⟩;rw[show iD (gQ t) b=s0 from q,oE]at this;cases this
def Kb(F:LA T)(hr:Rdy h)(hb:IsS b)(K:¬b=s0):Al T 146 [sv b] h λv a=>Own h.next a 8 v (se b 24).length (ssL (se b 24)):=by
 have M:=F.pt.p;refine .of M F.f258 hr (λv h1 N q=>Own.Bu N q) ?_;have Z:=aN hb.len;have k9:=aU hb.len;have J:Ext h (h.push (qt (cellsOf (sv b)))):=(Ext.refl h).push _;have A:(h.push (qt (cellsOf (sv b)))).get h.next=some (qt (us b)):=YG
 have n0:(h.push (qt (cellsOf (sv b)))).next=h.next+1:=rfl
 refine Y4 ?_;generalize(h.push (qt (cellsOf (sv b))))=H at*;have W:=J.wf hr.wf;have L:=J.log.trans hr.log;refine Y8 ?_
 refine aY (λm e z a=>∃(t:Nat) (v:Value),t<=24/\24-t=m/\e=[(1, sb h.next),(3,v),(4, zc (t:Nat))]/\z=[]/\Ext H a∧Own H.next a 8 v (se b t).length (ssL (se b t)))
  ⟨0,_,hK _,rfl,rfl,rfl, .refl H, .nil⟩ ?_
 rintro m e z G ⟨t,v,E,rfl,rfl,rfl,g,I⟩;have y:=g.wf W;have f:=g.log.trans L;have B:=(g.old _ ω).trans A;have nG:=g.next
 by_cases ht:t<24
 ·have s:zd t 24 true:=dz ω;have c:=nY b t;have o:=DP hb K t;have u:=Lj F.rf.tr (h:=η G) (.of y) hb ht;have r:=tA b t;have n:=CJ b t;have D:=zx b t;generalize dY b t=p at*;have k:=y6 p;generalize se b t=l at*;have O:=aN c.len;have Q:=aU c.len;have S:=c.len;refine Y10 ?_;refine cQ (E0:=[(1, sb h.next),(3,v),(4, zc (t:Nat)),(5, sb G.next)]) (P:=λa=>Ext G a∧a.next=G.next+1/\a.get G.next=some (qt (us p))) ?_ ?_
  ·refine Y4 ?_;refine FW.pu u ?_;refine Y4 ?_;refine aG (bH ρ ρ YG (by(simp only[aF];assumption)) ρ (by exact bZ _)) ?_;refine yM ?_;refine bA ?_;refine y1 ?_;refine⟨rfl,rfl,rfl,(by first|exact ff ω _ _|skip),rfl,?_⟩
   (simp(disch:=first|omega|(simp only[z1,z2];omega))only[z3,z4,z5,z6,z7,z1,z2,A,B];done)
  clear u;rintro j ⟨i,n1,q1⟩;have d:=i.wf y;have C:=i.log.trans f;have w:=Rv F (h:=η j) (.of d) c o;have x:=HC F.pt (h:=η j) (.of d) (lo:=H.next) (by show H.next<=j.next;omega) n ((I.ext i).log []) ω k;clear B;refine Y4 ?_;refine FW.pu w ?_;clear w;skip;refine yC ?_;refine FW.al x (λv a m q=>q.log m) ?_;rintro V Y X U;clear x;refine yM ?_;refine bA ?_;refine Y8 ?_;exact⟨24-(t+1),ω,t+1,V,ω,rfl,rfl,rfl,(g.trans i).trans X,by rw[r];exact U⟩
 ·obtain rfl:t=24:=ω
  have s:zd ((24:Nat):Int) 24 false:=rfl;generalize se b 24=l at*;refine Y16 ?_;exact cW f rfl (I.low ω)
def UH{x y z x' y' z':Int}(r:Rng (cA s).1 x y z)(h:Rng (cA (iD (shC x y z) s)).1 x' y' z')(j:Rng (cA s).1 (x+x') (y+y') (z+z')):
 iD (shC x' y' z') (iD (shC x y z) s)=iD (shC (x+x') (y+y') (z+z')) s:=by
 have h1:∀c∈aW s 512,inG (shC x y z c)=true:=λc a=>r.all (dZ.1 a);have h2:∀c∈aW (iD (shC x y z) s) 512,inG (shC x' y' z' c)=true:=λc a=>h.all (dZ.1 a);have k:∀c∈aW s 512,inG (shC (x+x') (y+y') (z+z') c)=true:=λc a=>j.all (dZ.1 a);refine ya (nR h) (nR j) λm i n l=> ?_;have e:eU (iD (shC x' y' z') (iD (shC x y z) s)) (fk m i)=true↔eU (iD (shC (x+x') (y+y') (z+z')) s) (fk m i)=true:=by
  rw[jS h2,jS k];constructor
  ·rintro⟨c,a,b⟩;obtain⟨d,f,rfl⟩:=(jS h1 c).1 a;refine⟨d,f,?_⟩;rw[←b];unfold shC;dsimp only;congr 1<;>omega
  ·rintro⟨d,f,g⟩;refine⟨shC x y z d,(jS h1 _).2 ⟨d,f,rfl⟩,?_⟩;rw[←g];unfold shC;dsimp only;congr 1<;>omega
 cases h1:eU (iD (shC x' y' z') (iD (shC x y z) s)) (fk m i)with
 |true=>rw[e.1 h1]
 |false=>
  cases h2:eU (iD (shC (x+x') (y+y') (z+z')) s) (fk m i)with
  |false=>rfl
  |true=>rw[e.2 h2]at h1;cases h1
def y7(c:Ce):eU (mj s) c=true↔ ∃d,eU s d=true/\shC (-(cA s).1.lo.x) (-(cA s).1.lo.y) (-(cA s).1.lo.z) d=c:=
 jS (λc a=>(rS s).all (dZ.1 a)) c
def Rw(d:IsS s)(a:¬s=s0):¬mj s=s0:=by
 intro q;obtain⟨c,b⟩:=p8 d a;have:=(y7 (s:=s) _).2 ⟨c,b,rfl⟩;rw[q,oE]at this;cases this
def IG(e:IsS s)(a:¬s=s0):(cA (mj s)).1.hi.x=(cA s).1.hi.x-(cA s).1.lo.x/\(cA (mj s)).1.hi.y=(cA s).1.hi.y-(cA s).1.lo.y/\(cA (mj s)).1.hi.z=(cA s).1.hi.z-(cA s).1.lo.z:=by
 obtain⟨⟨r,t,u⟩,⟨o,p,q⟩⟩:=iG s;obtain⟨⟨i,j,k⟩,⟨f,g,h⟩⟩:=iG (mj s);obtain⟨c0,hc0⟩:=p8 e a;have m:=om hc0;have up:=GM (Rw e a) (x:=(cA s).1.hi.x-(cA s).1.lo.x) (y:=(cA s).1.hi.y-(cA s).1.lo.y) (z:=(cA s).1.hi.z-(cA s).1.lo.z) ω ω ω λc b=>by
  obtain⟨d,l,rfl⟩:=(y7 c).1 b;have:=om l;unfold shC;dsimp only;omega
 have n:=GM a (x:=(cA (mj s)).1.hi.x+(cA s).1.lo.x) (y:=(cA (mj s)).1.hi.y+(cA s).1.lo.y) (z:=(cA (mj s)).1.hi.z+(cA s).1.lo.z) ω ω ω λc b=>by
  have:=om ((y7 _).2 ⟨c,b,rfl⟩);unfold shC at this;dsimp only at this;omega
 omega
def InC(s:List Nat)(x y z:Nat):Prop:=(x:Int)<=7-(cA s).1.hi.x/\(y:Int)<=7-(cA s).1.hi.y/\(z:Int)<=7-(cA s).1.hi.z
variable{y z:Nat}
def InC.rng{x:Nat}(h:InC s x y z):Rng (cA s).1 x y z:=by
 obtain⟨⟨e,f,g⟩,⟨b,c,d⟩⟩:=iG s;obtain⟨h1,h2,a⟩:=h;exact⟨ω,ω,ω⟩
def Vj(a:List Nat)(im:List (List Nat))(p:List Nat):Prop:=∃s∈im,∃x y z:Nat,InC s x y z/\iD (shC x y z) s=p/\sIn p a=true
def HA(hb:IsS b)(j:¬b=s0):Vj a (se b 24) p↔UK a b p:=by
 constructor
 ·rintro⟨s,u,x,y,z,c,rfl,d⟩;obtain⟨t,ht,rfl⟩:=(zw b s 24).1 u;have q:=IG (nY b t) (DP hb j t);have e:=rS (dY b t);have f:=c.rng;obtain⟨E,F,G⟩:=c;obtain⟨⟨B,C,D⟩,⟨v,w,A⟩⟩:=iG (dY b t);have l:Rng (cA (dY b t)).1 (-(cA (dY b t)).1.lo.x+x) (-(cA (dY b t)).1.lo.y+y) (-(cA (dY b t)).1.lo.z+z):=⟨ω,ω,ω⟩;exact⟨t,ht,_,_,_,l,(UH e f l).symm,d⟩
 ·rintro⟨t,ht,x,y,z,r,rfl,d⟩;have q:=IG (nY b t) (DP hb j t);have e:=rS (dY b t);obtain⟨⟨B,C,D⟩,⟨v,w,A⟩⟩:=iG (dY b t);obtain⟨m,n,o⟩:=r;have c:InC (mj (dY b t)) ((cA (dY b t)).1.lo.x+x).toNat ((cA (dY b t)).1.lo.y+y).toNat ((cA (dY b t)).1.lo.z+z).toNat:=⟨ω,ω,ω⟩;have f:=c.rng;have g: -(cA (dY b t)).1.lo.x+(((cA (dY b t)).1.lo.x+x).toNat:Int)=x:=ω
  have h: -(cA (dY b t)).1.lo.y+(((cA (dY b t)).1.lo.y+y).toNat:Int)=y:=ω
  have i: -(cA (dY b t)).1.lo.z+(((cA (dY b t)).1.lo.z+z).toNat:Int)=z:=ω
  have k:=UH e f (by rw[g,h,i];exact⟨m,n,o⟩);rw[g,h,i]at k;exact⟨_,(zw b _ 24).2 ⟨t,ht,rfl⟩,_,_,_,c,k,d⟩
structure PlI (a:List Nat) (im:List (List Nat)) (i z y x:Nat) (l:List (List Nat)):Prop where
 ok:∀p∈l,IsS p
 pw:l.Pairwise SLt
 sound:∀p∈l,Vj a im p
 comp:∀j s,im[j]? =some s->∀x' y' z':Nat,InC s x' y' z'→(j<i∨j=i/\(z'<z∨z'=z/\(y'<y∨y'=y/\x'<x)))->sIn (iD (shC x' y' z') s) a=true->iD (shC x' y' z') s∈l
def PlI.nil{a:List Nat}{im:List (List Nat)}:PlI a im 0 0 0 0 []:=
 ⟨λp b=>(by cases b), .nil,(λp b=>by cases b),λj s _ c d e _ h _=>ω⟩
variable{im:List (List Nat)}
def PlI.skip{x:Nat}(q:PlI a im i z y x l)(hi:im[i]? =some s)(k:sIn (iD (shC x y z) s) a=false):PlI a im i z y (x+1) l:=by
 obtain⟨m,n,o,p⟩:=q;refine⟨m,n,o,λj r c e f g b h d=> ?_⟩;by_cases he:j=i/\g=z/\f=y/\e=x
 ·obtain⟨rfl,rfl,rfl,rfl⟩:=he;rw[hi]at c;cases c;rw[k]at d;cases d
 ·exact p j r c e f g b ω d
def PlI.put{x:Nat}(q:PlI a im i z y x l)(hi:im[i]? =some s)(f:InC s x y z)(o:sIn (iD (shC x y z) s) a=true):PlI a im i z y (x+1) (qP l (iD (shC x y z) s)):=by
 obtain⟨g,t,u,v⟩:=q;have b:=nR f.rng;refine⟨Dp g b,Jm g b t,λp e=> ?_,λj w d h k m c n r=> ?_⟩
 ·rcases Ad e with rfl|e
  ·exact⟨s,ci hi,x,y,z,f,rfl,o⟩
  ·exact u p e
 ·by_cases he:j=i/\m=z/\k=y/\h=x
  ·obtain⟨rfl,rfl,rfl,rfl⟩:=he;rw[hi]at d;cases d;exact Ae (.inl rfl)
  ·exact Ae (.inr (v j w d h k m c ω r))
def PlI.MT{x:Nat}(q:PlI a im i z y x l)(hi:im[i]? =some s)(r:¬ (x:Int)<=7-(cA s).1.hi.x):PlI a im i z (y+1) 0 l:=by
 obtain⟨f,g,h,k⟩:=q;refine⟨f,g,h,λj m c n o p b d e=>k j m c n o p b ?_ e⟩;by_cases he:j=i
 ·subst he;rw[hi]at c;cases c;obtain⟨t,u,v⟩:=b;omega
 ·omega
def PlI.abg(q:PlI a im i z y 0 l)(hi:im[i]? =some s)(r:¬ (y:Int)<=7-(cA s).1.hi.y):PlI a im i (z+1) 0 0 l:=by
 obtain⟨f,g,h,k⟩:=q;refine⟨f,g,h,λj m c n o p b d e=>k j m c n o p b ?_ e⟩;by_cases he:j=i
 ·subst he;rw[hi]at c;cases c;obtain⟨t,u,v⟩:=b;omega
 ·omega
def PlI.abh(q:PlI a im i z 0 0 l)(hi:im[i]? =some s)(r:¬ (z:Int)<=7-(cA s).1.hi.z):PlI a im (i+1) 0 0 0 l:=by
 obtain⟨f,g,h,k⟩:=q;refine⟨f,g,h,λj m c n o p b d e=>k j m c n o p b ?_ e⟩;by_cases he:j=i
 ·subst he;rw[hi]at c;cases c;obtain⟨t,u,v⟩:=b;omega
 ·omega
def SQ(a b:List Nat):(mO a b).Pairwise SLt:=by
 unfold mO;split
 ·exact .nil
 ·have h:∀s∈(jC a b).map (·.s),IsS s:=λs c=>by
   obtain⟨f,d,rfl⟩:=List.mem_map.1 c;exact(xX d).1
  exact ML (λs c=>h s (iA.1 c)) (Jt h)
def V0(d:IsS a)(hb:IsS b)(c:¬b=s0)(e:l.Pairwise SLt)(g:∀p∈l,Vj a (se b 24) p):l.length<=98304:=
 gy (zP (K4 e) λp f=>(yc d hb c).2 ((HA hb c).1 (g p f))) (vA a b)
def VZ(h:IsS a)(hb:IsS b)(c:¬b=s0)(q:PlI a (se b 24) (se b 24).length 0 0 0 l):l=mO a b:=by
 obtain⟨m,n,o,p⟩:=q;refine AF m (λs f=>qD f) n (SQ a b) λx=>⟨λg=>(yc h hb c).2 ((HA hb c).1 (o x g)),λg=> ?_⟩;obtain⟨s,f,r,t,u,d,rfl,k⟩:=(HA hb c).2 ((yc h hb c).1 g);obtain⟨j,i⟩:=List.getElem?_of_mem f;have e:=(List.getElem?_eq_some_iff.1 i).1;exact p j s i r t u d (.inl e) k
structure Um (T:Nat->Option aq):Prop where
 im:LA T
 f199:T 120=some f199
variable{u:Value}
def Own.Uw{a:Nat}{k:Int}(b:dA (.tuple #[u, zc k])=true)(q:Own lo h sz u n cs):Own a h' sz u n cs:=by
 cases q with
 |nil=>exact .nil
 |full h1 h2 h3 h4 h5=>
  simp[dA,jf,dQ,flat,oV,mI]at b;try cases b.1
def HV(F:Um T)(hr:Rdy h)(ha:IsS a)(hb:IsS b)(E:¬b=s0):
 Al T 120 [sv a,sv b] h λv d=>∃u,v= .tuple #[u, zc 0]/\Own h.next d 8 u (mO a b).length (ssL (mO a b)):=by
 have hp:=F.im.pt.p;refine .of hp F.f199 hr (λv h1 hv ⟨u,e,q⟩=>⟨u,e,by subst e;exact Own.Uw hv q⟩) ?_;have eK:=aN ha.len;have eQ:=aU ha.len;have f0:=aN hb.len;have f7:=aU hb.len;have x0:Ext h ((h.push (qt (cellsOf (sv a)))).push (qt (cellsOf (sv b)))):=((Ext.refl h).push _).push _;have gA:((h.push (qt (cellsOf (sv a)))).push (qt (cellsOf (sv b)))).get h.next=some (qt (us a)):=YG
 have gB:((h.push (qt (cellsOf (sv a)))).push (qt (cellsOf (sv b)))).get (h.next+1)=some (qt (us b)):=YG;have n0:((h.push (qt (cellsOf (sv a)))).push (qt (cellsOf (sv b)))).next=h.next+2:=rfl
 refine Y6 ?_;generalize((h.push (qt (cellsOf (sv a)))).push (qt (cellsOf (sv b))))=H at*;have W:=x0.wf hr.wf;have hL:=x0.log.trans hr.log;have bj:=λ(l:List (List Nat))=>V0 ha hb E (l:=l);have aw:=λ(l:List (List Nat))=>VZ ha hb E (l:=l);have J:=CJ b 24;have eg:=zx b 24;have C:=Kb F.im (h:=η H) (.of W) hb E;generalize se b 24=im at*;generalize mO a b=res at*;refine Y4 ?_;refine aG (jK (b:=s0) ρ ρ hb.len rfl) ?_;rw[decide_eq_false E];refine Y10 ?_;refine FW.al C (λv d m q=>q.log m) ?_;rintro v B x2 qi;clear C;have qi:Own H.next B 8 v im.length (ssL im):=qi
 have cJ:=x0.trans x2;have W2:=cJ.wf hr.wf;have ar:=x2.log.trans hL;have n2:=x2.next
 have Y:=(x2.old _ ω).trans gA;have si:SsQ B v im:=⟨qi.slice ω,J⟩;obtain⟨ai,U,rfl⟩:=si.sl.form;clear gA gB qi;refine Y7 ?_
 refine aY (λm e t d=>∃(i:Nat) (v:Value) (l:List (List Nat)),i<=im.length/\im.length-i=m/\e=[(2, sb h.next),(6,v),(7, .slice ai im.length U),(8, zc (i:Nat))]/\t=[]/\Ext B d∧Own B.next d 8 v l.length (ssL l)/\PlI a im i 0 0 0 l)
  ⟨0,_,[],hK _,rfl,rfl,rfl, .refl B, .nil, .nil⟩ ?_
 rintro m e t G ⟨i,v,l,hi,rfl,rfl,rfl,xG,r,j⟩;have WG:=xG.wf W2;have cY:=xG.log.trans ar;have nG:=xG.next
 by_cases hlt:i<im.length
 ·obtain⟨s,o⟩:∃s,im[i]? =some s:=⟨im[i],bx hlt⟩;have hs:=J s (ci o);have fb:=aN hs.len;have fd:=aU hs.len;obtain⟨S,oi,c2,vs,fg,tt,hv,gl,d9,el⟩:=(si.ext xG).elem o;cases hv;have dj:zd i im.length true:=dz ω;have D2:=Bh F.im.rf.tr F.im.rf.f138 (h:=η G) (.of WG) hs;have n:=iG s;have da:=λ(x y z:Nat) (l:List (List Nat)) (q:PlI a im i z y x l)=>q.skip o;have A:=λ(x y z:Nat) (l:List (List Nat)) (q:PlI a im i z y x l)=>q.put o;have aE:=λ(x y z:Nat) (l:List (List Nat)) (q:PlI a im i z y x l)=>q.MT o;have ba:=λ(y z:Nat) (l:List (List Nat)) (q:PlI a im i z y 0 l)=>q.abg o;have be:=λ(z:Nat) (l:List (List Nat)) (q:PlI a im i z 0 0 l)=>q.abh o;have L:=λ(x y z:Nat) (hc:InC s x y z)=>nR hc.rng;have g:=λ(x y z:Nat) (hc:InC s x y z) (c:Ce) (h:c∈aW s 512)=>hc.rng.all (dZ.1 h);unfold InC at A L g;generalize hbb:cA s=bb at*;obtain⟨D,dC⟩:=bb;dsimp only at n A aE ba be L g;unfold JQ at D2;dsimp only at D2;have fj:=n.lo.x;have dp:=n.hi.x;have fw:=n.lo.y;have du:=n.hi.y;have fX:=n.lo.z;have dv:=n.hi.z;have sx:=dV dp;have sy:=dV du;have sz:=dV dv;refine Y12 ?_;refine cQ (E0:=[(2, sb h.next),(6,v),(7, .slice (some ⟨S,oi,none⟩) im.length U),(8, zc (i:Nat)),(9, sb G.next)]) (P:=λd=>Ext G d∧d.next=G.next+1/\d.get G.next=some (qt (bxL D))) ?_ ?_
  ·refine Y6 ?_;refine FW.pu D2 ?_;refine Y6 ?_;refine bA ?_;refine y1 ?_;exact⟨rfl,rfl,rfl,ff ω _ _,rfl,iW _ _⟩
  clear D2;rintro Q ⟨f,n3,q3⟩;have cj:=r.ext f;have xH:=xG.trans f;have Z:=(f.old _ d9).trans gl;have kq:G.next<Q.next:=ω
  generalize G.next=q at*
  clear r gl f n3;refine Y4 ?_
  refine aY (λk e t d=>∃(z:Nat) (v:Value) (l:List (List Nat)),z<=8/\8-z=k/\e=[(2, sb h.next),(6,v),(7, .slice (some ⟨S,oi,none⟩) im.length U),(8, zc (i:Nat)),(9, sb q),(11, zc (z:Nat))]/\t=[]/\Ext Q d∧Own B.next d 8 v l.length (ssL l)/\PlI a im i z 0 0 l)
   ⟨0,_,l,ω,rfl,rfl,rfl, .refl Q,cj,j⟩ ?_
  clear cj j;rintro k e t K ⟨z,v,l,eJ,rfl,rfl,rfl,f,r,j⟩;have N:=(f.old _ kq).trans q3;by_cases hle:(z:Int)<=7-D.hi.z
  ·have lz:zp z (7-D.hi.z) true:=fF hle;refine Y18 ?_
   refine aY (λk e t d=>∃(y:Nat) (v:Value) (l:List (List Nat)),y<=8/\8-y=k/\e=[(2, sb h.next),(6,v),(7, .slice (some ⟨S,oi,none⟩) im.length U),(8, zc (i:Nat)),(9, sb q),(11, zc (z:Nat)),(12, zc (y:Nat))]/\t=[]/\Ext Q d∧Own B.next d 8 v l.length (ssL l)/\PlI a im i z y 0 l)
    ⟨0,_,l,ω,rfl,rfl,rfl,f,r,j⟩ ?_
   clear r j f N;rintro k e t K ⟨y,v,l,eI,rfl,rfl,rfl,f,r,j⟩;have N:=(f.old _ kq).trans q3;by_cases hley:(y:Int)<=7-D.hi.y
   ·have ly:zp y (7-D.hi.y) true:=fF hley;refine Y18 ?_
    refine aY (λk e t d=>∃(x:Nat) (v:Value) (l:List (List Nat)),x<=8/\8-x=k/\e=[(2, sb h.next),(6,v),(7, .slice (some ⟨S,oi,none⟩) im.length U),(8, zc (i:Nat)),(9, sb q),(11, zc (z:Nat)),(12, zc (y:Nat)),(13, zc (x:Nat))]/\t=[]/\Ext Q d∧Own B.next d 8 v l.length (ssL l)/\PlI a im i z y x l)
     ⟨0,_,l,ω,rfl,rfl,rfl,f,r,j⟩ ?_
    clear r j f N;rintro k e t K ⟨x,v,l,eq,rfl,rfl,rfl,f,r,j⟩;have N:=(f.old _ kq).trans q3;have V:=(xH.trans f).wf W2;have cX:=(xH.trans f).log.trans ar;by_cases hlex:(x:Int)<=7-D.hi.x
    ·have lx:zp x (7-D.hi.x) true:=fF hlex;have w:=L x y z ⟨hlex,hley,hle⟩;have ae:=(f.old _ (show S<Q.next by omega)).trans Z;have n3:=f.next
     have D3:=Fx F.im.rf.tr F.im.rf.f225 (h:=η K) (.of V) hs (x:=(x:Nat)) (y:=(y:Nat)) (z:=(z:Nat)) ⟨ω,ω⟩ ⟨ω,ω⟩ ⟨ω,ω⟩ (g x y z ⟨hlex,hley,hle⟩);have cd:=da x y z l j;have M:=λq=>A x y z l j ⟨hlex,hley,hle⟩ q;generalize iD (shC x y z) s=ls at*;have f9:=aU w.len;have f8:=aN w.len;have dE:=w.len;have eh:=bj l j.pw j.sound;have bo:=j.ok;refine Y14 ?_;refine cQ (E0:=[(2, sb h.next),(6,v),(7, .slice (some ⟨S,oi,none⟩) im.length U),(8, zc (i:Nat)),(9, sb q),(11, zc (z:Nat)),(12, zc (y:Nat)),(13, zc (x:Nat)),(14, sb K.next)]) (P:=λd=>Ext K d∧d.next=K.next+1/\d.get K.next=some (qt (us ls))) ?_ ?_
     ·refine Y9 ?_;refine FW.pu D3 ?_;refine Y4 ?_;refine aG (bH ρ ρ YG (by(simp only[aF];assumption)) ρ (by exact bZ _)) ?_;refine yM ?_;refine bA ?_;refine y1 ?_;refine⟨rfl,rfl,rfl,(by first|exact ff ω _ _|skip),rfl,?_⟩
      (simp(disch:=first|omega|(simp only[z1,z2];omega))only[z3,z4,z5,z6,z7,z1,z2,Y,Z,q3,N,ae];done)
     clear D3 N ae;rintro G4 ⟨x4,n4,N⟩;have X:=x4.wf V;have e9:=x4.log.trans cX;have I:=f.trans x4;have dT:=((xH.trans I).old _ ω).trans Y;have O:=Av hp F.im.rf.f52 F.im.rf.f140 (h:=η G4) (.of X) w ha;have D5:=HC F.im.pt (h:=η G4) (.of X) (lo:=B.next) (by show B.next<=G4.next;have:=(xH.trans I).next;omega) bo ((r.ext x4).log []) ω w;clear hbb;cases hin:sIn ls a with
     |false=>
      rw[hin]at O;refine Y4 ?_;refine FW.pu O ?_;clear O D5;refine Y14 ?_;exact⟨8-(x+1),ω,x+1,v,l,ω,rfl,rfl,rfl,I,r.ext x4,cd hin⟩
     |true=>
      rw[hin]at O;refine Y4 ?_;refine FW.pu O ?_;clear O;refine Y10 ?_;refine FW.al D5 (λv d m q=>q.log m) ?_;rintro v5 G5 x5 q5;clear D5;refine yM ?_;refine bA ?_;refine Y8 ?_;exact⟨8-(x+1),ω,x+1,v5,_,ω,rfl,rfl,rfl,I.trans x5,q5,M hin⟩
    ·have lx:zp x (7-D.hi.x) false:=fE ω;refine Y21 ?_;exact⟨8-(y+1),ω,y+1,v,l,ω,rfl,rfl,rfl,f,r,aE x y z l j hlex⟩
   ·have ly:zp y (7-D.hi.y) false:=fE ω;refine Y21 ?_;exact⟨8-(z+1),ω,z+1,v,l,ω,rfl,rfl,rfl,f,r,ba y z l j hley⟩
  ·have lz:zp z (7-D.hi.z) false:=fE ω;refine Y21 ?_;exact⟨im.length-(i+1),ω,i+1,v,l,ω,rfl,rfl,rfl,xH.trans f,r,be z l j hle⟩
 ·obtain rfl:i=im.length:=ω
  have dj:zd im.length im.length false:=dG ω;have e:=aw l j;subst e;refine Y19 ?_;exact cW cY rfl ⟨_,rfl,r.low ω⟩
def aH.YM(s:aH h sz v n cs)(e:h.next<=h'.next)(d:∀z,z<h.next->h'.get z=h.get z):aH h' sz v n cs:=by
 cases s with
 |nil=>exact .nil
 |mem s hc=>
  obtain⟨f,a,t,b,c⟩:=s.obj;exact .mem ⟨m6 s.lt e,⟨f,a,t,(d _ s.lt).trans b,c⟩,s.len⟩ hc
def RB(f:List Nat)(k:Nat):fL (f++[k])=fL f++[.int .u8 (k:Nat)]:=by simp[fL]
def pV(w:List Nat×List Nat)(ps:List (List Nat)):List (List Nat):=ps.foldl (λl p=>qP l (eX p w.1)) []
def zN(w:List Nat×List Nat)(ps:List (List Nat))(p:List Nat):pV w (ps++[p])=qP (pV w ps) (eX p w.1):=by
 unfold pV;rw[yr];rfl
def wz{w:List Nat×List Nat}(g:IsW w):∀n:Nat,∀ps:List (List Nat),ps.length=n->(∀p∈ps,IsS p)->(∀s∈pV w ps,IsS s)/\(pV w ps).Pairwise SLt/\(pV w ps).length<=n/\∀q,q∈pV w ps↔ ∃p∈ps,eX p w.1=q
 |0,ps,hn,_=>by
  obtain rfl:ps=[]:=List.length_eq_zero_iff.1 hn;exact⟨λs k=>(by cases k), .nil,bl _,λq=>⟨λh=>(by cases h),λ⟨p,h,_⟩=>(by cases h)⟩⟩
 |n+1,ps,hn,hok=>by
  have c:ps≠[]:=λe=>by rw[e]at hn;cases hn
  have e:=List.dropLast_concat_getLast c;have hl:ps.dropLast.length=n:=by rw[List.length_dropLast];omega
  have l:=hok _ (List.getLast_mem c);have j:∀p∈ps.dropLast,IsS p:=λp b=>hok p ((List.dropLast_sublist ps).subset b);generalize ps.getLast c=x at*;generalize ps.dropLast=d at*;subst e;obtain⟨h1,h2,m,i⟩:=wz g n d hl j;rw[zN];have f:=l.less g.a;refine⟨Dp h1 f,Jm h1 f h2,gy (FT _ _) ω,λq=> ?_⟩;rw[FQ,i];constructor
  ·rintro(rfl|⟨p,b,rfl⟩)
   ·exact⟨x,by simp,rfl⟩
   ·exact⟨p,GT _ b,rfl⟩
  ·rintro⟨p,b,rfl⟩;rcases List.mem_append.1 b with b|b
   ·exact .inr ⟨p,b,rfl⟩
   ·exact .inl (by rw[List.mem_singleton.1 b])
def Ol(a:IsW w)(o:List Nat):pV w (mO w.2 o)=oz w o:=by
 obtain⟨h1,h2,_,b⟩:=wz a _ (mO w.2 o) rfl λp c=>qD c;exact AF h1 (λs d=>vr a d) h2 (Fz a o) λx=>by rw[b,BF]
def lbS(l:List (List Nat))(i:Nat)(x:List Nat)(n:Nat):Bool:=(List.range n).all λk=> !(!decide (k=i)&&sIn (l.getD k []) x)
def NA(l:List (List Nat))(i:Nat)(x:List Nat)(n:Nat):lbS l i x (n+1)=(lbS l i x n&& !(!decide (n=i)&&sIn (l.getD n []) x)):=by
 unfold lbS;rw[P2,QQ];simp
def zk{y:List Nat}(h:l[k]? =some y):l.getD k []=y:=by rw[dn,h];rfl
def RV(m:l.Pairwise SLt)(hi:l[i]? =some x):lbS l i x l.length= !oy l x:=by
 have c:∀k y,l[k]? =some y->(k=i↔y=x):=λk y a=>by
  constructor
  ·rintro rfl;rw[hi]at a;cases a;rfl
  ·rintro rfl;obtain⟨f,g⟩:=List.getElem?_eq_some_iff.1 hi;obtain⟨h,j⟩:=List.getElem?_eq_some_iff.1 a;rcases Nat.lt_trichotomy k i with q|q|q
   ·have:=List.pairwise_iff_getElem.1 m k i h f q;rw[g,j]at this;exact absurd this (nX _)
   ·exact q
   ·have:=List.pairwise_iff_getElem.1 m i k f h q;rw[g,j]at this;exact absurd this (nX _)
 cases hm:oy l x with
 |true=>
  unfold oy at hm;obtain⟨y,b,h2⟩:=List.any_eq_true.1 hm;rw[gk,Id,decide_eq_false_iff_not]at h2;obtain⟨k,a⟩:=List.getElem?_of_mem b;have d:=(List.getElem?_eq_some_iff.1 a).1;unfold lbS;rw[LE,List.all_eq_false];refine⟨k,List.mem_range.2 d,?_⟩;rw[zk a,h2.2,decide_eq_false (λq=>h2.1 ((c k y a).1 q))];simp
 |false=>
  unfold oy at hm;unfold lbS;rw[P1,PP];intro k a;obtain⟨y,b⟩:∃y,l[k]? =some y:=⟨l[k]'(List.mem_range.1 a),bx _⟩;rw[zk b];have:=List.any_eq_false.1 hm y (ci b);by_cases e:k=i
  ·rw[decide_eq_true e];rfl
  ·rw[decide_eq_false e];rw[decide_eq_false (λq=>e ((c k y b).2 q))]at this;cases hs:sIn y x with
   |false=>rfl
   |true=>rw[hs]at this;exact absurd rfl this
structure Ul (T:Nat->Option aq):Prop where
 rp:Um T
 f95:T 82=some f95
def Py(F:Ul T)(hr:Rdy h)(f:IsW w){o:List Nat}(ho:IsS o)(cX:¬o=s0):Al T 82 [wV w,sv o] h λv j=>Own h.next j 8 v (cE w o).length (ssL (cE w o)):=by
 have hp:=F.rp.im.pt.p;refine .of hp F.f95 hr (λv h1 O q=>Own.Bu O q) ?_;have cY:cellsOf (wV w)=wL w:=by show(wL w).toArray.toList=_;simp
 have g0:((h.push (qt (cellsOf (wV w)))).push (qt (cellsOf (sv o)))).get h.next=some (qt (wL w)):=by rw[cY];exact(z4 (eA _)).trans (z3 h _)
 have g1:((h.push (qt (cellsOf (wV w)))).push (qt (cellsOf (sv o)))).get (h.next+1)=some (qt (us o)):=z3 _ _;have n0:((h.push (qt (cellsOf (wV w)))).push (qt (cellsOf (sv o)))).next=h.next+2:=rfl
 have x0:Ext h ((h.push (qt (cellsOf (wV w)))).push (qt (cellsOf (sv o)))):=((Ext.refl h).push _).push _;refine Y5 ?_;generalize((h.push (qt (cellsOf (wV w)))).push (qt (cellsOf (sv o))))=H at*;have W:=x0.wf hr.wf;have hL:=x0.log.trans hr.log;have wk:=ja f;have f7:=gu f;have wa:=D8 f;have wb:=D9 f;have eQ:=aN f.a.len;have f0:=aN f.b.len;have k8:=aN ho.len;have k9:=aU ho.len;have C1:=HV F.rp (h:=η H) (.of W) f.b ho cX;have t:∀x∈mO w.2 o,IsS x:=λx z=>qD z;have eq:=vA w.2 o;have E:=Ol f o;have U:=Fz f o;have n:∀x∈oz w o,IsS x:=λx z=>vr f z;have e9:=wv w o;unfold cE;generalize oz w o=r at*;generalize mO w.2 o=ps at*;refine Y5 ?_;refine FW.al C1 (λv j m ⟨u,e,q⟩=>⟨u,e,q.log m⟩) ?_;rintro _ I x2 ⟨u,rfl,q2⟩;have q2:Own H.next I 8 u ps.length (ssL ps):=q2
 clear C1 g1;have aE:=x0.trans x2;have W2:=aE.wf hr.wf;have be:=x2.log.trans hL;have n2:=x2.next
 have J:=(x2.old _ ω).trans g0;have sp:SsQ I u ps:=⟨q2.slice ω,t⟩;obtain⟨a,c,rfl⟩:=sp.sl.form;clear g0 q2;refine Y14 ?_
 refine aY (λm e C j=>∃(i:Nat) (v:Value),i<=ps.length/\ps.length-i=m/\e=[(2, sb h.next),(5, .slice a ps.length c),(7,v),(8, zc (i:Nat))]/\C=[]/\Ext I j∧Own I.next j 8 v (pV w (ps.take i)).length (ssL (pV w (ps.take i))))
  ⟨0,_,hK _,rfl,rfl,rfl, .refl I, .nil⟩ ?_
 rintro m e C G ⟨i,v,hi,rfl,rfl,rfl,S,A⟩;have WG:=S.wf W2;have bo:=S.log.trans be;have nG:=S.next
 have K:=(S.old _ ω).trans J;by_cases hlt:i<ps.length
 ·obtain⟨p,L⟩:∃s,ps[i]? =some s:=⟨ps[i],bx hlt⟩;have M:=t p (ci L);have cJ:=M.less f.a;have eI:=aN M.len;obtain⟨bi,oi,c2,vs,ar,tt,O,gl,V,el⟩:=(sp.ext S).elem L;cases O;have dj:zd i ps.length true:=dz ω;have N:pV w (ps.take (i+1))=qP (pV w (ps.take i)) (eX p w.1):=by rw[eY L,zN]
  obtain⟨X,_,cj,_⟩:=wz f _ (ps.take i) rfl λx z=>t x (yn z);rw[lp]at cj;generalize pV w (ps.take i)=l at*;have D1:=Aw hp F.rp.im.rf.f140 (h:=η G) (.of WG) M f.a;have D2:=HC F.rp.im.pt (h:=η G) (.of WG) (lo:=I.next) (by show I.next<=G.next;omega) X (A.log []) ω cJ;generalize eX p w.1=lx at*;obtain⟨av,cv,rfl⟩:∃a c,v= .slice a l.length c:=(A.slice ω).form;refine Y21 ?_;refine FW.puD D1 (by(repeat apply aB rfl);apply au rfl (ah rfl (dM ρ) (by exact dw _ _ _)) rfl;exact aQ) ?_;clear D1;skip;refine qC ?_;refine FW.alD D2 (λv j m q=>q.log m) ?_;rintro v5 G5 x5 q5;clear D2;have dT:=(x5.old _ V).trans gl;have dE:=(x5.old _ (show h.next<G.next by omega)).trans K;clear gl K J;refine⟨_,by apply aB rfl;exact aQ,?_⟩;refine Y10 ?_;exact⟨ps.length-(i+1),ω,i+1,v5,ω,rfl,rfl,rfl,S.trans x5,by rw[N];exact q5⟩
 ·obtain rfl:i=ps.length:=ω
  rw[wd,E]at A;have dj:zd ps.length ps.length false:=dG ω;have sr:SsQ G v r:=⟨A.slice ω,n⟩;obtain⟨a2,c2,rfl⟩:=sr.sl.form;clear E sp A J K;refine Y21 ?_
  refine aY (λm e C j=>∃(i:Nat) (v:Value),i<=r.length/\r.length-i=m/\e=[(7, .slice a2 r.length c2),(9,v),(10, zc (i:Nat))]/\C=[]/\Ext G j∧Own G.next j 8 v ((r.take i).filter λx=> !oy r x).length (ssL ((r.take i).filter λx=> !oy r x)))
   ⟨0,_,hK _,rfl,rfl,rfl, .refl G, .nil⟩ ?_
  rintro m e C Q ⟨i,v,eh,rfl,rfl,rfl,P,A⟩;have W3:=P.wf WG;have bj:=P.log.trans bo;have n3:=P.next
  by_cases hlt:i<r.length
  ·obtain⟨x,z⟩:∃s,r[i]? =some s:=⟨r[i],bx hlt⟩;have g:=n x (ci z);have B:=vG z (λx=> !oy r x);have cd:=RV U z;have eJ:=aN g.len;have d9:=aU g.len;obtain⟨b,o1,c3,vs,ar,tt,O,gl,V,el⟩:=(sr.ext P).elem z;cases O;have eg:((r.take i).filter λx=> !oy r x).length<=r.length:=gy (Xs ..) (by rw[lp];omega);generalize((r.take i).filter λx=> !oy r x)=out at*;have ae:zd i r.length true:=dz ω;refine Y20 ?_
   refine aY (λm e C j=>∃k:Nat,k<=r.length/\r.length-k=m/\e=[(7, .slice (some ⟨b,o1,none⟩) r.length c2),(9,v),(10, zc (i:Nat)),(11, .bool (lbS r i x k)),(12, zc (k:Nat))]/\C=[]/\Q=j)
    ⟨0,hK _,rfl,rfl,rfl,rfl⟩ ?_
   rintro m e C j ⟨k,hk,rfl,rfl,rfl,rfl⟩;by_cases hkl:k<r.length
   ·obtain⟨y,hy⟩:∃s,r[k]? =some s:=⟨r[k],bx hkl⟩;have Z:=n y (ci hy);have eK:=aN Z.len;have d:=NA r i x k;rw[zk hy]at d;obtain⟨b2,o2,c3,du,aw,dp,O,ba,dv,dC⟩:=(sr.ext P).elem hy;cases O;obtain⟨rfl,rfl,rfl⟩:du=vs/\aw=ar/\dp=tt:=by
     have e:=ba.symm.trans gl;injection e with e
     injection e with e1 e2 e3
     exact⟨e1,e2,e3⟩
    have da:zd k r.length true:=dz ω;by_cases hki:k=i
    ·have mn:zB k i false:=uv ω;rw[decide_eq_true hki,LE,ab9,P1,Fd]at d;refine Y40 ?_;exact⟨r.length-(k+1),ω,k+1,ω,rfl,by rw[d],rfl,rfl⟩
    ·have mn:zB k i true:=iY ω;rw[decide_eq_false hki,P1,yi]at d;have D:=Av hp F.rp.im.rf.f52 F.rp.im.rf.f140 (h:=η Q) (.of W3) Z g;cases hin:sIn y x with
     |true=>
      rw[hin]at D d;rw[LE,M2]at d;refine Y27 ?_;refine FW.puD D (by(repeat apply aB rfl);exact aQ) ?_;clear D;refine Y7 ?_;refine bA ?_;refine Y8 ?_;exact⟨r.length-(k+1),ω,k+1,ω,rfl,by rw[d],rfl,rfl⟩
     |false=>
      rw[hin]at D d;rw[P1,Fd]at d;refine Y27 ?_;refine FW.puD D (by(repeat apply aB rfl);exact aQ) ?_;clear D;refine Y13 ?_;exact⟨r.length-(k+1),ω,k+1,ω,rfl,by rw[d],rfl,rfl⟩
   ·obtain rfl:k=r.length:=ω
    have da:zd r.length r.length false:=dG ω;rw[cd];cases hm:oy r x with
    |true=>
     rw[hm,LE,if_neg (by simp),wl]at B;rw[LE];refine Y25 ?_;exact⟨r.length-(i+1),ω,i+1,v,ω,rfl,rfl,rfl,P,by rw[B];exact A⟩
    |false=>
     rw[hm,P1,if_pos rfl]at B;rw[P1];have Y:ssL [x]=us x:=by simp[ssL]
     refine Y23 ?_;refine aG (kA (CB g ρ) (show bS (aL 8 (Value.int IntKind.u64 0))=8 from rfl)) ?_;skip;refine vM (lo:=G.next) (c1:=us x) (A.ext ((Ext.refl Q).push _)) ω ω ω (by show G.next<=Q.next+1;omega) ω ρ ρ (fA (cs:=us x) (z3 Q _) d9 (by rw[aF,g.len])) (by rw[aF,g.len]) (bZ _) ?_;intro v2 h9 o9 x9;refine yM ?_;refine bA ?_;refine Y8 ?_;refine⟨r.length-(i+1),ω,i+1,v2,ω,rfl,rfl,rfl,((P.lx (bl _)).trans ((((Ext.refl Q).push _).lx ω).trans x9)).ext,?_⟩;rw[B,qY,Y,dk];exact o9
  ·obtain rfl:i=r.length:=ω
   have ae:zd r.length r.length false:=dG ω;rw[wd]at A;refine Y18 ?_;exact cW bj rfl (A.low ω)
def u0{α:Type}{p q:α->Bool}(h:∀x,q x=true->p x=true):∀l:List α,(l.filter λx=>p x&& !q x).length+(l.filter q).length=(l.filter p).length
 |[]=>rfl
 |x::l=>by
  have ih:=u0 h l;rw[PH,PH,PH];cases hq:q x with
  |true=>rw[h x hq];simp only[LE,M2,if_true,tb];rw[if_neg (by simp)];omega
  |false=>
   cases hp:p x with
   |true=>rw[if_pos ρ,if_neg (by simp),if_pos rfl,tb,tb];omega
   |false=>rw[if_neg (by simp),if_neg (by simp),if_neg (by simp)];exact ih
def MF(d:IsS a)(hb:IsS b)(h:sIn a b=true):ij (eX b a)+ij a=ij b:=by
 have e:=(gY d hb).1 h;unfold ij aW;rw[←u0 (p:=eU b) (q:=eU a) e];congr 2;refine HG λc _=> ?_;exact BQ hb d c
structure LF (T:Nat->Option aq):Prop where
 rn:Ul T
 rs:Un T
 f94:T 28=some f94
 f198:T 77=some f198
def SI(F:LF T)(hr:Rdy h)(c:IsW w):Pu T 77 [wV w] h (sv (eX w.2 w.1)):=by
 have i:=F.rn.rp.im.pt.p;refine .of i F.f198 hr (rq _) ?_;have e:cellsOf (wV w)=wL w:=by show(wL w).toArray.toList=_;simp
 have o:((h.push (qt (cellsOf (wV w)))).push (qt (aL 8 (.int .u64 0)))).get h.next=some (qt (wL w)):=by rw[e];exact(z4 (eA _)).trans (z3 h _)
 have q:((h.push (qt (cellsOf (wV w)))).push (qt (aL 8 (.int .u64 0)))).get (h.next+1)=some (qt (us s0)):=z3 _ _;have r:((h.push (qt (cellsOf (wV w)))).push (qt (aL 8 (.int .u64 0)))).next=h.next+2:=rfl
 have j:Ext h ((h.push (qt (cellsOf (wV w)))).push (qt (aL 8 (.int .u64 0)))):=((Ext.refl h).push _).push _;refine Y4 ?_;generalize((h.push (qt (cellsOf (wV w)))).push (qt (aL 8 (.int .u64 0))))=H at*;have W:=j.wf hr.wf;have k:=j.log.trans hr.log;have t:=D8 c;have u:=D9 c;have m:=aN c.a.len;have n:=aN c.b.len;have d:=c.b.less c.a;have C:=Aw i F.rn.rp.im.rf.f140 (h:=η H) (.of W) c.b c.a;generalize eX w.2 w.1=ls at*;have f:=aN d.len;have g:=aU d.len;have l:=d.len;refine Y6 ?_;refine FW.pu C ?_;refine aG (bH ρ ρ τ (by(simp only[aF];assumption)) ρ (by exact bZ _)) ?_;refine y3 ?_;refine pq ?_;refine an ?_ (bV (own:=true) (s:=1) rfl ?_ g f rfl) rfl
 ·rw[Heap.aA (by show h.next<=h.next+1;omega)];exact k
 ·exact YG
def Hg(F:LF T)(hr:Rdy h)(c:IsW w)(f:sIn w.1 w.2=true):Pu T 28 [wV w] h (zc (if nQ w then 82 else 0)):=by
 have k:=F.rn.rp.im.pt.p;refine .of k F.f94 hr rfl ?_;have g:cellsOf (wV w)=wL w:=by show(wL w).toArray.toList=_;simp
 have o:(h.push (qt (cellsOf (wV w)))).get h.next=some (qt (wL w)):=by rw[g];exact z3 h _
 have W:WF (h.push (qt (cellsOf (wV w)))):=hr.wf.push _;have i:(h.push (qt (cellsOf (wV w)))).log=[]:=hr.log;refine Y4 ?_;generalize(h.push (qt (cellsOf (wV w))))=H at*;have s:=ja c;have m:=gu c;have d:=SI F (h:=η H) (.of W) c;have e:=II F.rn.rp.im.rf.tr.cr F.rn.rp.im.rf.f84 (h:=η H) (.of W) (c.b.less c.a);have r:=MF c.a c.b f;have j:nQ w=decide (64<ij (eX w.2 w.1)):=by
  unfold nQ;by_cases q:64<ij (eX w.2 w.1)
  ·rw[decide_eq_true q,decide_eq_true ω]
  ·rw[decide_eq_false q,decide_eq_false ω]
 rw[j];generalize ij (eX w.2 w.1)=n at*;by_cases q:64<n
 ·have l:zs n 64 true:=fh ω;rw[if_pos (by rw[decide_eq_true q])];refine Y4 ?_;refine FW.pu d ?_;clear d;skip;refine yC ?_;refine FW.pu e ?_;clear e;refine Y8 ?_;exact an i rfl rfl
 ·have l:zs n 64 false:=gT ω;rw[if_neg (by rw[decide_eq_false q];simp)];refine Y4 ?_;refine FW.pu d ?_;clear d;skip;refine yC ?_;refine FW.pu e ?_;clear e;refine Y9 ?_;exact an i rfl rfl
def E9(l:List Nat):Bool:=l.any λk=>decide (k=3)
def Uv{l:List Nat}(h:l[i]? =some k):(fL l)[i]? =some (.int .u8 (k:Nat)):=by simp[fL,h]
structure Em (T:Nat->Option aq):Prop where
 p:aK T
 f52:T 85=some f52
 f53:T 76=some f53
 f112:T 42=some f112
 f113:T 43=some f113
 f115:T 45=some f115
 f118:T 83=some f118
 f140:T 119=some f140
 f208:T 84=some f208
def KW(F:Em T)(hr:Rdy h){l:List Pb}(s:PbS h v l)(K:l.length<1000000):Pu T 76 [v] h (zc (prE l)):=by
 refine .of F.p F.f53 hr rfl ?_;obtain⟨a,c,rfl⟩:=s.form;have x:=hr.log;unfold prE;by_cases h8:8<l.length
 ·have E:zs l.length 8 true:=fh ω;rw[if_pos h8];refine Y15 ?_;exact an x rfl rfl
 rw[if_neg h8];have E:zs l.length 8 false:=gT ω;refine Y17 ?_
 refine aY (λm e A B=>∃i:Nat,i<=l.length/\l.length-i=m/\e=[(0, .slice a l.length c),(3, zc (i:Nat))]/\A=[]/\h=B∧(l.take i).any kQ=false)
  ⟨0,hK _,rfl,rfl,rfl,rfl,rfl⟩ ?_
 rintro m e A _ ⟨i,J,rfl,rfl,rfl,rfl,j⟩;by_cases hlt:i<l.length
 ·obtain⟨p,k⟩:∃r,l[i]? =some r:=⟨l[i],bx hlt⟩;have w:=ci k;have f:=s.ok p w;obtain⟨b,o,H,O,G,t,D,gl,I,n⟩:=s.elem k;cases D;have L:=n.cells;have M:=aN f.len;have N:=n.cost;have z:zd i l.length true:=dz ω;have C:=No F.p F.f113 (h:=η h) (.of hr.wf) p.cost 1 1000;have y:(l.take (i+1)).any kQ=((l.take i).any kQ||kQ p):=by
   obtain⟨u,rfl⟩:=List.getElem?_eq_some_iff.1 k;rw[xa u,QR];simp
  have g:kQ p=true->l.any kQ=true:=λq=>List.any_eq_true.2 ⟨p,w,q⟩;have d:kQ p=(decide (p.cells=s0)|| !inR p.cost 1 1000):=rfl;generalize inR p.cost 1 1000=b2 at*;by_cases hz:p.cells=s0
  ·rw[decide_eq_true hz,Bool.true_or]at d;rw[if_pos (g d)];refine Y19 ?_;refine aG (jK (b:=s0) ρ ρ f.len rfl) ?_;rw[decide_eq_true hz];refine Y20 ?_;exact an x rfl rfl
  ·rw[decide_eq_false hz,Bool.false_or]at d;cases b2 with
   |false=>
    rw[if_pos (g d)];refine Y19 ?_;refine aG (jK (b:=s0) ρ ρ f.len rfl) ?_;rw[decide_eq_false hz];refine Y13 ?_;refine FW.pu C ?_;refine Y14 ?_;exact an x rfl rfl
   |true=>
    refine Y19 ?_;refine aG (jK (b:=s0) ρ ρ f.len rfl) ?_;rw[decide_eq_false hz];refine Y13 ?_;refine FW.pu C ?_;refine Y13 ?_;exact⟨l.length-(i+1),ω,i+1,ω,rfl,rfl,rfl,rfl,by rw[y,j,d];rfl⟩
 ·obtain rfl:i=l.length:=ω
  have z:zd l.length l.length false:=dG ω;rw[wd]at j;rw[if_neg (by rw[j];simp)];refine Y17 ?_;exact an x rfl rfl
def Vb(fs:List Int)(n:Nat):(RI fs n).2=(decide (fs.length=n)&&sI fs):=by
 unfold RI;split
 ·rename_i h;rcases h with q|q
  ·rw[decide_eq_false ω,ab9]
  ·rw[q,M2]
 ·rename_i h;cases q:sI fs with
  |false=>exact absurd (.inr q) h
  |true=>rw[Fd]
variable{fs:List Int}
def KU(F:Em T)(hr:Rdy h){l:List Pb}(I:PbS h u l)(w:aH h 1 v fs.length (ints fs))(D:fs.length<1000000):Pu T 42 [u,v] h (zc (if(RI fs l.length).2 then 0 else 1)):=by
 refine .of F.p F.f112 hr rfl ?_;obtain⟨a,c,rfl⟩:=I.form;obtain⟨y,z,rfl⟩:=w.form;have j:=hr.log;rw[Vb];by_cases he:fs.length=l.length
 ·have G:zB fs.length l.length false:=uv ω;rw[decide_eq_true he,yi];refine Y19 ?_
  refine aY (λm e t A=>∃i:Nat,i<=fs.length/\fs.length-i=m/\e=[(1, .slice y fs.length z),(5, zc (i:Nat))]/\t=[]/\h=A∧sI (fs.take i)=true)
   ⟨0,hK _,rfl,rfl,rfl,rfl,rfl⟩ ?_
  rintro m e t _ ⟨i,L,rfl,rfl,rfl,rfl,d⟩;by_cases hlt:i<fs.length
  ·obtain⟨x,n⟩:∃s,fs[i]? =some s:=⟨fs[i],bx hlt⟩;obtain⟨b,o,J,N,H,M,E,gl,B,K⟩:=uc w (ints_at n);cases E;have r:zd i fs.length true:=dz ω;have C:=No F.p F.f113 (h:=η h) (.of hr.wf) x 0 2;have g:sI (fs.take (i+1))=(sI (fs.take i)&&inR x 0 2):=by
    obtain⟨f,rfl⟩:=List.getElem?_eq_some_iff.1 n;unfold sI;rw[xa f,QQ];simp
   have k:inR x 0 2=false->sI fs=false:=λq=>by
    unfold sI;rw[List.all_eq_false];exact⟨x,ci n,by rw[q];simp⟩
   cases hin:inR x 0 2 with
   |false=>
    rw[hin]at C;rw[k hin,if_neg (by simp)];refine Y18 ?_;refine FW.pu C ?_;refine Y12 ?_;exact an j rfl rfl
   |true=>
    rw[hin]at C g;refine Y18 ?_;refine FW.pu C ?_;refine Y11 ?_;exact⟨fs.length-(i+1),ω,i+1,ω,rfl,rfl,rfl,rfl,by rw[g,d];rfl⟩
  ·obtain rfl:i=fs.length:=ω
   have r:zd fs.length fs.length false:=dG ω;rw[wd]at d;rw[d,if_pos rfl];refine Y17 ?_;exact an j rfl rfl
 ·have G:zB fs.length l.length true:=iY ω;rw[decide_eq_false he,ab9,if_neg (by simp)];refine Y17 ?_;exact an j rfl rfl
def Jb(h:sI fs=true){x:Int}(a:fs[i]? =some x):∃k:Nat,x=(k:Int)/\k<=2:=by
 have:=List.all_eq_true.1 h x (ci a);have:=of_decide_eq_true this;exact⟨x.toNat,ω,ω⟩
def QX{l:List Pb}{p:Pb}(b:l[i]? =some p)(a:fs[i]? =some ((k:Nat):Int)):(zsF l fs)[i]? =some (p,k):=Ik b (by rw[wt,a];rfl)
def JG{l:List Pb}(h:fs.length=l.length):(zsF l fs).length=l.length:=by
 unfold zsF;rw[List.length_zip,j3];omega
def QY{l:List Pb}(h:∀p∈l,IsS p.cells):∀x∈zsF l fs,IsS x.1.cells:=pz h
def trQ(t:List Nat)(x:Pb×Nat):Bool:= !((decide (x.2=1)&& !sIn x.1.cells t)||(decide (x.2=2)&&sIn x.1.cells t))
def WV(w:List Nat×List Nat)(z:Zs)(t:List Nat):trB w z t=(sIn w.1 t&&sIn t w.2&&z.all (trQ t)):=rfl
variable{pv:Value}
def Gk(F:Em T)(hr:Rdy h)(u:IsW w){l:List Pb}(U:PbS h pv l)(hl:l.length<1000000)(sf:aH h 1 v fs.length (ints fs))(K:fs.length=l.length)(L:sI fs=true)(D:IsS s):
 Pu T 84 [wV w,pv,v,sv s] h (.bool (trB w (zsF l fs) s)):=by
 refine .of F.p F.f208 hr rfl ?_;have N:cellsOf (wV w)=wL w:=by show(wL w).toArray.toList=_;simp
 obtain⟨a,c,rfl⟩:=U.form;obtain⟨a2,c2,rfl⟩:=sf.form;have I:Ext h ((h.push (qt (cellsOf (wV w)))).push (qt (cellsOf (sv s)))):=((Ext.refl h).push _).push _;have g0:((h.push (qt (cellsOf (wV w)))).push (qt (cellsOf (sv s)))).get h.next=some (qt (wL w)):=by rw[N];exact(z4 (eA _)).trans (z3 h _)
 have g1:((h.push (qt (cellsOf (wV w)))).push (qt (cellsOf (sv s)))).get (h.next+1)=some (qt (us s)):=z3 _ _;have n0:((h.push (qt (cellsOf (wV w)))).push (qt (cellsOf (sv s)))).next=h.next+2:=rfl
 refine Y5 ?_;generalize((h.push (qt (cellsOf (wV w)))).push (qt (cellsOf (sv s))))=H at*;have W:=I.wf hr.wf;have z:=I.log.trans hr.log;have wa:=D8 u;have wb:=D9 u;have be:=aN u.a.len;have bj:=aN u.b.len;have k8:=aN D.len;have k9:=aU D.len;have n:=Av F.p F.f52 F.f140 (h:=η H) (.of W) u.a D;have y:=Av F.p F.f52 F.f140 (h:=η H) (.of W) D u.b;rw[WV];cases h1:sIn w.1 s with
 |false=>
  rw[h1]at n;refine Y6 ?_;refine FW.pu n ?_;refine Y15 ?_;exact an z rfl rfl
 |true=>
 rw[h1]at n;cases h2:sIn s w.2 with
 |false=>
  rw[h2]at y;refine Y6 ?_;refine FW.pu n ?_;refine Y10 ?_;refine FW.pu y ?_;refine Y10 ?_;exact an z rfl rfl
 |true=>
 rw[h2]at y;rw[yi,yi];have P:=JG K;have V:=U.ext I;have S:=sf.ext I;refine Y6 ?_;refine FW.pu n ?_;refine Y10 ?_;refine FW.pu y ?_;clear n y;refine Y12 ?_
 refine aY (λm e X h'=>∃i:Nat,i<=l.length/\l.length-i=m/\e=[(1, .slice a l.length c),(2, .slice a2 fs.length c2),(7, sb (h.next+1)),(9, zc (i:Nat))]/\X=[]/\H=h'∧((zsF l fs).take i).all (trQ s)=true)
  ⟨0,hK _,rfl,rfl,rfl,rfl,rfl⟩ ?_
 rintro m e X _ ⟨i,hi,rfl,rfl,rfl,rfl,f⟩;by_cases hlt:i<l.length
 ·obtain⟨p,j⟩:∃r,l[i]? =some r:=⟨l[i],bx hlt⟩;have B:=U.ok p (ci j);obtain⟨b,o,c3,vs,aE,t,M,gl,hb,J⟩:=V.elem j;cases M;obtain⟨x,O⟩:∃s,fs[i]? =some s:=⟨fs[i]' ω,bx _⟩;obtain⟨k,rfl,hk⟩:=Jb L O;obtain⟨b2,o2,c4,ba,Z,t2,M,ar,aw,ae⟩:=uc S (ints_at O);cases M;have k1:=J.cells;have k2:=aN B.len;have Q:zd i l.length true:=dz ω;have C:=Av F.p F.f52 F.f140 (h:=η H) (.of W) B D;have Y:=QX j O;have g:((zsF l fs).take (i+1)).all (trQ s)=(((zsF l fs).take i).all (trQ s)&&trQ s (p,k)):=by rw[JB Y,QQ];simp
  have A:trQ s (p,k)=false->(zsF l fs).all (trQ s)=false:=λq=>by rw[List.all_eq_false];exact⟨_,ci Y,by rw[q];simp⟩
  have d:trQ s (p,k)= !((decide (k=1)&& !sIn p.cells s)||(decide (k=2)&&sIn p.cells s)):=rfl;generalize trQ s (p,k)=tq at*;have E:af .eql (zc (k:Nat)) (zc 1)=some (.bool (decide (k=1))):=tZ (c:=1) rfl;have G:af .eql (zc (k:Nat)) (zc 2)=some (.bool (decide (k=2))):=tZ (c:=2) rfl;cases hin:sIn p.cells s with
  |true=>
   rw[hin]at C d;by_cases hk2:k=2
   ·rw[decide_eq_true hk2,decide_eq_false (show¬k=1 by omega)]at d;rw[decide_eq_false (show¬k=1 by omega)]at E;rw[decide_eq_true hk2]at G;rw[A d];refine Y21 ?_;refine FW.puD C (by(repeat apply aB rfl);exact aQ) ?_;refine Y40 ?_;refine Y3 ?_;exact an z rfl rfl
   ·rw[decide_eq_false hk2,LE,M2]at d;rw[decide_eq_false hk2]at G;by_cases hk1:k=1
    ·rw[decide_eq_true hk1]at E;refine Y21 ?_;refine FW.puD C (by(repeat apply aB rfl);exact aQ) ?_;refine Y40 ?_;refine Y3 ?_;exact⟨l.length-(i+1),ω,i+1,ω,rfl,rfl,rfl,rfl,by rw[g,f,d];rfl⟩
    ·rw[decide_eq_false hk1]at E;refine Y21 ?_;refine FW.puD C (by(repeat apply aB rfl);exact aQ) ?_;refine Y39 ?_;refine Y2 ?_;exact⟨l.length-(i+1),ω,i+1,ω,rfl,rfl,rfl,rfl,by rw[g,f,d];rfl⟩
  |false=>
   rw[hin]at C d;by_cases hk1:k=1
   ·rw[decide_eq_true hk1]at E d;rw[A d];refine Y21 ?_;refine FW.puD C (by(repeat apply aB rfl);exact aQ) ?_;refine Y37 ?_;exact an z rfl rfl
   ·rw[decide_eq_false hk1,ab9,M2]at d;rw[decide_eq_false hk1]at E;by_cases hk2:k=2
    ·rw[decide_eq_true hk2]at G;refine Y21 ?_;refine FW.puD C (by(repeat apply aB rfl);exact aQ) ?_;refine Y40 ?_;refine Y2 ?_;exact⟨l.length-(i+1),ω,i+1,ω,rfl,rfl,rfl,rfl,by rw[g,f,d];rfl⟩
    ·rw[decide_eq_false hk2]at G;refine Y21 ?_;refine FW.puD C (by(repeat apply aB rfl);exact aQ) ?_;refine Y39 ?_;refine Y2 ?_;exact⟨l.length-(i+1),ω,i+1,ω,rfl,rfl,rfl,rfl,by rw[g,f,d];rfl⟩
 ·obtain rfl:i=l.length:=ω
  have Q:zd l.length l.length false:=dG ω;rw[←P,wd]at f;rw[f];refine Y17 ?_;exact an z rfl rfl
def pG(F:Em T)(hr:Rdy h)(n:IsW w){l:List Pb}(Q:PbS h pv l)(hl:l.length<1000000)(sf:aH h 1 v fs.length (ints fs))(D:fs.length=l.length)(J:sI fs=true):
 Pu T 45 [wV w,pv,v] h (.tuple #[sv (bsS w.1 (zsF l fs)), .bool (bsB w (zsF l fs))]):=by
 refine .of F.p F.f115 hr (Jy _ _) ?_;have ae:cellsOf (wV w)=wL w:=by show(wL w).toArray.toList=_;simp
 obtain⟨a,c,rfl⟩:=Q.form;obtain⟨a2,c2,rfl⟩:=sf.form;have S:Ext h ((h.push (qt (cellsOf (wV w)))).push (qt (aL 8 (.int .u64 0)))):=((Ext.refl h).push _).push _;have g0:((h.push (qt (cellsOf (wV w)))).push (qt (aL 8 (.int .u64 0)))).get h.next=some (qt (wL w)):=by rw[ae];exact(z4 (eA _)).trans (z3 h _)
 have g1:((h.push (qt (cellsOf (wV w)))).push (qt (aL 8 (.int .u64 0)))).get (h.next+1)=some (qt (us s0)):=z3 _ _;have n0:((h.push (qt (cellsOf (wV w)))).push (qt (aL 8 (.int .u64 0)))).next=h.next+2:=rfl
 have I:(h.push (qt (cellsOf (wV w)))).next=h.next+1:=rfl
 refine Y5 ?_;generalize((h.push (qt (cellsOf (wV w)))).push (qt (aL 8 (.int .u64 0))))=H at*;rw[I];clear I;have W:=S.wf hr.wf;have hL:=S.log.trans hr.log;have wa:=D8 n;have cY:=aN n.a.len;have wk:=ja n;have d9:=gu n;have cd:=n.a.len;have ar:=JG D;have q:=QY (fs:=fs) Q.ok;have O:=Q.ext S;have N:=sf.ext S;refine cQ (E0:=[(1, .slice a l.length c),(2, .slice a2 fs.length c2),(3, sb h.next),(6, sb (h.next+1)),(8, sb H.next)]) (P:=λu=>Ext H u∧u.next=H.next+1/\u.get H.next=some (qt (us w.1))) ?_ ?_
 ·refine Y4 ?_;refine aG (bH ρ ρ YG (by(simp only[aF];assumption)) ρ (by exact bZ _)) ?_;refine bA ?_;refine y1 ?_;exact⟨rfl,rfl,rfl,ff ω _ _,rfl,YG⟩
 rintro H1 ⟨x1,n1,B⟩;refine Y5 ?_
 refine aY (λm e ds u=>∃i:Nat,i<=l.length/\l.length-i=m/\e=[(1, .slice a l.length c),(2, .slice a2 fs.length c2),(3, sb h.next),(6, sb (h.next+1)),(8, sb H.next),(9, zc (i:Nat))]/\ds=[]/\Ext H u∧u.next=H.next+1/\u.get H.next=some (qt (us (bsS w.1 ((zsF l fs).take i)))))
  ⟨0,hK _,rfl,rfl,rfl,x1,n1,B⟩ ?_
 clear B x1 n1;rintro m e ds G ⟨i,hi,rfl,rfl,rfl,g,nG,B⟩;have WG:=g.wf W;have Z:=g.log.trans hL;have U:=(g.old _ ω).trans g0;have V:=(g.old _ ω).trans g1;have d:IsS (bsS w.1 ((zsF l fs).take i)):=kE n.a λx K=>q x (yn K);by_cases hlt:i<l.length
 ·obtain⟨p,y⟩:∃r,l[i]? =some r:=⟨l[i],bx hlt⟩;have A:=Q.ok p (ci y);obtain⟨b,o,c3,vs,ba,t,hv,gl,hb,X⟩:=(O.ext g).elem y;cases hv;obtain⟨x,K⟩:∃s,fs[i]? =some s:=⟨fs[i]' ω,bx _⟩;obtain⟨k,rfl,hk⟩:=Jb J K;obtain⟨b2,o2,c4,cX,be,t2,hv,Y,bo,bj⟩:=uc (N.ext g) (ints_at K);cases hv;have k1:=X.cells;have k2:=aN A.len;have aE:zd i l.length true:=dz ω;have f:bsS w.1 ((zsF l fs).take (i+1))=bsJ (bsS w.1 ((zsF l fs).take i)) (p,k):=by
   unfold bsS;rw[JB (QX y K),yr];rfl
  generalize bsS w.1 ((zsF l fs).take i)=s at*;have L:=aN d.len;have M:=aU d.len;have aw:=d.len;have mk:af .eql (zc (k:Nat)) (zc 1)=some (.bool (decide (k=1))):=tZ (c:=1) rfl;have C:=F4 F.p F.f118 (h:=η G) (.of WG) d A;unfold bsJ at f;dsimp only at f;by_cases hk1:k=1
  ·rw[decide_eq_true hk1]at mk;rw[if_pos hk1]at f;have E:=d.join A;generalize gZ s p.cells=j at*;have cj:=aN E.len;have cJ:=E.len;refine Y28 ?_;refine FW.puD C (by(repeat apply aB rfl);exact aQ) ?_;refine kg rfl rfl rfl ρ ρ ρ τ (by(simp only[aF];assumption)) (by(simp only[aF];assumption)) (by exact bZ _) ω ω (by exact aQ) ?_;refine pn ?_;refine y1 ?_;refine Nt ?_;refine wj ?_;refine Y5 ?_;refine⟨l.length-(i+1),ω,i+1,ω,rfl,rfl,rfl,⟨g.next,?_,?_,?_⟩,nG,?_⟩
   ·rw[Heap.aA ω];exact g.log
   ·intro z hz;exact(z5 ω).trans (g.old z hz)
   ·intro wf;exact(g.wf wf).as (AS.wr h.next _ _ _)
   ·rw[f];(simp(disch:=first|omega|(simp only[z1,z2];omega))only[z3,z4,z5,z6,z7,z1,z2,g0,g1,U,V,gl,Y,B];done)
  ·rw[decide_eq_false hk1]at mk;rw[if_neg hk1]at f;refine Y28 ?_;exact⟨l.length-(i+1),ω,i+1,ω,rfl,rfl,rfl,g,nG,by rw[f];exact B⟩
 ·obtain rfl:i=l.length:=ω
  have aE:zd l.length l.length false:=dG ω;rw[←ar,wd]at B d;have C:=Gk F (h:=η G) (.of WG) n ((O.ext g).log []) hl ((N.ext g).log []) D J d;rw[TL n q]at C;generalize bsB w (zsF l fs)=bb at*;generalize bsS w.1 (zsF l fs)=s at*;have L:=aN d.len;have M:=aU d.len;have aw:=d.len;refine Y21 ?_;refine FW.puD C (by(repeat apply aB rfl);apply au rfl (ah rfl (bW ρ τ τ τ) (by exact sZ _)) rfl;exact aQ) ?_;refine kg rfl rfl rfl ρ ρ ρ τ (by(simp only[aF];assumption)) ρ (by exact bZ _) ω ω (by apply aB rfl;exact aQ) ?_;refine qM ?_;refine pn ?_;refine Y3 ?_;refine an ?_ (bV (own:=true) (s:=1) rfl ?_ M L (Au rfl rfl)) rfl
  ·rw[Heap.aA ω];exact Z
  ·exact YG
end Go.A.Pk
end
section
namespace Go.A.Pk
structure abK (t:List Nat) (l:List Pb) (f:List Nat):Prop where
 len:f.length=l.length
 at':∀(i:Nat) (p:Pb) (k:Nat),l[i]? =some p->f[i]? =some k->k=0∨k=ZU t p
section
variable {w:List Nat×List Nat} (hw:IsW w) {t:List Nat} (ht:IsS t) (h1:Sub w.1 t) (h2:Sub t w.2) {l:List Pb} (hl:∀p∈l,IsS p.cells)
include hw ht h1 h2 hl
end
def mnF(g:Nat->Int)(L:List Nat)(c:Int):Int:=L.foldl (λn p=>min n (g p)) c
def mG(g:Nat->Int):∀(L:List Nat) (c:Int),mnF g L c<=c
 |[],c=>ab6 c
 |p::L,c=>Int.le_trans (mG g L (min c (g p))) (Int.min_le_left _ _)
def Hj(g:Nat->Int):∀{L:List Nat} {c:Int} {p:Nat},p∈L->mnF g L c<=g p
 |x::L,c,p,h=>by
  rcases List.mem_cons.1 h with rfl|h
  ·exact Int.le_trans (mG g L (min c (g p))) (Int.min_le_right _ _)
  ·exact Hj g (L:=L) (c:=min c (g x)) h
def CZ{g:Nat->Int}{d:Int}:∀{L:List Nat} {c:Int},d<=c->(∀p∈L,d<=g p)->d<=mnF g L c
 |[],c,h,_=>h
 |p::L,c,h,hl=>CZ (L:=L) (Int.le_min.2 ⟨h,hl p b7⟩) λx hx=>hl x (bz _ hx)
def tD{g a:Nat->Int}:∀{L:List Nat} {c:Int},(∀p∈L,g p=a p)->mnF g L c=mnF a L c
 |[],_,_=>rfl
 |p::L,c,h=>by
  show mnF g L (min c (g p))=mnF a L (min c (a p));rw[h p b7];exact tD λx hx=>h x (bz _ hx)
def Hi(g:Nat->Int):∀(L:List Nat) (c:Int),mnF g L c=c∨∃p∈L,mnF g L c=g p
 |[],c=> .inl rfl
 |p::L,c=>by
  show mnF g L (min c (g p))=c∨∃x∈p::L,mnF g L (min c (g p))=g x;rcases Hi g L (min c (g p))with h|⟨x,hx,h⟩
  ·rw[h];rcases Int.le_total c (g p)with q|q
   ·exact .inl (Int.min_eq_left q)
   ·exact .inr ⟨p,b7,Int.min_eq_right q⟩
  ·exact .inr ⟨x,bz _ hx,h⟩
def Fv(g:Nat->Int)(L:List Nat)(c:Int)(p:Nat):mnF g (L++[p]) c=min (mnF g L c) (g p):=by
 unfold mnF;rw[yr];rfl
def bM(n:Nat)(f:List Nat):List Nat:=(List.range n).filter λp=>decide (f.getD p 0=0)
variable{n p:Nat}{f:List Nat}
def fJ:p∈bM n f↔p<n/\f.getD p 0=0:=by
 unfold bM;rw[List.mem_filter,List.mem_range,decide_eq_true_eq]
def pO(n:Nat)(f:List Nat):bM (n+1) f=bM n f++(if f.getD n 0=0 then [n]else []):=by
 unfold bM;rw[P2,ac6];congr 1;by_cases h:f.getD n 0=0
 ·rw[if_pos h,List.filter_cons_of_pos (by rw[decide_eq_true_eq];exact h)];rfl
 ·rw[if_neg h,ac4 (by rw[decide_eq_true_eq];exact h)];rfl
variable{a:Nat}
def vf{x:Nat}(b:p<f.length):(f.set p a).getD x 0=if x=p then a else f.getD x 0:=by
 rw[dn,dn,If];by_cases h:p=x
 ·rw[if_pos h,if_pos h.symm,if_pos ω];rfl
 ·rw[if_neg h,if_neg (λq=>h q.symm)]
def NH(c:p<f.length)(b:a≠0):bM n (f.set p a)=(bM n f).filter λx=>decide (x≠p):=by
 unfold bM;rw[List.filter_filter];refine HG λx _=> ?_;rw[vf c];by_cases h:x=p
 ·rw[if_pos h,decide_eq_false b,decide_eq_false (by simpa using h)];rfl
 ·rw[if_neg h,decide_eq_true h,yi]
def lX(d:p<f.length)(b:a≠0)(c:p∈bM n f):(bM n (f.set p a)).length<(bM n f).length:=by
 rw[NH d b,List.length_filter_lt_length_iff_exists];exact⟨p,c,by simp⟩
def jQ(n:Nat)(f:List Nat):(bM n f).length<=n:=by
 unfold bM;exact gy (Xs _ _) (by rw[List.length_range];exact bl _)
section
variable (w:List Nat×List Nat) (l:List Pb) (ns:List (List (List Nat)))
def eD(f:List Nat):Bool:=bsB w (l.zip f)&&ns.any λr=>decide (jP (l.zip f) (bsS w.1 (l.zip f)) r=3)
def cM(p:Nat):Int:=(l.getD p ⟨s0,0⟩).cost
def jT:Nat->List Nat->Int
 |0,f=>if eD w l ns f then 100000 else 0
 |k+1,f=>if eD w l ns f then mnF (λp=>cM l p+max (jT k (f.set p 1)) (jT k (f.set p 2))) (bM l.length f) 100000 else 0
def bB(f:List Nat):Int:=jT w l ns l.length f
end
variable {w:List Nat×List Nat} {l:List Pb} {ns:List (List (List Nat))}
def xI:∀{k k':Nat} {f:List Nat},l.length<=f.length->(bM l.length f).length<=k->k<=k'→jT w l ns k' f=jT w l ns k f
 |0,0,f,_,_,_=>rfl
 |0,k'+1,f,_,h,_=>by
  have:bM l.length f=[]:=List.eq_nil_of_length_eq_zero ω;simp only[jT,this,mnF,List.foldl_nil]
 |k+1,0,f,_,_,h=>ω
 |k+1,k'+1,f,hf,h,hk=>by
  have c:∀p∈bM l.length f,∀a,a≠0->jT w l ns k' (f.set p a)=jT w l ns k (f.set p a):=λp b a d=>by
   have e:=(fJ.1 b).1;have:=lX (a:=a) ω d b;exact xI (by rw[hG];exact hf) ω ω
  simp only[jT];rw[tD λp b=>(show cM l p+max (jT w l ns k' (f.set p 1)) (jT w l ns k' (f.set p 2))=cM l p+max (jT w l ns k (f.set p 1)) (jT w l ns k (f.set p 2))by rw[c p b 1 ω,c p b 2 ω])]
def tO{f:List Nat}(a:l.length<=f.length):bB w l ns f=if eD w l ns f then mnF (λp=>cM l p+max (bB w l ns (f.set p 1)) (bB w l ns (f.set p 2))) (bM l.length f) 100000 else 0:=by
 unfold bB;have h1:=jQ l.length f;rw[←xI (k':=l.length+1) a h1 ω];simp only[jT]
def JC(b:∀p∈l,0<=p.cost):∀{k:Nat} {f:List Nat},0<=jT w l ns k f/\jT w l ns k f<=100000
 |0,f=>by unfold jT;split<;>omega
 |k+1,f=>by
  unfold jT;split
  ·refine⟨CZ ω λp hp=> ?_,mG _ _ _⟩;have h1:0<=cM l p:=by
    have a:=(fJ.1 hp).1;unfold cM;rw[dn,bx a];exact b _ (CS a)
   have h2:=(JC b (k:=k) (f:=f.set p 1)).1;have c:=Int.le_max_left (jT w l ns k (f.set p 1)) (jT w l ns k (f.set p 2));omega
  ·omega
def gr(a:∀p∈l,0<=p.cost)(f:List Nat):0<=bB w l ns f/\bB w l ns f<=100000:=JC a
def pI(w:List Nat×List Nat)(l:List Pb)(os:List (List Nat)):Int×Int:=
 if mM w l os≠0 then(0,mM w l os)else if nQ w=true then(0,82)else if 100000<=bB w l (os.map (cE w)) z8 then(0,81)else(bB w l (os.map (cE w)) z8,0)
def j5{w:List Nat×List Nat}{l:List Pb}{os:List (List Nat)}:mM w l os=0↔sIn w.1 w.2=true/\os.length<=6/\os.any (λs=>decide (s=s0))=false/\l.length<=8/\l.any kQ=false:=by
 unfold mM prE;cases sIn w.1 w.2<;>cases os.any (λs=>decide (s=s0))<;>cases l.any kQ<;>by_cases h6:6<os.length<;>by_cases h8:8<l.length<;>simp[h6,h8]<;>omega
def qH{l:List Pb}(h:l.any kQ=false):∀p∈l,1<=p.cost/\p.cost<=1000:=λp a=>by
 have:=List.any_eq_false.1 h p a;unfold kQ inR at this;simp at this;exact this.2
def QU{n:Nat}(h:n<8):z8[n]? =some 0:=by
 match n,h with
 |0,_=>rfl
 |1,_=>rfl
 |2,_=>rfl
 |3,_=>rfl
 |4,_=>rfl
 |5,_=>rfl
 |6,_=>rfl
 |7,_=>rfl
structure Fk where
 probe:Int
 yes:Int
 no:Int
def ek(s:List Fk):List Int:=s.flatMap λx=>[x.yes,x.no]
def uC(x:Fk)(s:List Fk):ek (x::s)=x.yes::x.no::ek s:=rfl
def BM(a b:List Fk):ek (a++b)=ek a++ek b:=by unfold ek;rw[NE]
def tL{s:List Fk}{i:Int}:i∈ek s↔ ∃(j:Nat) (x:Fk),s[j]? =some x/\(x.yes=i∨x.no=i):=by
 unfold ek;rw[List.mem_flatMap];constructor
 ·rintro⟨x,c,a⟩;obtain⟨j,b⟩:=List.mem_iff_getElem?.1 c;refine⟨j,x,b,?_⟩;simp at a;exact a.imp Eq.symm Eq.symm
 ·rintro⟨j,x,b,a⟩;refine⟨x,ci b,?_⟩;simp;exact a.imp Eq.symm Eq.symm
section
variable (w:List Nat×List Nat) (l:List Pb) (ns:List (List (List Nat))) (s:List Fk)
def vJ(cost:Int):Nat->List Nat->Int->Int->Int->Option Nat
 |0,_,_,_,_=>none
 |k+1,f,at_,from_,paid=>
  if at_= -1 then(if eD w l ns f=true then none else some 0)else
  if eD w l ns f=true/\from_<at_/\at_<s.length then
   match s[at_.toNat]? with
   |none=>none
   |some x=>
    if(0<=x.probe/\x.probe<l.length)/\f.getD x.probe.toNat 0=0 then
     if paid+cM l x.probe.toNat<=cost then
      match vJ cost k (f.set x.probe.toNat 1) x.yes at_ (paid+cM l x.probe.toNat)with
      |none=>none
      |some a=>match vJ cost k (f.set x.probe.toNat 2) x.no at_ (paid+cM l x.probe.toNat)with
       |none=>none
       |some b=>some (a+b+1)
     else none
    else none
  else none
def pL:Nat->Int->List Nat->Int->Bool
 |0,_,_,_=>false
 |k+1,at_,f,cost=>
  if cost<0 then false else
  if at_= -1 then !eD w l ns f else
  if eD w l ns f=true then
   match s[at_.toNat]? with
   |none=>false
   |some x=>if f.getD x.probe.toNat 0=0 then pL k x.yes (f.set x.probe.toNat 1) (cost-cM l x.probe.toNat)&&pL k x.no (f.set x.probe.toNat 2) (cost-cM l x.probe.toNat)else false
  else false
end
def mL(n i m:Int):Prop:=n= -1∨i<n/\n<m
def BU(s:List Fk):Prop:=((ek s).filter λi=>decide (i≠ -1)).Nodup
def mT(s:List Fk):Int:=if s.length=0 then -1 else 0
def OZ(w:List Nat×List Nat)(l:List Pb)(ns:List (List (List Nat)))(s:List Fk)(cost:Int):Prop:=
 (s.length=0->0<=cost)/\BU s/\vJ w l ns s cost 10 z8 (mT s) (-1) 0=some s.length
def PO(l:List Pb)(s:List Fk):Prop:=∀(i:Nat) x,s[i]? =some x->(0<=x.probe/\x.probe<l.length)/\mL x.yes i s.length/\mL x.no i s.length
def Tk(w:List Nat×List Nat)(l:List Pb)(ns:List (List (List Nat)))(s:List Fk)(cost:Int):Prop:=
 PO l s/\(∀i:Nat,0<i->i<s.length->(ek s).count (i:Int)=1)/\pL w l ns s 10 (mT s) z8 cost=true
def Di:∀(n:Nat) (L:List Nat),L.Nodup->(∀x∈L,x<n)->L.length<=n/\(L.length=n->∀i,i<n->i∈L)
 |0,L,_,h=>by
  cases L with
  |nil=>exact⟨bl 0,λ_ i b=>absurd b (Nat.not_lt_zero i)⟩
  |cons x L=>exact absurd (h x b7) (Nat.not_lt_zero x)
 |n+1,L,hn,h=>by
  by_cases hm:n∈L
  ·have h1:=Di n (L.erase n) (hn.erase n) λx a=>by
    have:=(hn.mem_erase_iff).1 a;have:=h x this.2;omega
   rw[List.length_erase_of_mem hm]at h1;have c:=ac9 hm;refine⟨ω,λe i b=> ?_⟩;by_cases hin:i=n
   ·rw[hin];exact hm
   ·exact List.mem_of_mem_erase (h1.2 ω i ω)
  ·have h1:=Di n L hn λx a=>by
    have:=h x a;have:x≠n:=λe=>hm (e▸a);omega
   exact⟨ω,λe=>ω⟩
def Rs{s:List Fk}{c:Int}(g:(ek s).count c<=1):(∀(i j:Nat) x y,s[i]? =some x->s[j]? =some y->(x.yes=c∨x.no=c)->(y.yes=c∨y.no=c)->i=j)/\(∀x∈s,¬ (x.yes=c/\x.no=c)):=by
 induction s with
 |nil=>exact⟨λi j x y b=>by simp at b,λx a=>(by cases a)⟩
 |cons z s h=>
  rw[uC,List.count_cons,List.count_cons]at g;have h:=h ω;have k:(z.yes=c∨z.no=c)->(ek s).count c=0:=λq=>by
   rcases q with q|q
   ·rw[if_pos (show(z.yes==c)=true by simpa using q)]at g;omega
   ·rw[if_pos (show(z.no==c)=true by simpa using q)]at g;omega
  have e:(ek s).count c=0->∀(j:Nat) y,s[j]? =some y->¬ (y.yes=c∨y.no=c):=λq j y d f=>(List.count_eq_zero.1 q) (tL.2 ⟨j,y,d,f⟩);refine⟨λi j x y b d a f=> ?_,λx a q=> ?_⟩
  ·cases i with
   |zero=>
    cases j with
    |zero=>rfl
    |succ j=>
     simp at b d;subst b;exact absurd f (e (k a) j y d)
   |succ i=>
    cases j with
    |zero=>
     simp at b d;subst d;exact absurd a (e (k f) i x b)
    |succ j=>
     simp at b d;rw[h.1 i j x y b d a f]
  ·rcases List.mem_cons.1 a with rfl|a
   ·rw[if_pos (show(x.yes==c)=true by simpa using q.1),if_pos (show(x.no==c)=true by simpa using q.2)]at g;omega
   ·exact h.2 x a q
def qU{s:List Fk}:BU s↔ ∀c:Int,c≠ -1->(ek s).count c<=1:=by
 unfold BU;rw[List.nodup_iff_count];constructor
 ·intro h c a;have:=h c
  rwa [List.count_filter (by simpa using a)]at this
 ·intro h c;by_cases a:c= -1
  ·subst a;rw[List.count_eq_zero.2 (by simp)];omega
  ·rw[List.count_filter (by simpa using a)];exact h c a
def ndK(s:List Fk):Nat->Int->List Nat
 |0,_=>[]
 |k+1,at_=>if at_= -1 then []else match s[at_.toNat]? with
  |none=>[]
  |some x=>at_.toNat::(ndK s k x.yes++ndK s k x.no)
section
variable {w:List Nat×List Nat} {l:List Pb} {ns:List (List (List Nat))} {s:List Fk} {cost:Int}
def okF(l:List Pb)(s:List Fk)(L:List Nat)(j:Nat):Prop:=∃x,s[j]? =some x/\(0<=x.probe/\x.probe<l.length)/\(x.yes= -1∨(j:Int)<x.yes/\x.yes<s.length/\x.yes.toNat∈L)/\(x.no= -1∨(j:Int)<x.no/\x.no<s.length/\x.no.toNat∈L)
def FD{L d:List Nat}(h:∀j∈L,j∈d){j:Nat}(q:okF l s L j):okF l s d j:=by
 obtain⟨x,h1,h2,e,f⟩:=q;exact⟨x,h1,h2,e.imp id λ⟨a,b,c⟩=>⟨a,b,h _ c⟩,f.imp id λ⟨a,b,c⟩=>⟨a,b,h _ c⟩⟩
def DZ(u:∀p∈l,0<=p.cost):∀{k:Nat} {f:List Nat} {a fr paid:Int} {m:Nat}, -1<=fr->vJ w l ns s cost k f a fr paid=some m→
 m=(ndK s k a).length/\(∀j∈ndK s k a,okF l s (ndK s k a) j)/\(a= -1∨fr<a/\a<s.length/\a.toNat∈ndK s k a)/\(∀j∈ndK s k a,(j:Int)=a∨a<j/\∃i x,i∈ndK s k a/\s[i]? =some x/\(x.yes=j∨x.no=j))/\((a= -1->paid<=cost)->paid<=cost/\pL w l ns s k a f (cost-paid)=true):=by
 intro k;induction k with
 |zero=>intro f a fr paid m _ h;simp[vJ]at h
 |succ k ih=>
  intro f a fr paid m J h;unfold vJ at h;by_cases ha:a= -1
  ·subst ha;rw[if_pos rfl]at h;split at h
   ·cases h
   ·rename_i v;cases h;have e:ndK s (k+1) (-1)=[]:=by unfold ndK;rw[if_pos rfl]
    rw[e];refine⟨rfl,λj b=>(by cases b), .inl rfl,λj b=>(by cases b),λz=> ?_⟩;have z:=z rfl;refine⟨z,?_⟩;unfold pL;rw[if_neg ω,if_pos rfl];simpa using v
  ·rw[if_neg ha]at h;split at h
   ·rename_i u;obtain⟨v,h1,h2⟩:=u;split at h
    ·cases h
    ·rename_i x hx;split at h
     ·rename_i hpr;split at h
      ·rename_i hpay;split at h
       ·cases h
       ·rename_i m1 hm1;split at h
        ·cases h
        ·rename_i m2 hm2;cases h;obtain⟨A,B,o,C,D⟩:=ih (fr:=a) ω hm1;obtain⟨E,F,t,G,H⟩:=ih (fr:=a) ω hm2;have e:ndK s (k+1) a=a.toNat::(ndK s k x.yes++ndK s k x.no):=by
          rw[ndK,if_neg ha,hx]
         have g:((a.toNat:Nat):Int)=a:=Int.toNat_of_nonneg ω;rw[e];refine⟨?_,?_, .inr ⟨h1,h2,b7⟩,?_,λ_=> ?_⟩
         ·rw[A,E,tb,dk]
         ·intro j b;rcases List.mem_cons.1 b with rfl|b
          ·refine⟨x,hx,hpr.1,?_,?_⟩
           ·rw[g];exact o.imp id λ⟨p,q,r⟩=>⟨p,q,bz _ (GT _ r)⟩
           ·rw[g];exact t.imp id λ⟨p,q,r⟩=>⟨p,q,bz _ (IR _ r)⟩
          ·rcases List.mem_append.1 b with b|b
           ·exact FD (λi d=>bz _ (GT _ d)) (B j b)
           ·exact FD (λi d=>bz _ (IR _ d)) (F j b)
         ·intro j b;rcases List.mem_cons.1 b with rfl|b
          ·exact .inl g
          ·refine .inr ?_;rcases List.mem_append.1 b with b|b
           ·rcases C j b with q|⟨q,i,y,d,hy⟩
            ·rcases o with c|c
             ·omega
             ·exact⟨ω,_,x,b7,hx, .inl q.symm⟩
            ·rcases o with c|c
             ·rw[c]at q b d;have:ndK s k (-1)=[]:=by cases k<;>simp[ndK]
              rw[this]at b;cases b
             ·exact⟨ω,i,y,bz _ (GT _ d),hy⟩
           ·rcases G j b with q|⟨q,i,y,d,hy⟩
            ·rcases t with c|c
             ·omega
             ·exact⟨ω,_,x,b7,hx, .inr q.symm⟩
            ·rcases t with c|c
             ·rw[c]at q b d;have:ndK s k (-1)=[]:=by cases k<;>simp[ndK]
              rw[this]at b;cases b
             ·exact⟨ω,i,y,bz _ (IR _ d),hy⟩
         ·have hc0:0<=cM l x.probe.toNat:=by
           unfold cM;have n:x.probe.toNat<l.length:=ω
           rw[dn,bx n];exact u _ (CS n)
          have K:=(D λ_=>hpay).2;have c:=(H λ_=>hpay).2;have I:cost-paid-cM l x.probe.toNat=cost-(paid+cM l x.probe.toNat):=ω
          refine⟨ω,?_⟩;unfold pL;rw[if_neg ω,if_neg ha,if_pos v];simp only[hx];rw[if_pos hpr.2,I,K,c];rfl
      ·cases h
     ·cases h
   ·cases h
def Sf(o:BU s){p:Nat}{x:Fk}(f:s[p]? =some x){b c:List Nat}(h1:∀j∈b,okF l s b j)(t:∀j∈c,okF l s c j)
 (h:∀j∈b,(p:Int)<j/\((j:Int)=x.yes∨∃i y,i∈b/\s[i]? =some y/\(y.yes=j∨y.no=j)))(a2:∀j∈c,(p:Int)<j/\((j:Int)=x.no∨∃i y,i∈c/\s[i]? =some y/\(y.yes=j∨y.no=j))):
 ∀j,j∈b->j∈c->False:=by
 intro j;induction j using Nat.strongRecOn with
 |ind j ih=>
  intro r k;have a:=Rs (qU.1 o (j:Int) ω);have g:∀{L:List Nat},(∀j∈L,okF l s L j)->∀{i y},i∈L->s[i]? =some y->(y.yes=j∨y.no=j)->i<j:=λ{L} m {i y} n q d=>by
   obtain⟨z,z1,_,z3,z4⟩:=m i n;rw[q]at z1;cases z1;rcases d with d|d<;>omega
  rcases(h j r).2 with q1|⟨i1,y1,b1,c1,d1⟩
  ·rcases(a2 j k).2 with q2|⟨i2,y2,b2,c2,d2⟩
   ·exact a.2 x (ci f) ⟨q1.symm,q2.symm⟩
   ·have:=a.1 p i2 x y2 f c2 (.inl q1.symm) d2;have:=(a2 i2 b2).1;omega
  ·rcases(a2 j k).2 with q2|⟨i2,y2,b2,c2,d2⟩
   ·have:=a.1 p i1 x y1 f c1 (.inr q2.symm) d1;have:=(h i1 b1).1;omega
   ·have e:=a.1 i1 i2 y1 y2 c1 c2 d1 d2;subst e;exact ih i1 (g h1 b1 c1 d1) b1 b2
def Fy(o:∀p∈l,0<=p.cost)(E:BU s):∀{k:Nat} {f:List Nat} {a fr paid:Int} {m:Nat}, -1<=fr->vJ w l ns s cost k f a fr paid=some m->(ndK s k a).Nodup:=by
 intro k;induction k with
 |zero=>intro f a fr paid m _ h;simp[vJ]at h
 |succ k ih=>
  intro f a fr paid m C h;unfold vJ at h;by_cases ha:a= -1
  ·subst ha;have e:ndK s (k+1) (-1)=[]:=by unfold ndK;rw[if_pos rfl]
   rw[e];exact List.nodup_nil
  ·rw[if_neg ha]at h;split at h
   ·rename_i hcc;obtain⟨H,h1,h2⟩:=hcc;split at h
    ·cases h
    ·rename_i x hx;split at h
     ·rename_i hpr;split at h
      ·rename_i hpay;split at h
       ·cases h
       ·rename_i m1 hm1;split at h
        ·cases h
        ·rename_i m2 hm2;have F:=ih (fr:=a) ω hm1;have G:=ih (fr:=a) ω hm2;obtain⟨_,r,t,u,_⟩:=DZ o (fr:=a) ω hm1;obtain⟨_,v,z,A,_⟩:=DZ o (fr:=a) ω hm2;have B:((a.toNat:Nat):Int)=a:=Int.toNat_of_nonneg ω;have d:ndK s k (-1)=[]:=by cases k<;>simp[ndK]
         have g:∀j∈ndK s k x.yes,((a.toNat:Nat):Int)<j/\((j:Int)=x.yes∨∃i y,i∈ndK s k x.yes/\s[i]? =some y/\(y.yes=j∨y.no=j)):=λj b=>by
          rcases t with q|q
          ·rw[q,d]at b;cases b
          ·rcases u j b with q2|⟨q2,q3⟩
           ·exact⟨ω, .inl q2⟩
           ·exact⟨ω, .inr q3⟩
         have n:∀j∈ndK s k x.no,((a.toNat:Nat):Int)<j/\((j:Int)=x.no∨∃i y,i∈ndK s k x.no/\s[i]? =some y/\(y.yes=j∨y.no=j)):=λj b=>by
          rcases z with q|q
          ·rw[q,d]at b;cases b
          ·rcases A j b with q2|⟨q2,q3⟩
           ·exact⟨ω, .inl q2⟩
           ·exact⟨ω, .inr q3⟩
         have e:ndK s (k+1) a=a.toNat::(ndK s k x.yes++ndK s k x.no):=by
          rw[ndK,if_neg ha,hx]
         rw[e,Ys,List.nodup_append];refine⟨λc=> ?_,F,G,λi D j b e=> ?_⟩
         ·rcases List.mem_append.1 c with c|c
          ·have:=(g _ c).1;omega
          ·have:=(n _ c).1;omega
         ·subst e;exact Sf E hx r v g n i D b
      ·cases h
     ·cases h
   ·cases h
def Zb:∀(n:Nat) (L:List Nat),(∀i,i<n->i∈L)->n<=L.length
 |0,_,_=>hK _
 |n+1,L,h=>by
  have hm:=h n (eA n);have:=Zb n (L.erase n) λi a=>(List.mem_erase_of_ne ω).2 (h i ω);rw[List.length_erase_of_mem hm]at this;have:=ac9 hm;omega
def SS(o:∀p∈l,0<=p.cost)(h:OZ w l ns s cost):Tk w l ns s cost:=by
 obtain⟨h1,h2,n⟩:=h;obtain⟨t,m,F,u,v⟩:=DZ o ω n;have k:=Fy o h2 ω n;have g:∀j∈ndK s 10 (mT s),j<s.length:=λj A=>by
  obtain⟨x,d,_⟩:=m j A;exact(List.getElem?_eq_some_iff.1 d).1
 have a:=(Di s.length _ k g).2 t.symm;have b:=(v λe=>by
  unfold mT at e;split at e
  ·rename_i q;exact h1 q
  ·cases e).2
 rw[Int.sub_zero]at b;refine⟨λi x d=> ?_,λi G c=> ?_,b⟩
 ·have c:=(List.getElem?_eq_some_iff.1 d).1;obtain⟨y,r,C,D,E⟩:=m i (a i c);rw[d]at r;cases r;exact⟨C,D.imp id λq=>⟨q.1,q.2.1⟩,E.imp id λq=>⟨q.1,q.2.1⟩⟩
 ·have B:=qU.1 h2 (i:Int) ω;have z:mT s=0:=by unfold mT;rw[if_neg ω]
  have f:(i:Int)∈ek s:=by
   rcases u i (a i c)with q|⟨_,j,x,_,d,hn⟩
   ·omega
   ·exact tL.2 ⟨j,x,d,hn⟩
  have:=List.count_pos_iff.2 f;omega
def RJ(n:PO l s):∀{k:Nat} {f:List Nat} {a fr paid:Int},pL w l ns s k a f (cost-paid)=true->(a= -1∨fr<a/\a<s.length)-> -1<=fr->∃m,vJ w l ns s cost k f a fr paid=some m:=by
 intro k;induction k with
 |zero=>intro f a fr paid h;simp[pL]at h
 |succ k ih=>
  intro f a fr paid h r t;unfold pL at h;unfold vJ;by_cases hneg:cost-paid<0
  ·rw[if_pos hneg]at h;cases h
  rw[if_neg hneg]at h;by_cases ha1:a= -1
  ·rw[if_pos ha1]at h⊢;cases ho:eD w l ns f with
   |true=>rw[ho]at h;cases h
   |false=>exact⟨0,rfl⟩
  ·rw[if_neg ha1]at h⊢;have c:fr<a/\a<s.length:=r.resolve_left ha1;cases ho:eD w l ns f with
   |false=>rw[ho]at h;cases h
   |true=>
    rw[ho,if_pos rfl]at h;rw[if_pos ⟨rfl,c⟩];have g:a.toNat<s.length:=ω
    obtain⟨x,q⟩:∃x,s[a.toNat]? =some x:=⟨_,bx g⟩;have d:((a.toNat:Nat):Int)=a:=Int.toNat_of_nonneg ω;obtain⟨u,o,p⟩:=n a.toNat x q;simp only[q]at h⊢;split at h
    ·rename_i hz;rw[gk]at h;have e:cost-paid-cM l x.probe.toNat=cost-(paid+cM l x.probe.toNat):=ω
     rw[e]at h;rw[if_pos ⟨u,hz⟩];unfold mL at o p;rw[d]at o p;obtain⟨v,i⟩:=ih (fr:=a) h.1 o ω;obtain⟨y,j⟩:=ih (fr:=a) h.2 p ω;have b:paid+cM l x.probe.toNat<=cost:=by
      have:=h.1;cases k with
      |zero=>simp[pL]at this
      |succ k=>
       unfold pL at this;by_cases hq:cost-(paid+cM l x.probe.toNat)<0
       ·rw[if_pos hq]at this;cases this
       ·omega
     rw[if_pos b];simp only[i,j];exact⟨_,rfl⟩
    ·cases h
def Tl(r:∀p∈l,0<=p.cost)(h:Tk w l ns s cost):OZ w l ns s cost:=by
 obtain⟨h1,h2,f⟩:=h;have n:mT s= -1∨ -1<mT s/\mT s<s.length:=by
  unfold mT;split
  ·exact .inl rfl
  ·exact .inr ω
 obtain⟨m,z⟩:=RJ (cost:=cost) (paid:=0) h1 (by rw[Int.sub_zero];exact f) n (ab6 _);have d:BU s:=qU.2 λc r=>by
  by_cases a:c∈ek s
  ·obtain⟨j,x,g,b⟩:=tL.1 a;obtain⟨_,B,C⟩:=h1 j x g;unfold mL at B C;have N:(j:Int)<c/\c<s.length:=by
    rcases b with b|b<;>omega
   have e:c=((c.toNat:Nat):Int):=(Int.toNat_of_nonneg ω).symm;have:=h2 c.toNat ω ω;rw[←e]at this;omega
  ·rw[List.count_eq_zero.2 a];omega
 obtain⟨K,D,H,L,M⟩:=DZ r ω z;have A:=Fy r d ω z;have v:∀j∈ndK s 10 (mT s),j<s.length:=λj J=>by
  obtain⟨x,g,_⟩:=D j J;exact(List.getElem?_eq_some_iff.1 g).1
 have k:∀i,i<s.length->i∈ndK s 10 (mT s):=by
  intro i;induction i using Nat.strongRecOn with
  |ind i ih=>
   intro I;have t:mT s=0:=by unfold mT;rw[if_neg ω]
   rcases Nat.eq_zero_or_pos i with rfl|hpos
   ·rcases H with q|q
    ·omega
    ·have:=q.2.2;rw[t]at this⊢;exact this
   ·have a:(i:Int)∈ek s:=List.count_pos_iff.1 (by rw[h2 i hpos I];omega);obtain⟨j,x,g,b⟩:=tL.1 a;obtain⟨_,B,C⟩:=h1 j x g;unfold mL at B C;have u:j<i:=by rcases b with b|b<;>omega
    obtain⟨y,E,_,F,G⟩:=D j (ih j u ω);rw[g]at E;cases E;rcases b with b|b
    ·rw[b]at F;rcases F with q|⟨_,_,q⟩
     ·omega
     ·exact q
    ·rw[b]at G;rcases G with q|⟨_,_,q⟩
     ·omega
     ·exact q
 have o:m=s.length:=by
  have O:=(Di s.length _ A v).1;have P:=Zb s.length _ k;omega
 refine⟨λe=> ?_,d,by rw[z,o]⟩;unfold mT at f;rw[if_pos e]at f;unfold pL at f;by_cases hq:cost<0
 ·rw[if_pos hq]at f;cases f
 ·omega
def SR(a:∀p∈l,0<=p.cost):OZ w l ns s cost↔Tk w l ns s cost:=⟨SS a,Tl a⟩
end
def gM(g:Nat->Int):List Nat->Nat
 |[]=>0
 |x::L=>L.foldl (λb y=>if g y<g b then y else b) x
def vn(g:Nat->Int):∀(L:List Nat) (x:Nat),(L.foldl (λb y=>if g y<g b then y else b) x=x∨L.foldl (λb y=>if g y<g b then y else b) x∈L)/\g (L.foldl (λb y=>if g y<g b then y else b) x)<=g x/\∀y∈L,g (L.foldl (λb y=>if g y<g b then y else b) x)<=g y
 |[],x=>⟨.inl rfl,ab6 _,λy hy=>(by cases hy)⟩
 |y::L,x=>by
  have ih:=vn g L (if g y<g x then y else x);rw[ab0];by_cases h:g y<g x
  ·rw[if_pos h]at ih⊢;refine⟨.inr ?_,ω,λu a=> ?_⟩
   ·rcases ih.1 with q|q
    ·rw[q];exact b7
    ·exact bz _ q
   ·rcases List.mem_cons.1 a with rfl|a
    ·exact ih.2.1
    ·exact ih.2.2 u a
  ·rw[if_neg h]at ih⊢;refine⟨ih.1.imp id (bz _),ih.2.1,λu a=> ?_⟩;rcases List.mem_cons.1 a with rfl|a
   ·omega
   ·exact ih.2.2 u a
variable{L:List Nat}
def I6{g:Nat->Int}(h:L≠[]):gM g L∈L:=by
 cases L with
 |nil=>exact absurd rfl h
 |cons x L=>
  rcases(vn g L x).1 with q|q
  ·show L.foldl _ x∈_;rw[q];exact b7
  ·exact bz _ q
def Vr{g:Nat->Int}{y:Nat}(h:y∈L):g (gM g L)<=g y:=by
 cases L with
 |nil=>cases h
 |cons x L=>
  rcases List.mem_cons.1 h with rfl|h
  ·exact(vn g L y).2.1
  ·exact(vn g L x).2.2 y h
section
variable (w:List Nat×List Nat) (l:List Pb) (ns:List (List (List Nat)))
def eV(f:List Nat)(p:Nat):Int:=cM l p+max (bB w l ns (f.set p 1)) (bB w l ns (f.set p 2))
def fC:Nat->List Nat->Nat->Int×List Fk
 |0,_,_=>(-1,[])
 |k+1,f,a=>if bB w l ns f=0 then(-1,[])else
  ((a:Int),⟨(gM (eV w l ns f) (bM l.length f):Nat),(fC k (f.set (gM (eV w l ns f) (bM l.length f)) 1) (a+1)).1,(fC k (f.set (gM (eV w l ns f) (bM l.length f)) 2) (a+1+(fC k (f.set (gM (eV w l ns f) (bM l.length f)) 1) (a+1)).2.length)).1⟩::
    ((fC k (f.set (gM (eV w l ns f) (bM l.length f)) 1) (a+1)).2++(fC k (f.set (gM (eV w l ns f) (bM l.length f)) 2) (a+1+(fC k (f.set (gM (eV w l ns f) (bM l.length f)) 1) (a+1)).2.length)).2))
end
section
variable {w:List Nat×List Nat} {l:List Pb} {ns:List (List (List Nat))}
def lH(a:∀p∈l,1<=p.cost/\p.cost<=1000){p:Nat}(h:p<l.length):1<=cM l p/\cM l p<=1000:=by
 unfold cM;rw[dn,bx h];exact a _ (CS h)
def hc0(a:∀p∈l,1<=p.cost/\p.cost<=1000):∀p∈l,0<=p.cost:=λp b=>by have:=(a p b).1;omega
variable{f:List Nat}
def j9(a:∀p∈l,1<=p.cost/\p.cost<=1000)(b:l.length<=f.length):(eD w l ns f=true↔1<=bB w l ns f)/\(eD w l ns f=false↔bB w l ns f=0):=by
 have h:=tO (w:=w) (ns:=ns) b;cases ho:eD w l ns f with
 |true=>
  rw[ho,if_pos rfl]at h;have:1<=bB w l ns f:=by
   rw[h];refine CZ ω λp c=> ?_;have h1:=(lH a (fJ.1 c).1).1;have h2:=(gr (w:=w) (ns:=ns) (hc0 a) (f.set p 1)).1;omega
  exact⟨⟨λ_=>this,λ_=>rfl⟩,⟨λq=>(by cases q),λq=>ω⟩⟩
 |false=>
  rw[ho,if_neg (by simp)]at h;exact⟨⟨λq=>(by cases q),λq=>ω⟩,⟨λ_=>h,λ_=>rfl⟩⟩
def AL(b:∀p∈l,1<=p.cost/\p.cost<=1000):∀{k:Nat} {f:List Nat},l.length<=f.length->jT w l ns k f=100000∨jT w l ns k f<=1000*((bM l.length f).length:Int)
 |0,f,_=>by unfold jT;split<;>omega
 |k+1,f,hf=>by
  unfold jT;split
  ·rcases Hi (λp=>cM l p+max (jT w l ns k (f.set p 1)) (jT w l ns k (f.set p 2))) (bM l.length f) 100000 with q|⟨p,hp,q⟩
   ·exact .inl q
   ·have hpl:=(fJ.1 hp).1;have c:=mG (λp=>cM l p+max (jT w l ns k (f.set p 1)) (jT w l ns k (f.set p 2))) (bM l.length f) 100000;have h1:=lH b hpl;have h2:=AL b (k:=k) (f:=f.set p 1) (by rw[hG];exact hf);have d:=AL b (k:=k) (f:=f.set p 2) (by rw[hG];exact hf);have e:=lX (a:=1) (m6 hpl hf) ω hp;have g:=lX (a:=2) (m6 hpl hf) ω hp;omega
  ·omega
def Gn(a:∀p∈l,1<=p.cost/\p.cost<=1000)(f:List Nat)(b:l.length<=f.length:=by first|assumption|(rw[hG];assumption)):bB w l ns f=100000∨bB w l ns f<=1000*((bM l.length f).length:Int):=AL a b
def AM(e:∀p∈l,1<=p.cost/\p.cost<=1000)(a:l.length<=f.length)(d:bB w l ns f≠0)(h1:bB w l ns f<100000):gM (eV w l ns f) (bM l.length f)∈bM l.length f/\bB w l ns f=eV w l ns f (gM (eV w l ns f) (bM l.length f)):=by
 have h:=tO (w:=w) (ns:=ns) a;cases ho:eD w l ns f with
 |false=>exact absurd ((j9 e a).2.1 ho) d
 |true=>
  rw[ho,if_pos rfl]at h;rcases Hi (λp=>cM l p+max (bB w l ns (f.set p 1)) (bB w l ns (f.set p 2))) (bM l.length f) 100000 with q|⟨p,hp,q⟩
  ·omega
  ·have b:gM (eV w l ns f) (bM l.length f)∈bM l.length f:=I6 (List.ne_nil_of_mem hp);refine⟨b,?_⟩;have i:=Vr (g:=eV w l ns f) hp;have j:=Hj (λp=>cM l p+max (bB w l ns (f.set p 1)) (bB w l ns (f.set p 2))) (c:=100000) b;have k:eV w l ns f p=cM l p+max (bB w l ns (f.set p 1)) (bB w l ns (f.set p 2)):=rfl;have m:eV w l ns f (gM (eV w l ns f) (bM l.length f))=cM l (gM (eV w l ns f) (bM l.length f))+max (bB w l ns (f.set (gM (eV w l ns f) (bM l.length f)) 1)) (bB w l ns (f.set (gM (eV w l ns f) (bM l.length f)) 2)):=rfl;omega
def PT:∀{k:Nat} {f:List Nat} {a:Nat},((fC w l ns k f a).1= -1/\(fC w l ns k f a).2=[]∨(fC w l ns k f a).1=a/\0<(fC w l ns k f a).2.length)/\∀c:Int,c≠ -1->(ek (fC w l ns k f a).2).count c<=(if(a:Int)<c/\c<a+(fC w l ns k f a).2.length then 1 else 0):=by
 intro k;induction k with
 |zero=>intro f a;exact⟨.inl ⟨rfl,rfl⟩,λc _=>by simp[fC,ek]⟩
 |succ k ih=>
  intro f a;unfold fC;by_cases hv:bB w l ns f=0
  ·rw[if_pos hv];exact⟨.inl ⟨rfl,rfl⟩,λc _=>by simp[ek]⟩
  ·rw[if_neg hv];generalize gM (eV w l ns f) (bM l.length f)=b;obtain⟨d,e⟩:=ih (f:=f.set b 1) (a:=a+1);generalize fC w l ns k (f.set b 1) (a+1)=r1 at*;obtain⟨g,h⟩:=ih (f:=f.set b 2) (a:=a+1+r1.2.length);generalize fC w l ns k (f.set b 2) (a+1+r1.2.length)=r2 at*;refine⟨.inr ⟨rfl,by simp⟩,λc m=> ?_⟩;have i:=e c m;have j:=h c m;dsimp only;rw[uC,BM,List.count_cons,List.count_cons,List.count_append,tb,dk];have n:(r1.1= -1/\r1.2.length=0)∨(r1.1=((a+1:Nat):Int)/\0<r1.2.length):=d.imp (λq=>⟨q.1,by rw[q.2];rfl⟩) id;have o:(r2.1= -1/\r2.2.length=0)∨(r2.1=((a+1+r1.2.length:Nat):Int)/\0<r2.2.length):=g.imp (λq=>⟨q.1,by rw[q.2];rfl⟩) id;have p:(ek r1.2).count c=0∨((ek r1.2).count c=1/\((a+1:Nat):Int)<c/\c<((a+1:Nat):Int)+r1.2.length):=by split at i<;>omega
   have r:(ek r2.2).count c=0∨((ek r2.2).count c=1/\((a+1+r1.2.length:Nat):Int)<c/\c<((a+1+r1.2.length:Nat):Int)+r2.2.length):=by split at j<;>omega
   have s:((if(r1.1==c)=true then 1 else 0)=0/\r1.1≠c)∨((if(r1.1==c)=true then 1 else 0)=1/\r1.1=c):=by
    by_cases q:r1.1=c
    ·right;exact⟨if_pos (by simpa using q),q⟩
    ·left;exact⟨if_neg (by simpa using q),q⟩
   have t:((if(r2.1==c)=true then 1 else 0)=0/\r2.1≠c)∨((if(r2.1==c)=true then 1 else 0)=1/\r2.1=c):=by
    by_cases q:r2.1=c
    ·right;exact⟨if_pos (by simpa using q),q⟩
    ·left;exact⟨if_neg (by simpa using q),q⟩
   clear d e g h i j;generalize(if(r1.1==c)=true then 1 else 0)=E1 at*;generalize(if(r2.1==c)=true then 1 else 0)=E2 at*;generalize(ek r1.2).count c=K1 at*;generalize(ek r2.2).count c=K2 at*;split<;>omega
def Tx(d:∀p∈l,1<=p.cost/\p.cost<=1000){s:List Fk}{cost:Int}:∀{k:Nat} {f:List Nat} {a:Nat} {fr paid:Int},l.length<=f.length->(bM l.length f).length<k->bB w l ns f<100000->paid+bB w l ns f<=cost->fr<a→
 (∀i,i<(fC w l ns k f a).2.length->s[a+i]? =(fC w l ns k f a).2[i]?)->vJ w l ns s cost k f (fC w l ns k f a).1 fr paid=some (fC w l ns k f a).2.length:=by
 intro k;induction k with
 |zero=>intro f a fr paid _ h;omega
 |succ k ih=>
  intro f a fr paid e E h1 F A o;unfold fC at o⊢;by_cases hv:bB w l ns f=0
  ·rw[if_pos hv];unfold vJ;rw[if_pos rfl,(j9 d e).2.2 hv];rfl
  ·rw[if_neg hv]at o⊢;obtain⟨j,m⟩:=AM d e hv h1;obtain⟨g,q⟩:=fJ.1 j;have z:∀x,bB w l ns (f.set (gM (eV w l ns f) (bM l.length f)) x)=bB w l ns (f.set (gM (eV w l ns f) (bM l.length f)) x):=λ_=>rfl;have y:=lH d g;unfold eV at m;have n:=λx (B:x≠0)=>lX (a:=x) (m6 g e) B j;change bB w l ns f=cM l (gM (eV w l ns f) (bM l.length f))+max (bB w l ns (f.set (gM (eV w l ns f) (bM l.length f)) 1)) (bB w l ns (f.set (gM (eV w l ns f) (bM l.length f)) 2))at m;clear z;generalize gM (eV w l ns f) (bM l.length f)=b at*;have c:=o 0 (by simp);have r:∀i,i<(fC w l ns k (f.set b 1) (a+1)).2.length->s[a+1+i]? =(fC w l ns k (f.set b 1) (a+1)).2[i]? :=λi u=>by
    have:=o (i+1) (by simp;omega);rw[show a+(i+1)=a+1+i by omega,List.getElem?_cons_succ,oB u]at this;exact this
   have t:∀i,i<(fC w l ns k (f.set b 2) (a+1+(fC w l ns k (f.set b 1) (a+1)).2.length)).2.length->s[a+1+(fC w l ns k (f.set b 1) (a+1)).2.length+i]? =(fC w l ns k (f.set b 2) (a+1+(fC w l ns k (f.set b 1) (a+1)).2.length)).2[i]? :=λi u=>by
    have:=o ((fC w l ns k (f.set b 1) (a+1)).2.length+i+1) (by simp;omega);rw[show a+((fC w l ns k (f.set b 1) (a+1)).2.length+i+1)=a+1+(fC w l ns k (f.set b 1) (a+1)).2.length+i by omega,List.getElem?_cons_succ,hX ω,ac3]at this;exact this
   have C:=ih (f:=f.set b 1) (a:=a+1) (fr:=a) (paid:=paid+cM l b) (by rw[hG];exact e) (by have:=n 1 ω;omega) ω ω ω r;have D:=ih (f:=f.set b 2) (a:=a+1+(fC w l ns k (f.set b 1) (a+1)).2.length) (fr:=a) (paid:=paid+cM l b) (by rw[hG];exact e) (by have:=n 2 ω;omega) ω ω ω t;generalize fC w l ns k (f.set b 1) (a+1)=r1 at*;generalize fC w l ns k (f.set b 2) (a+1+r1.2.length)=r2 at*;rw[R0,List.getElem?_cons_zero]at c;have v:=(List.getElem?_eq_some_iff.1 c).1;unfold vJ;dsimp only;rw[if_neg ω,if_pos ⟨(j9 d e).1.2 (by have:=(gr (w:=w) (ns:=ns) (hc0 d) f).1;omega),ω,ω⟩];rw[show((a:Int)).toNat=a from rfl];simp only[c];rw[show((b:Int)).toNat=b from rfl,if_pos ⟨⟨ω,ω⟩,q⟩,if_pos (by have:=(gr (w:=w) (ns:=ns) (hc0 d) (f.set b 1)).1;omega)];simp only[C,D,tb,dk]
def DU(w:List Nat×List Nat)(l:List Pb)(ns:List (List (List Nat))):List Fk:=(fC w l ns 10 z8 0).2
def Wx(e:∀p∈l,1<=p.cost/\p.cost<=1000)(h:l.length<=8){cost:Int}(h1:bB w l ns z8<100000)(m:bB w l ns z8<=cost):OZ w l ns (DU w l ns) cost:=by
 have g:=PT (w:=w) (l:=l) (ns:=ns) (k:=10) (f:=z8) (a:=0);have b:mT (DU w l ns)=(fC w l ns 10 z8 0).1:=by
  unfold mT DU;rcases g.1 with⟨q1,q2⟩|⟨q1,q2⟩
  ·rw[q1,q2];rfl
  ·rw[q1,if_neg ω];rfl
 have j:=(gr (w:=w) (ns:=ns) (hc0 e) z8).1;refine⟨λ_=>ω,qU.2 λc d=> ?_,?_⟩
 ·have:=g.2 c d;unfold DU;split at this<;>omega
 ·rw[b];refine Tx e (f:=z8) (a:=0) h (by have:=jQ l.length z8;omega) h1 ω (by decide) λi _=> ?_;rw[hF];rfl
def Tw(a:bB w l ns z8=0):DU w l ns=[]:=by
 unfold DU fC;rw[if_pos a]
end
end Go.A.Pk
end
