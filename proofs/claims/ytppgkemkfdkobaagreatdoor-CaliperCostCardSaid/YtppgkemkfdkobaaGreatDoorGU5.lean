/- Walks of functions, plain laws, the table. -/
import Derived.Test.YtppgkemkfdkobaaGreatDoorGU4
import Derived.Test.YtppgkemkfdkobaaGreatDoorGF
import Derived.Test.YtppgkemkfdkobaaGreatDoorGD
import Derived.Test.YtppgkemkfdkobaaGreatDoorGU3
set_option linter.all false
set_option maxHeartbeats 16000000
set_option maxRecDepth 100000
section
namespace Go.A.Pk
def nvr:Int:=1099511627776
def cvF(v:Int):Int:=if v=100000 then nvr else v
section
variable (w:List Nat×List Nat) (l:List Pb) (ns:List (List (List Nat)))
def sQ(f:List Nat):Int:=if bsB w (l.zip f)=true then cvF (bB w l ns f)else nvr
def mH(f:List Nat)(p:Nat):Nat->Int
 |0=>0
 |a+1=>if bsB w (l.zip (f.set p (a+1)))=true then max (mH f p a) (sQ w l ns (f.set p (a+1)))else mH f p a
end
section
variable {w:List Nat×List Nat} {l:List Pb} {ns:List (List (List Nat))}
variable{f:List Nat}
def Gp(a:l.length<=f.length)(h:bsB w (l.zip f)=false):bB w l ns f=0:=by
 rw[tO a];unfold eD;rw[h];rfl
def GP{v:Int}(h:0<=v/\v<=100000):0<=cvF v/\cvF v<=nvr:=by unfold cvF nvr;split<;>omega
def Th(e:∀p∈l,1<=p.cost/\p.cost<=1000)(g:l.length<=f.length)(p:Nat):mH w l ns f p 2=cvF (max (bB w l ns (f.set p 1)) (bB w l ns (f.set p 2))):=by
 have i:=gr (w:=w) (ns:=ns) (hc0 e) (f.set p 1);have j:=gr (w:=w) (ns:=ns) (hc0 e) (f.set p 2);have m:=GP i;have n:=GP j;have b:∀a,mH w l ns f p (a+1)=max (mH w l ns f p a) (cvF (bB w l ns (f.set p (a+1))))∨(bsB w (l.zip (f.set p (a+1)))=false/\mH w l ns f p (a+1)=mH w l ns f p a):=λa=>by
  cases hb:bsB w (l.zip (f.set p (a+1)))with
  |true=>left;rw[mH,if_pos hb];unfold sQ;rw[if_pos hb]
  |false=>right;rw[mH,if_neg (by simp[hb])];exact⟨rfl,rfl⟩
 have c:mH w l ns f p 0=0:=rfl;have d:mH w l ns f p 1=cvF (bB w l ns (f.set p 1)):=by
  rcases b 0 with h|⟨hb,h⟩
  ·rw[h,c];show max 0 (cvF (bB w l ns (f.set p 1)))=_;omega
  ·rw[h,c,Gp (by rw[hG];exact g) hb];rfl
 have k:mH w l ns f p 2=max (cvF (bB w l ns (f.set p 1))) (cvF (bB w l ns (f.set p 2))):=by
  rcases b 1 with h|⟨hb,h⟩
  ·rw[h,d]
  ·rw[h,d,Gp (by rw[hG];exact g) hb];have:cvF 0=0:=rfl;rw[this];omega
 rw[k];generalize bB w l ns (f.set p 1)=x at*;generalize bB w l ns (f.set p 2)=y at*;unfold cvF nvr at*;split<;>split<;>split<;>omega
def IJ{g m:Nat->Int}:∀{L:List Nat} {c:Int},c<=100000->(∀p∈L,∃k,1<=k/\k<=1000/\g p=k+m p/\(m p=100000∨0<=m p/\m p<=8000))->mnF (λp=>g p-m p+cvF (m p)) L (cvF c)=cvF (mnF g L c)
 |[],c,_,_=>rfl
 |p::L,c,hc,h=>by
  obtain⟨k,k1,k2,k3,k4⟩:=h p b7;show mnF _ L (min (cvF c) (g p-m p+cvF (m p)))=cvF (mnF g L (min c (g p)));have e:min (cvF c) (g p-m p+cvF (m p))=cvF (min c (g p)):=by
   unfold cvF nvr;split<;>split<;>split<;>omega
  rw[e];exact IJ ω λq a=>h q (bz _ a)
def Pv(a:∀p∈l,1<=p.cost/\p.cost<=1000)(s:l.length<=8)(d:l.length<=f.length)(k:eD w l ns f=true):
 mnF (λp=>cM l p+mH w l ns f p 2) (bM l.length f) nvr=cvF (bB w l ns f):=by
 have h:=IJ (g:=λp=>cM l p+max (bB w l ns (f.set p 1)) (bB w l ns (f.set p 2))) (m:=λp=>max (bB w l ns (f.set p 1)) (bB w l ns (f.set p 2))) (L:=bM l.length f) (c:=100000) (ab6 _) λp j=>by
  have i:=(fJ.1 j).1;have b:=lH a i;refine⟨cM l p,b.1,b.2,rfl,?_⟩;have n:=gr (w:=w) (ns:=ns) (hc0 a) (f.set p 1);have o:=gr (w:=w) (ns:=ns) (hc0 a) (f.set p 2);have q:=Gn (w:=w) (ns:=ns) a (f.set p 1) (by rw[hG];exact d);have r:=Gn (w:=w) (ns:=ns) a (f.set p 2) (by rw[hG];exact d);have t:=jQ l.length (f.set p 1);have u:=jQ l.length (f.set p 2);show max (bB w l ns (f.set p 1)) (bB w l ns (f.set p 2))=100000∨0<=max (bB w l ns (f.set p 1)) (bB w l ns (f.set p 2))/\max (bB w l ns (f.set p 1)) (bB w l ns (f.set p 2))<=8000;omega
 rw[tO d,if_pos k,←h];show _=mnF _ _ (cvF 100000);have e:cvF 100000=nvr:=rfl;rw[e];refine tD λp j=> ?_;rw[Th a d];show _=cM l p+max _ _-max _ _+cvF _;omega
end
structure Sta where
 found:List Nat
 cost:Int
def lkS(s:List Sta)(g:List Nat):Int:=match s.find? (λx=>decide (jh x.found=g))with|some x=>x.cost|none=>0
def ez(f:List Nat):Nat:=f.foldl (λn k=>3*n+k) 0
def zu:∀(f:List Nat) (a:Nat),f.foldl (λn k=>3*n+k) a=3 ^ f.length*a+ez f
 |[],a=>by simp[ez]
 |k::f,a=>by
  have e:ez (k::f)=f.foldl (λn k=>3*n+k) (3*0+k):=rfl;rw[ab0,zu f,e,zu f (3*0+k),tb,Hc,Nat.mul_add,←Nat.mul_assoc];rw[Nat.mul_add (3 ^ f.length) (3*0) k];omega
def mA(k:Nat)(f:List Nat):ez (k::f)=3 ^ f.length*k+ez f:=by
 have e:ez (k::f)=f.foldl (λn k=>3*n+k) (3*0+k):=rfl;rw[e,zu];simp
def qw:∀{f:List Nat},(∀k∈f,k<=2)->ez f<3 ^ f.length
 |[],_=>by decide
 |k::f,h=>by
  have h1:=qw (f:=f) λx b=>h x (bz _ b);have a:=h k b7;rw[mA,tb,Hc];have:3 ^ f.length*k<=3 ^ f.length*2:=Ok _ a;omega
section
variable (w:List Nat×List Nat) (l:List Pb) (ns:List (List (List Nat)))
def IS(s:List Sta):Prop:=(∀x∈s,x.found.length=l.length/\(∀k∈x.found,k<=2)/\1<=x.cost/\x.cost<=100000)/\∀(i:Nat) x y,s[i]? =some x->s[i+1]? =some y->ez x.found<ez y.found
def JN(lk:List Nat->Int)(f:List Nat)(c:Int)(p a:Nat):Bool:=bsB w (l.zip (f.set p a))&&(decide (c<=cM l p)||decide (c-cM l p<=lk (f.set p a)))
def Nf(lk:List Nat->Int)(f:List Nat)(c:Int):Bool:=(bM l.length f).all λp=>JN w l lk f c p 1||JN w l lk f c p 2
def JK(s:List Sta)(cost:Int):Prop:=IS l s/\(∀x∈s,eD w l ns (jh x.found)=true/\Nf w l (lkS s) (jh x.found) x.cost=true)/\(cost<=0∨cost<=lkS s z8)
end
section
variable {w:List Nat×List Nat} {l:List Pb} {ns:List (List (List Nat))}
def jg(w:List Nat×List Nat)(l:List Pb)(ns:List (List (List Nat))):Nat->Nat->List Nat->List (List Nat)
 |0,_,f=>if eD w l ns f then [f]else []
 |k+1,i,f=>jg w l ns k (i+1) (f.set i 0)++(jg w l ns k (i+1) (f.set i 1)++jg w l ns k (i+1) (f.set i 2))
def Cn(w:List Nat×List Nat)(l:List Pb)(ns:List (List (List Nat))):List Sta:=(jg w l ns l.length 0 z8).map λf=>⟨f.take l.length,bB w l ns f⟩
def xY:∀{k i:Nat} {f g:List Nat},i+k<=f.length->(g∈jg w l ns k i f↔eD w l ns g=true/\g.length=f.length/\(∀j,j<i->g.getD j 0=f.getD j 0)/\(∀j,i<=j->j<i+k->g.getD j 0<=2)/\∀j,i+k<=j->g.getD j 0=f.getD j 0):=by
 intro k;induction k with
 |zero=>
  intro i f g _;unfold jg;by_cases ho:eD w l ns f=true
  ·rw[if_pos ho,List.mem_singleton];constructor
   ·rintro rfl;exact⟨ho,rfl,λ_ _=>rfl,λj m d=>ω,λ_ _=>rfl⟩
   ·rintro⟨m,d,h,_,n⟩;refine List.ext_getElem d λj r s=> ?_;have:g.getD j 0=f.getD j 0:=by
     rcases Hk j i with q|q
     ·exact h j q
     ·exact n j q
    rw[dn,dn,bx r,bx s]at this;exact this
  ·rw[if_neg ho];constructor
   ·intro q;cases q
   ·rintro⟨m,d,h,_,n⟩;exfalso;apply ho;have e:g=f:=by
     refine List.ext_getElem d λj r s=> ?_;have:g.getD j 0=f.getD j 0:=by
      rcases Hk j i with q|q
      ·exact h j q
      ·exact n j q
     rw[dn,dn,bx r,bx s]at this;exact this
    rw[←e];exact m
 |succ k ih=>
  intro i f g z;have t:∀a,(f.set i a).length=f.length:=λa=>hG;have c:∀a j,(f.set i a).getD j 0=if j=i then a else f.getD j 0:=λa j=>vf ω
  have o:∀a,g∈jg w l ns k (i+1) (f.set i a)↔eD w l ns g=true/\g.length=f.length/\(∀j,j<i->g.getD j 0=f.getD j 0)/\g.getD i 0=a/\(∀j,i+1<=j->j<i+1+k->g.getD j 0<=2)/\∀j,i+1+k<=j->g.getD j 0=f.getD j 0:=λa=>by
   rw[ih (by rw[t];omega),t];constructor
   ·rintro⟨m,d,h,p,n⟩;refine⟨m,d,λj v=> ?_,?_,p,λj v=> ?_⟩
    ·rw[h j ω,c,if_neg ω]
    ·rw[h i ω,c,if_pos rfl]
    ·rw[n j v,c,if_neg ω]
   ·rintro⟨m,d,h,p,n,u⟩;refine⟨m,d,λj v=> ?_,n,λj v=> ?_⟩
    ·rw[c];by_cases q:j=i
     ·rw[if_pos q,q,p]
     ·rw[if_neg q,h j ω]
    ·rw[c,if_neg ω,u j v]
  unfold jg;rw[List.mem_append,List.mem_append,o,o,o];constructor
  ·rintro(⟨m,d,h,p,n,u⟩|⟨m,d,h,p,n,u⟩|⟨m,d,h,p,n,u⟩)<;>
   ·refine⟨m,d,h,λj r s=> ?_,λj v=>u j ω⟩;by_cases q:j=i
    ·subst q;omega
    ·exact n j ω ω
  ·rintro⟨m,d,h,p,n⟩;have u:=p i (bl _) ω;have x:∀j,i+1<=j->j<i+1+k->g.getD j 0<=2:=λj a b=>p j ω ω;have y:∀j,i+1+k<=j->g.getD j 0=f.getD j 0:=λj a=>n j ω;have:g.getD i 0=0∨g.getD i 0=1∨g.getD i 0=2:=ω
   rcases this with q|q|q
   ·exact .inl ⟨m,d,h,q,x,y⟩
   ·exact .inr (.inl ⟨m,d,h,q,x,y⟩)
   ·exact .inr (.inr ⟨m,d,h,q,x,y⟩)
def RP:∀{k i:Nat} {f:List Nat},i+k<=f.length->(∀g∈jg w l ns k i f,3 ^ k*ez (f.take i)<=ez (g.take (i+k))/\ez (g.take (i+k))<3 ^ k*(ez (f.take i)+1))/\(jg w l ns k i f).Pairwise λa b=>ez (a.take (i+k))<ez (b.take (i+k)):=by
 intro k;induction k with
 |zero=>
  intro i f _;unfold jg;split
  ·refine⟨λg c=> ?_,List.pairwise_singleton _ _⟩;rw[List.mem_singleton]at c;subst c;rw[R0,Nat.pow_zero];omega
  ·exact⟨λg c=>(by cases c),List.Pairwise.nil⟩
 |succ k ih=>
  intro i f t;have s:i<f.length:=ω
  have u:∀a,(f.set i a).take (i+1)=f.take i++[a]:=λa=>by
   rw[xa (by rw[hG];exact s),List.getElem_set_self,List.take_set_of_le (bl _)]
  have v:∀a,ez ((f.set i a).take (i+1))=3*ez (f.take i)+a:=λa=>by
   rw[u];unfold ez;rw[yr];rfl
  have d:=λa=>ih (i:=i+1) (f:=f.set i a) (by rw[hG];omega);simp only[v,show i+1+k=i+(k+1)by omega]at d;obtain⟨m,x⟩:=d 0;obtain⟨h,y⟩:=d 1;obtain⟨n,z⟩:=d 2;generalize ez (f.take i)=X at*;have o:3 ^ (k+1)*X=3 ^ k*(3*X+0):=by rw[Hc,Nat.mul_assoc];rfl
  have p:3 ^ k*(3*X+0+1)=3 ^ k*(3*X+1):=rfl;have q:3 ^ k*(3*X+1+1)=3 ^ k*(3*X+2):=rfl;have r:3 ^ (k+1)*(X+1)=3 ^ k*(3*X+2+1):=by rw[Hc,Nat.mul_assoc];rfl
  have A:3 ^ k*(3*X+0)<=3 ^ k*(3*X+1):=Ok _ ω;have B:3 ^ k*(3*X+1)<=3 ^ k*(3*X+2):=Ok _ ω;have C:3 ^ k*(3*X+2)<=3 ^ k*(3*X+2+1):=Ok _ ω;rw[p]at m;rw[q]at h;rw[o,r];unfold jg;refine⟨λg c=> ?_,?_⟩
  ·rcases List.mem_append.1 c with c|c
   ·have:=m g c;omega
   ·rcases List.mem_append.1 c with c|c
    ·have:=h g c;omega
    ·have:=n g c;omega
  ·refine List.pairwise_append.2 ⟨x,List.pairwise_append.2 ⟨y,z,λa j b e=> ?_⟩,λa j b e=> ?_⟩
   ·have:=h a j;have:=n b e;omega
   ·have:=m a j;rcases List.mem_append.1 e with e|e
    ·have:=h b e;omega
    ·have:=n b e;omega
variable{f:List Nat}
def Rj(k:IsW w)(z:∀p∈l,IsS p.cells)(L:l.length<=f.length)(d:bsB w (l.zip f)=true){p:Nat}(J:p∈bM l.length f):bsB w (l.zip (f.set p 1))=true∨bsB w (l.zip (f.set p 2))=true:=by
 obtain⟨D,K⟩:=fJ.1 J;have o:=pz (f:=f) z;have v:=kE k.a o;unfold bsB at d;rw[gk]at d;have r:Sub (bsS w.1 (l.zip f)) w.2:=(gY v k.b).1 d.1;have t:=Cq.1 d.2;have C:∀(i:Nat) (a:Nat) x,(l.zip (f.set p a))[i]? =some x->(i=p/\l[p]? =some x.1/\x.2=a)∨(i≠p/\(l.zip f)[i]? =some x):=λi a x h=>by
  obtain⟨H,u⟩:=List.getElem?_zip_eq_some.1 h;rw[If]at u;by_cases e:p=i
  ·subst e;rw[if_pos rfl,if_pos ω]at u;exact .inl ⟨rfl,H,(Option.some.inj u).symm⟩
  ·rw[if_neg e]at u;exact .inr ⟨λq=>e q.symm,List.getElem?_zip_eq_some.2 ⟨H,u⟩⟩
 have g:∀(a:Nat) x,x∈l.zip (f.set p a)->(l[p]? =some x.1/\x.2=a)∨x∈l.zip f:=λa x j=>by
  obtain⟨i,I⟩:=List.mem_iff_getElem?.1 j;rcases C i a x I with q|q
  ·exact .inl q.2
  ·exact .inr (ci q.2)
 obtain⟨y,E⟩:∃y,l[p]? =some y:=⟨l[p],bx D⟩;have F:=z y (ci E);cases hin:sIn y.cells (bsS w.1 (l.zip f))with
 |true=>
  left;have c:=pz (f:=f.set p 1) z;have m:=kE k.a c;have n:Sub (bsS w.1 (l.zip (f.set p 1))) (bsS w.1 (l.zip f)):=tj k.a c (ql k.a o) λx j s=>by
   rcases g 1 x j with⟨q,_⟩|q
   ·rw[E]at q;cases q;exact(gY F v).1 hin
   ·exact tn k.a o x q s
  unfold bsB;rw[(gY m k.b).2 (n.trans r),yi,Cq];intro x j s;rcases g 1 x j with⟨_,q⟩|q
  ·omega
  ·have G:=t x q s;cases h2:sIn x.1.cells (bsS w.1 (l.zip (f.set p 1)))with
   |false=>rfl
   |true=>
    have A:=(gY (c x j) m).1 h2;rw[(gY (c x j) v).2 (A.trans n)]at G;cases G
 |false=>
  right;have c:=pz (f:=f.set p 2) z;have m:=kE k.a c;have n:Sub (bsS w.1 (l.zip (f.set p 2))) (bsS w.1 (l.zip f)):=tj k.a c (ql k.a o) λx j s=>by
   rcases g 2 x j with⟨_,q⟩|q
   ·omega
   ·exact tn k.a o x q s
  unfold bsB;rw[(gY m k.b).2 (n.trans r),yi,Cq];intro x j s;cases h2:sIn x.1.cells (bsS w.1 (l.zip (f.set p 2)))with
  |false=>rfl
  |true=>
   have A:=(gY (c x j) m).1 h2;have B:=(gY (c x j) v).2 (A.trans n);rcases g 2 x j with⟨q,_⟩|q
   ·rw[E]at q;have e:=Option.some.inj q;rw[e,B]at hin;cases hin
   ·rw[t x q s]at B;cases B
def sK(h:eD w l ns f=true):bsB w (l.zip f)=true:=by
 unfold eD at h;rw[gk]at h;exact h.1
def zY{n:Nat}(f:n<=8){g:List Nat}(e:g.length=8)(d:∀j,n<=j->g.getD j 0=0):jh (g.take n)=g:=by
 refine List.ext_getElem (by rw[OS (by rw[lp];omega),e]) λj b a=> ?_;have c:(jh (g.take n))[j]? =g[j]? :=by
  unfold jh;rcases Hk j n with q|q
  ·rw[oB (by rw[lp];omega),wi q]
  ·rw[hX (by rw[lp];omega),GH,lp,if_pos ω];have:=d j q;rw[dn,bx a]at this;rw[bx a];exact congrArg some this.symm
 rw[bx b,bx a]at c;exact Option.some.inj c
def vP(j:Nat):z8.getD j 0=0:=by
 rcases Hk j 8 with q|q
 ·rw[dn,QU q];rfl
 ·rw[dn,kz (by exact q)];rfl
def LW(a:l.length<=8){g:List Nat}(d:g.length=8)(k:∀j,j<l.length->g.getD j 0<=2)(e:∀j,l.length<=j->g.getD j 0=0)(n:eD w l ns g=true):lkS (Cn w l ns) g=bB w l ns g:=by
 have m:g∈jg w l ns l.length 0 z8:=(xY (by rw[hF];exact a)).2 ⟨n,d,λj c=>ω,λj _ c=>k j ω,λj c=>by rw[e j ω,vP]⟩;unfold lkS;cases hq:(Cn w l ns).find? (λx=>decide (jh x.found=g))with
 |none=>
  exfalso;rw[List.find?_eq_none]at hq;have:=hq ⟨g.take l.length,bB w l ns g⟩ (List.mem_map.2 ⟨g,m,rfl⟩);rw[zY a d e]at this;simp at this
 |some x=>
  have h:=List.mem_of_find?_eq_some hq;have i:jh x.found=g:=by simpa using List.find?_some hq
  obtain⟨f,b,rfl⟩:=List.mem_map.1 h;obtain⟨_,o,_,_,p⟩:=(xY (by rw[hF];exact a)).1 b;have:f=g:=by
   rw[←i];exact(zY a o λj c=>by rw[p j ω,vP]).symm
  rw[this]
def Rb(X:IsW w)(J:∀p∈l,IsS p.cells)(z:∀p∈l,1<=p.cost/\p.cost<=1000)(t:l.length<=8){cost:Int}(A:cost<=bB w l ns z8):JK w l ns (Cn w l ns) cost:=by
 have d:∀g∈jg w l ns l.length 0 z8,eD w l ns g=true/\g.length=8/\(∀j,j<l.length->g.getD j 0<=2)/\∀j,l.length<=j->g.getD j 0=0:=λg s=>by
  obtain⟨u,C,_,F,Y⟩:=(xY (by rw[hF];exact t)).1 s;exact⟨u,C,λj o=>F j (hK _) ω,λj o=>by rw[Y j ω,vP]⟩
 have W:∀g∈jg w l ns l.length 0 z8,1<=bB w l ns g/\bB w l ns g<=100000:=λg s=>by
  obtain⟨u,C,_,_⟩:=d g s;exact⟨(j9 z ω).1.1 u,(gr (w:=w) (ns:=ns) (hc0 z) g).2⟩
 refine⟨⟨λx B=> ?_,λi x y B K=> ?_⟩,λx B=> ?_,?_⟩
 ·obtain⟨g,s,rfl⟩:=List.mem_map.1 B;obtain⟨u,C,L,F⟩:=d g s;refine⟨by dsimp only;rw[lp];omega,λk T=> ?_,W g s⟩;obtain⟨j,o⟩:=List.mem_iff_getElem?.1 T;have I:=(List.getElem?_eq_some_iff.1 o).1;rw[lp]at I;rw[wi ω]at o;have:=L j ω;rw[dn,o]at this;exact this
 ·unfold Cn at B K;rw[wt]at B K;obtain⟨a,H,rfl⟩:=Option.map_eq_some_iff.1 B;obtain⟨b,P,rfl⟩:=Option.map_eq_some_iff.1 K;have E:=(RP (w:=w) (l:=l) (ns:=ns) (k:=l.length) (i:=0) (f:=z8) (by rw[hF];exact t)).2;obtain⟨N,M⟩:=List.getElem?_eq_some_iff.1 H;obtain⟨O,G⟩:=List.getElem?_eq_some_iff.1 P;have:=List.pairwise_iff_getElem.1 E i (i+1) N O ω;rw[M,G,hF]at this;exact this
 ·obtain⟨g,s,rfl⟩:=List.mem_map.1 B;obtain⟨u,C,L,F⟩:=d g s;dsimp only;rw[zY t C F];refine⟨u,List.all_eq_true.2 λp E=> ?_⟩;have V:=(fJ.1 E).1;have e:=tO (w:=w) (l:=l) (ns:=ns) (f:=g) ω;rw[u,if_pos rfl]at e;have G:=Hj (λp=>cM l p+max (bB w l ns (g.set p 1)) (bB w l ns (g.set p 2))) (c:=100000) E;rw[←e]at G;have v:=λa=>(gr (w:=w) (ns:=ns) (hc0 z) (g.set p a)).1;have n:∀a,(g.set p a).length=8:=λa=>by rw[hG];exact C
  have r:∀a,a<=2->bsB w (l.zip (g.set p a))=true->bB w l ns g<=cM l p+bB w l ns (g.set p a)->JN w l (lkS (Cn w l ns)) g (bB w l ns g) p a=true:=λa H D U=>by
   unfold JN;rw[D,yi,wp,decide_eq_true_eq,decide_eq_true_eq];by_cases hz:bB w l ns (g.set p a)=0
   ·left;omega
   ·right;rw[LW t (n a) (λj o=> ?_) (λj o=> ?_) ((j9 z (by rw[n];exact t)).1.2 (by have:=v a;omega))]
    ·omega
    ·rw[vf ω];split
     ·exact H
     ·exact L j o
    ·rw[vf ω,if_neg ω];exact F j o
  have m:∀a,1<=bB w l ns (g.set p a)->bsB w (l.zip (g.set p a))=true:=λa h=>sK ((j9 z (by rw[n];exact t)).1.2 h);have Q:=v 1;have S:=v 2;rw[wp];by_cases q1:1<=bB w l ns (g.set p 1)/\bB w l ns (g.set p 2)<=bB w l ns (g.set p 1)
  ·exact .inl (r 1 ω (m 1 q1.1) ω)
  ·by_cases q2:1<=bB w l ns (g.set p 2)
   ·exact .inr (r 2 ω (m 2 q2) ω)
   ·rcases Rj X J ω (sK u) E with q|q
    ·exact .inl (r 1 ω q ω)
    ·exact .inr (r 2 ω q ω)
 ·by_cases hz:bB w l ns z8=0
  ·left;omega
  ·right;have Z:=(gr (w:=w) (ns:=ns) (hc0 z) z8).1;rw[LW t rfl (λj _=>by rw[vP];omega) (λj _=>vP j) ((j9 (w:=w) (ns:=ns) (f:=z8) z t).1.2 ω)];exact A
end
variable{T:Nat->Option aq}
structure LL (T:Nat->Option aq):Prop where
 r8:Em T
 n3:LF T
 f100:T 27=some f100
 f103:T 39=some f103
variable{h:Heap}{os:List (List Nat)}
def wK(F:LL T)(hr:Rdy h){w:List Nat×List Nat}(j:IsW w){o:Value}{l:List Pb}(t:PbS h o l)(x:l.length<1000000){n:Value}(r:SsQ h n os)(i:os.length<1000000):
 Pu T 27 [wV w,o,n] h (zc (mM w l os)):=by
 have m:=F.r8.p;refine .of m F.f100 hr rfl ?_;have k:cellsOf (wV w)=wL w:=by show(wL w).toArray.toList=_;simp
 obtain⟨a,c,rfl⟩:=t.form;obtain⟨z,A,rfl⟩:=r.sl.form;have d:Ext h (h.push (qt (cellsOf (wV w)))):=(Ext.refl h).push _;have B:(h.push (qt (cellsOf (wV w)))).get h.next=some (qt (wL w)):=by rw[k];exact z3 h _
 have D:(h.push (qt (cellsOf (wV w)))).next=h.next+1:=rfl
 refine Y4 ?_;generalize(h.push (qt (cellsOf (wV w))))=H at*;have W:=d.wf hr.wf;have g:=d.log.trans hr.log;have E:=ja j;have y:=gu j;have b:=Xj F.n3.rs (h:=η H) (.of W) j;have f:=OM m F.n3.rs.f93 (h:=η H) (.of W) ((r.ext d).log []) i;have u:=KW F.r8 (h:=η H) (.of W) ((t.ext d).log []) x;have v:mM w l os=if sIn w.1 w.2=false then 1 else if FI os≠0 then FI os else prE l:=by
  unfold mM FI;by_cases h1:sIn w.1 w.2=false
  ·rw[if_pos h1,if_pos h1]
  ·rw[if_neg h1,if_neg h1];by_cases h6:6<os.length
   ·rw[if_pos h6,if_pos h6,if_pos (by decide)]
   ·rw[if_neg h6,if_neg h6];by_cases h3:os.any (λs=>decide (s=s0))=true
    ·rw[if_pos h3,if_pos h3,if_pos (by decide)]
    ·rw[if_neg h3,if_neg h3,if_neg (by decide)]
 rw[v];cases hin:sIn w.1 w.2 with
 |false=>
  rw[hin,if_neg (by simp)]at b;rw[if_pos rfl];refine Y3 ?_;refine FW.pu b ?_;refine Y23 ?_;exact an g rfl rfl
 |true=>
 rw[hin,if_pos rfl]at b;rw[if_neg (by simp)];by_cases he:FI os=0
 ·rw[he]at f;rw[if_neg (λq=>q he)];refine Y3 ?_;refine FW.pu b ?_;refine Y11 ?_;refine FW.pu f ?_;refine Y11 ?_;refine FW.pu u ?_;refine Y7 ?_;exact an g rfl rfl
 ·rw[if_pos he];have C:zz (FI os) 0 false:=jH he;generalize FI os=e at*;refine Y3 ?_;refine FW.pu b ?_;refine Y11 ?_;refine FW.pu f ?_;refine Y15 ?_;exact an g rfl rfl
variable{ov:Value}
def GD(F:LL T)(hr:Rdy h){w:List Nat×List Nat}(U:IsW w)(so:SsQ h ov os)(cJ:os.length<1000000)(M:∀s∈os,¬s=s0):
 Al T 39 [wV w,ov] h λv E=>NdS E v (os.map (cE w)):=by
 have hp:=F.r8.p;refine .of hp F.f103 hr ?_ ?_
 ·rintro v h1 hv q;obtain⟨d,s1,s2⟩:=q.ex;rcases aH.inv s1 with⟨c,rfl,h0,_⟩|⟨b,o,cap,rfl,_⟩
  ·have e:os.map (cE w)=[]:=List.length_eq_zero_iff.1 h0;rw[e];exact⟨[], .nil,λi r hi=>by simp at hi⟩
  ·cases hv
 obtain⟨a,c,rfl⟩:=so.sl.form;have ba:cellsOf (wV w)=wL w:=by show(wL w).toArray.toList=_;simp
 have x0:Ext h (h.push (qt (cellsOf (wV w)))):=(Ext.refl h).push _;have g0:(h.push (qt (cellsOf (wV w)))).get h.next=some (qt (wL w)):=by rw[ba];exact z3 h _
 have n0:(h.push (qt (cellsOf (wV w)))).next=h.next+1:=rfl
 refine Y4 ?_;generalize(h.push (qt (cellsOf (wV w))))=H at*;have W:=x0.wf hr.wf;have hL:=x0.log.trans hr.log;have wk:=ja U;have d9:=gu U;have bo:=so.ext x0;refine Y8 ?_
 refine aY (λm e ds E=>∃(i:Nat) (v:Value) (d:List Value),i<=os.length/\os.length-i=m/\e=[(1, .slice a os.length c),(2, sb h.next),(5,v),(6, zc (i:Nat))]/\ds=[]/\Ext H E∧Own H.next E 1 v i d/\eN d=true/\∀j r,((os.take i).map (cE w))[j]? =some r->∃u,d[j]? =some u/\OwS H.next E u r)
  ⟨0, .slice none 0 0,[],hK _,rfl,rfl,rfl, .refl H, .nil,rfl,λj r k=>(by rw[ST,List.map_nil,List.getElem?_nil]at k;cases k)⟩ ?_
 rintro m e ds G ⟨i,v,d,hi,rfl,rfl,rfl,B,y,Q,D⟩;have WG:=B.wf W;have Y:=B.log.trans hL;have nG:=B.next
 by_cases hlt:i<os.length
 ·obtain⟨x,hx⟩:∃s,os[i]? =some s:=⟨os[i],bx hlt⟩;have O:=ci hx;have P:=so.ok x O;obtain⟨b,o,c3,vs,cY,tt,hv,gl,Z,el⟩:=(bo.ext B).elem hx;cases hv;have cX:=aN P.len;have bj:zd i os.length true:=dz ω;have X:=(B.old _ ω).trans g0;have C:=Py F.n3.rn (h:=η G) (.of WG) U P (M x O);obtain⟨av,cv,rfl⟩:∃a c,v= .slice a i c:=(y.slice ω).form;refine Y20 ?_;refine FW.alD C (λv E m q=>q.log m) ?_;rintro u g A S;clear C;have S:OwS G.next g u (cE w x):=Own.owS S (xj (nr w x) (by decide))
  have n5:=A.next
  have cd:=(A.old _ ω).trans X;have cj:=(A.old _ Z).trans gl;obtain⟨J,K,rfl⟩:=S.form;refine⟨_,by(repeat apply aB rfl);apply au rfl (ah rfl (dM ρ) (by exact dw _ _ _)) rfl;exact aQ,?_⟩;refine ru rfl rfl rfl ρ ρ ρ (kA ρ ρ) (by refine bY (ah rfl (dM ρ) (by exact dw _ _ _)) ?_;exact qT) ?_;have x6:Ext g (g.push (qt [.slice J (cE w x).length K])):=(Ext.refl g).push _;have N:∀l a c,(.slice av i cv:Value)= sh l a c->H.next<=l∧l<G.next:=λl a c e=>by rw[e]at y;exact Dg y
  refine Qq (lo:=H.next) (n:=i) (cs:=d) (c1:=[.slice J (cE w x).length K]) (y.ext (A.trans x6)) ω ω ω ω rfl rfl rfl ρ ρ ρ (DQ (fA (cs:=[.slice J (cE w x).length K]) (z3 g _) rfl rfl)) rfl rfl Q ?_;intro I lg o7 n7 l7 V f;have n7:I.next=g.next+1+1:=n7
  have l7:I.log=g.log:=l7;have V:WF g->WF I:=λw=>V (x6.wf w);have f:∀z,z<g.next->(∀l a c,(.slice av i cv:Value)= sh l a c->z≠l)->I.get z=g.get z:=λz t ae=>(f z (by show z<g.next+1;omega) ae).trans (z4 t)
  have o7:Own (g.next+1) I 1 (sh (g.next+1) (i+1) UNK) (i+1) (d++[.slice J (cE w x).length K]):=o7;refine⟨_,by(repeat apply aB rfl);exact aQ,?_⟩;refine Y10 ?_;refine⟨os.length-(i+1),ω,i+1, sh (g.next+1) (i+1) UNK,d++[.slice J (cE w x).length K],ω,rfl,rfl,rfl,⟨ω,l7.trans (A.log.trans B.log),λz t=> ?_,λw=>V (A.wf (B.wf w))⟩,o7.low ω,nT Q rfl,λj r k=> ?_⟩
  ·exact(f z ω (λl a c e=>by have:=(N l a c e).1;omega)).trans ((A.old z ω).trans (B.old z t))
  ·have aE:d.length=i:=Jj y;have L:((os.take i).map (cE w)).length=i:=by rw[j3,lp];omega
   rw[eY hx,A1]at k;rcases Hk j i with hji|hji
   ·rw[oB ω]at k;obtain⟨u',aw,qo⟩:=D j r k;refine⟨u',by rw[oB ω];exact aw,qo.I3 ω λz t=> ?_⟩;have be:=qo.vb t;refine(f z ω (λl a c e=> ?_)).trans (A.old z ω);rw[e]at y;exact qo.ne (Ji y) z t
   ·obtain rfl:j=i:=by
     have:=(List.getElem?_eq_some_iff.1 k).1;rw[dk,L]at this;simp at this;omega
    rw[hX ω,L,J0]at k;simp at k;subst k;refine⟨_,by rw[hX ω,aE,J0];rfl,(S.low ω).I3 ω λz t=> ?_⟩;have be:=S.vb t;exact f z ω (λl a c e=>by have:=(N l a c e).2;omega)
 ·obtain rfl:i=os.length:=ω
  have bj:zd os.length os.length false:=dG ω;rw[wd]at D;have ar:=y.slice ω;refine Y18 ?_;refine cW Y rfl ⟨d,?_,λj r k=> ?_⟩
  ·rw[j3];exact ar
  ·obtain⟨u,hu,qu⟩:=D j r k;refine⟨u,hu,qu.ss λs hs=> ?_⟩;obtain⟨x,_,rfl⟩:=List.mem_map.1 (ci k);exact pU U hs
structure LM (T:Nat->Option aq):Prop where
 rc:LL T
 f116:T 46=some f116
 f117:T 47=some f117
variable{pv v:Value}
def uE(F:LM T)(hr:Rdy h){w:List Nat×List Nat}(S:IsW w){l:List Pb}(sp:PbS h pv l)(hl:l.length<1000000){fs:List Int}(sf:aH h 1 v fs.length (ints fs))(be:fs.length=l.length)(bo:sI fs=true)
 {nv:Value}{ns:List (List (List Nat))}(sn:NdS h nv ns)(f0:ns.length<1000000)(J:bsB w (zsF l fs)=true)(d9:∀r∈ns,r.length<1000000/\∀n∈r,IsS n/\Sub n w.2):
 Al T 46 [wV w,pv,v,nv] h λv g=>Own h.next g 1 v ns.length (fL (ns.map (jP (zsF l fs) (bsS w.1 (zsF l fs))))):=by
 have hp:=F.rc.r8.p;refine .of hp F.f116 hr (λv h1 hv q=>Own.Bu hv q) ?_;have dp:cellsOf (wV w)=wL w:=by show(wL w).toArray.toList=_;simp
 obtain⟨a,c,rfl⟩:=sp.form;obtain⟨Y,Z,rfl⟩:=sf.form;obtain⟨a3,c3,rfl⟩:=sn.form;have x0:Ext h (h.push (qt (cellsOf (wV w)))):=(Ext.refl h).push _;have g0:(h.push (qt (cellsOf (wV w)))).get h.next=some (qt (wL w)):=by rw[dp];exact z3 h _
 have n0:(h.push (qt (cellsOf (wV w)))).next=h.next+1:=rfl
 refine Y4 ?_;generalize(h.push (qt (cellsOf (wV w))))=H at*;have W:=x0.wf hr.wf;have hL:=x0.log.trans hr.log;have wk:=ja S;have ge:=gu S;have K:=QY (fs:=fs) sp.ok;have C1:=pG F.rc.r8 (h:=η H) (.of W) S ((sp.ext x0).log []) hl ((sf.ext x0).log []) be bo;have x:IsS (bsS w.1 (zsF l fs)):=kE S.a K;have cd:=λn hn t=>TM S K J (n:=n) hn t;rw[J]at C1;generalize bsS w.1 (zsF l fs)=s at*;have fg:=aN x.len;have fj:=aU x.len;have fw:=x.len;refine cQ (E0:=[(1, .slice a l.length c),(2, .slice Y fs.length Z),(3, .slice a3 ns.length c3),(4, sb h.next),(9, sb H.next)]) (P:=λg=>Ext H g∧g.next=H.next+1/\g.get H.next=some (qt (us s))) ?_ ?_
 ·refine Y5 ?_;refine FW.pu C1 ?_;refine Y4 ?_;refine aG (bH ρ ρ YG (by(simp only[aF];assumption)) ρ (by exact bZ _)) ?_;refine yM ?_;refine bA ?_;refine y1 ?_;exact⟨rfl,rfl,rfl,ff ω _ _,rfl,iW _ _⟩
 clear C1;rintro U ⟨x1,n1,g9⟩;have A:=x0.trans x1;have W1:=A.wf hr.wf;have cX:=x1.log.trans hL;have cJ:=(x1.old _ ω).trans g0;have dT:=sp.ext A;have dC:=sf.ext A;have dE:=sn.ext A;clear g0;refine Y8 ?_
 refine aY (λm e ds g=>∃(i:Nat) (u:Value),i<=ns.length/\ns.length-i=m/\e=[(1, .slice a l.length c),(2, .slice Y fs.length Z),(3, .slice a3 ns.length c3),(4, sb h.next),(9, sb H.next),(11,u),(12, zc (i:Nat))]/\ds=[]/\Ext U g∧Own U.next g 1 u i (fL ((ns.take i).map (jP (zsF l fs) s))))
  ⟨0,_,hK _,rfl,rfl,rfl, .refl U, .nil⟩ ?_
 rintro m e ds G ⟨i,u,hi,rfl,rfl,rfl,C,ow⟩;have WG:=C.wf W1;have aw:=C.log.trans cX;have nG:=C.next
 by_cases hlt:i<ns.length
 ·obtain⟨r,N⟩:∃s,ns[i]? =some s:=⟨ns[i],bx hlt⟩;obtain⟨f7,da⟩:=d9 r (ci N);obtain⟨b,o,c4,vs,fX,tt,rv,hv,gl,cY,el,sr⟩:=(dE.ext C).elem N;cases hv;obtain⟨ra,rc,rfl⟩:=sr.sl.form;have dv:zd i ns.length true:=dz ω;have dj:fL ((ns.take (i+1)).map (jP (zsF l fs) s))=fL ((ns.take i).map (jP (zsF l fs) s))++[.int .u8 ((jP (zsF l fs) s r:Nat):Int)]:=by
   obtain⟨bj,rfl⟩:=List.getElem?_eq_some_iff.1 N;rw[xa bj,A1,←RB];rfl
  refine Y20 ?_
  refine aY (λm e ds g=>∃k:Nat,k<=r.length/\r.length-k=m/\e=[(1, .slice a l.length c),(2, .slice Y fs.length Z),(3, .slice (some ⟨b,o,none⟩) ns.length c3),(4, sb h.next),(9, sb H.next),(11,u),(12, zc (i:Nat)),(13, .int .u8 ((jP (zsF l fs) s (r.take k):Nat):Int)),(14, zc (k:Nat))]/\ds=[]/\Ext G g)
   ⟨0,hK _,rfl,rfl,rfl, .refl G⟩ ?_
  rintro m e ds z ⟨k,hk,rfl,rfl,rfl,f⟩;have V:=f.wf WG;have aE:=f.log.trans aw;have n2:=f.next
  have ae:=(f.old _ cY).trans gl;by_cases hkl:k<r.length
  ·obtain⟨n,L⟩:∃s,r[k]? =some s:=⟨r[k],bx hkl⟩;obtain⟨y,M⟩:=da n (ci L);obtain⟨b5,o5,c5,fY,eh,t5,hv,ar,ba,eq⟩:=(sr.ext f).elem L;cases hv;have fd:=aN y.len;have du:zd k r.length true:=dz ω;have I:=((C.trans f).old _ ω).trans g9;have E:=((C.trans f).old _ ω).trans cJ;have B:=x.join y;have cj:=cd n y M;have d:jP (zsF l fs) s (r.take (k+1))=if sIn n s then 1 else if(alB (zsF l fs) (gZ s n)&&decide (jP (zsF l fs) s (r.take k)=2))then 3 else jP (zsF l fs) s (r.take k):=by rw[eY L,Ke]
   have C2:=F4 hp F.rc.r8.f118 (h:={z.push (qt (aL 8 (.int .u64 0)))with log:=[]}) (.of (V.push _)) x y;have O:∀D,Ext z D->WF D->Pu T 84 [wV w, .slice a l.length c, .slice Y fs.length Z,sv (gZ s n)] (η D) (.bool (alB (zsF l fs) (gZ s n))):=λD j w3=>by
    rw[←cj];exact Gk F.rc.r8 (h:=η D) (.of w3) S ((dT.ext ((C.trans f).trans j)).log []) hl ((dC.ext ((C.trans f).trans j)).log []) be bo B
   clear cd cj;generalize jP (zsF l fs) s (r.take k)=jk at*;generalize alB (zsF l fs) (gZ s n)=ab at*;generalize gZ s n=jn at*;have f8:=aN B.len;have f9:=aU B.len;have fb:=B.len;refine Y15 ?_;refine cQ (E0:=[(1, .slice a l.length c),(2, .slice Y fs.length Z),(3, .slice (some ⟨b,o,none⟩) ns.length c3),(4, sb h.next),(9, sb H.next),(11,u),(12, zc (i:Nat)),(13, .int .u8 (jk:Nat)),(14, zc (k:Nat)),(15, sb z.next)]) (P:=λg=>Ext z g∧g.next=z.next+1/\g.get z.next=some (qt (us jn))) ?_ ?_
   ·refine Y9 ?_;refine ru rfl rfl rfl ρ ρ ρ wT (by refine bY (ah rfl (bW ρ YG τ τ) (by exact sZ _)) ?_;refine bY (ah rfl (gU ρ ρ ω) (by exact bh _)) ?_;refine bY (ah rfl (dM ρ) (by exact dh _ _)) ?_;refine bY (ah rfl (cw ρ YG τ) (by exact dw _ _ _)) ?_;refine bY (ah rfl (gU ρ ρ ω) (by exact bh _)) ?_;refine bY (ah rfl (dM ρ) (by exact dh _ _)) ?_;refine bY (ah rfl (dM ρ) (by exact dw _ _ _)) ?_;refine bY (ah rfl (bW ρ YG τ τ) (by exact sZ _)) ?_;exact qT) ?_;refine qC ?_;refine FW.puD C2 (by apply au rfl (ye rfl) ρ;(repeat apply aB rfl);exact aQ) ?_;refine kg rfl rfl rfl ρ ρ ρ YG (by(simp only[aF];assumption)) ρ (by exact bZ _) (by(simp only[z1,z2];omega)) ω (by apply aB rfl;exact aQ) ?_;refine Y2 ?_;exact⟨rfl,rfl,rfl,ff ω _ _,rfl,YG⟩
   clear C2;rintro D ⟨j,n3,eJ⟩;have X:=j.wf V;have eg:=j.log.trans aE;have O:=O D j X;have Q:=Av hp F.rc.r8.f52 F.rc.r8.f140 (h:=η D) (.of X) y x;have eQ:=(j.old _ ω).trans ae;have e9:=(j.old _ ba).trans ar;have eK:=(j.old _ ω).trans I;have eI:=(j.old _ ω).trans E;clear ae ar I E;have m2:af .eql (.int .u8 (jk:Nat)) (.int .u8 2)=some (.bool (decide (jk=2))):=tZ (c:=2) rfl;cases t:sIn n s with
   |true=>
    rw[t]at Q;rw[t,if_pos rfl]at d;refine Y6 ?_;refine FW.pu O ?_;refine Y13 ?_;refine FW.puD Q (by(repeat apply aB rfl);exact aQ) ?_;refine Y6 ?_;refine bA ?_;refine Y8 ?_;exact⟨r.length-(k+1),ω,k+1,ω,rfl,by rw[d];rfl,rfl,f.trans j⟩
   |false=>
    rw[t]at Q;rw[t,if_neg (by simp)]at d;cases ab with
    |false=>
     rw[ab9,if_neg (by simp)]at d;refine Y6 ?_;refine FW.pu O ?_;refine Y13 ?_;refine FW.puD Q (by(repeat apply aB rfl);exact aQ) ?_;refine Y20 ?_;exact⟨r.length-(k+1),ω,k+1,ω,rfl,by rw[d],rfl,f.trans j⟩
    |true=>
     rw[yi]at d;cases hj2:decide (jk=2)with
     |true=>
      rw[hj2]at m2;rw[hj2,if_pos rfl]at d;refine Y6 ?_;refine FW.pu O ?_;refine Y13 ?_;refine FW.puD Q (by(repeat apply aB rfl);exact aQ) ?_;refine Y16 ?_;refine bA ?_;refine Y8 ?_;exact⟨r.length-(k+1),ω,k+1,ω,rfl,by rw[d];rfl,rfl,f.trans j⟩
     |false=>
      rw[hj2]at m2;rw[hj2,if_neg (by simp)]at d;refine Y6 ?_;refine FW.pu O ?_;refine Y13 ?_;refine FW.puD Q (by(repeat apply aB rfl);exact aQ) ?_;refine Y22 ?_;exact⟨r.length-(k+1),ω,k+1,ω,rfl,by rw[d],rfl,f.trans j⟩
  ·obtain rfl:k=r.length:=ω
   have du:zd r.length r.length false:=dG ω;rw[wd];generalize jP (zsF l fs) s r=jx at*;generalize fL ((ns.take i).map (jP (zsF l fs) s))=cs at*;refine Y20 ?_;refine vM (lo:=U.next) (c1:=[.int .u8 (jx:Nat)]) (ow.ext (f.trans ((Ext.refl z).push _))) ω ω ω (by show U.next<=z.next+1;omega) ω ρ ρ (fA (cs:=[.int .u8 (jx:Nat)]) (z3 z _) rfl rfl) rfl rfl ?_;intro v2 h9 o9 x9;refine yM ?_;refine bA ?_;refine Y8 ?_;refine⟨ns.length-(i+1),ω,i+1,v2,ω,rfl,rfl,rfl,(((C.trans f).lx (bl _)).trans ((((Ext.refl z).push _).lx ω).trans x9)).ext,?_⟩;rw[dj];exact o9
 ·obtain rfl:i=ns.length:=ω
  have dv:zd ns.length ns.length false:=dG ω;rw[wd]at ow;refine Y18 ?_;exact cW aw rfl (ow.low ω)
def oA(F:LM T)(hr:Rdy h){l:List Nat}(s:aH h 1 v l.length (fL l))(E:l.length<1000000):Pu T 47 [v] h (.bool (!E9 l)):=by
 refine .of F.rc.r8.p F.f117 hr rfl ?_;have q:=hr.log;obtain⟨a,c,rfl⟩:=s.form;refine Y8 ?_
 refine aY (λm e n w=>∃i:Nat,i<=l.length/\l.length-i=m/\e=[(0, .slice a l.length c),(3, zc (i:Nat))]/\n=[]/\h=w∧E9 (l.take i)=false)
  ⟨0,hK _,rfl,rfl,rfl,rfl,rfl⟩ ?_
 rintro m e n _ ⟨i,D,rfl,rfl,rfl,rfl,d⟩;by_cases hlt:i<l.length
 ·obtain⟨r,f⟩:∃r,l[i]? =some r:=⟨l[i],bx hlt⟩;obtain⟨b,o,z,G,y,t,x,A,C,B⟩:=uc s (Uv f);cases x;have k:zd i l.length true:=dz ω;have u:af .eql (.int .u8 (r:Nat)) (.int .u8 3)=some (.bool (decide (r=3))):=tZ (c:=3) rfl;have j:E9 (l.take (i+1))=(E9 (l.take i)||decide (r=3)):=by
   obtain⟨g,rfl⟩:=List.getElem?_eq_some_iff.1 f;unfold E9;rw[xa g,QR];simp
  cases h3:decide (r=3)with
  |true=>
   rw[h3]at u;have e:E9 l=true:=List.any_eq_true.2 ⟨r,ci f,h3⟩;rw[e];refine Y29 ?_;exact an q rfl rfl
  |false=>
   rw[h3]at u j;refine Y28 ?_;exact⟨l.length-(i+1),ω,i+1,ω,rfl,rfl,rfl,rfl,by rw[j,d];rfl⟩
 ·obtain rfl:i=l.length:=ω
  have k:zd l.length l.length false:=dG ω;rw[wd]at d;rw[d];refine Y17 ?_;exact an q rfl rfl
variable{base:Nat}{ops:List bg}{e:Env}
def WO.M9{rnd:Option Nat}{Q:XQ}{a:Dfs}(b:∀hA,hA=h->WO T base rnd Q ops e a hA):WO T base rnd Q ops e a h:=b h rfl
def zI(l:List Nat):List Int:=l.map Int.ofNat
def zJ:∀n,eR n [Value.int .i64 0]=ints (zI (List.replicate n 0))
 |0=>rfl
 |n+1=>by
  show eL [Value.int .i64 0] (eR n _)=_;rw[zJ n,List.replicate_succ];rfl
structure Ir (T:Nat->Option aq):Prop where
 p:aK T
 f110:T 40=some f110
 f227:T 78=some f227
variable{n:Nat}
def tK(h:n<=8):3 ^ n<=6561:=by
 have:3 ^ n<=3 ^ 8:=xl ω h;have:(3:Nat) ^ 8=6561:=by decide
 omega
def FN(F:Ir T)(hr:Rdy h)(r:n<=8):Pu T 40 [zc (n:Nat)] h (zc ((3 ^ n:Nat):Int)):=by
 refine .of F.p F.f110 hr rfl ?_;refine Y11 ?_;refine aY (λd e c g=>∃j:Nat,j<=n/\n-j=d∧e=[(0, zc (n:Nat)),(3, zc ((3 ^ j:Nat):Int)),(4, zc (j:Nat))]/\c=[]/\g=h) ⟨0,hK _,rfl,rfl,rfl,rfl⟩ ?_;rintro d e c o ⟨j,i,k,rfl,rfl,rfl⟩;by_cases hlt:j<n
 ·have l:zd j n true:=dz ω;have m:=tK (n:=j) ω;have s:vj 3 ((3 ^ j:Nat):Int) ((3 ^ (j+1):Nat):Int):=by
   have e:(3:Int)*((3 ^ j:Nat):Int)=((3 ^ (j+1):Nat):Int):=by rw[Hc];omega
   have q:=zK (a:=3) (b:=((3 ^ j:Nat):Int)) (by generalize 3 ^ j=p at*;omega) (by generalize 3 ^ j=p at*;omega);rw[e]at q;exact q
  have f:zE j 1 ((j+1:Nat):Int):=by
   have:=fK (a:=(j:Nat)) (b:=1) (aO ω ω);exact this
  refine Y15 ?_;refine bA ?_;refine Y8 ?_;exact⟨n-(j+1),ω,j+1,ω,rfl,rfl,rfl,rfl⟩
 ·obtain rfl:j=n:=ω
  have l:zd j j false:=dG ω;refine Y17 ?_;exact an hr.log rfl rfl
def kY:Nat->Nat->List Nat
 |0,_=>[]
 |n+1,i=>kY n (i / 3)++[i % 3]
def rT:∀(n i:Nat),(kY n i).length=n
 |0,_=>rfl
 |n+1,i=>by rw[kY,dk,rT n];rfl
variable{i:Nat}
def EX(F:Ir T)(hr:Rdy h)(L:n<=8)(hi:i<6561):
 Al T 78 [zc (n:Nat), zc (i:Nat)] h (λv g=>∃c,v= sh h.next n c/\aH g 1 v n (ints (zI (kY n i)))):=by
 refine .of F.p F.f227 hr (λv J E ⟨c,e,_⟩=>by subst e;cases E) ?_;refine Y5 ?_;refine aG (lE ρ ρ (bl _) ω ω rfl) ?_;refine WO.M9 ?_;intro H d;have r:Ext h H:=by rw[d];exact(Ext.refl h).push _
 have P:H.next=h.next+1:=by rw[d];rfl
 have A:H.get h.next=some (qt (ints (zI (List.replicate n 0)))):=by rw[d,zJ];exact z3 _ _
 clear d;have W:=r.wf hr.wf;have K:=r.log.trans hr.log;have O:vi n 1 ((n:Int)-1):=jD (aO ω ω);refine Y9 ?_;refine aY (λj e s g=>∃(a:Nat) (b:List Nat) (z:Int),j≤n/\z=(j:Int)-1/\a<6561/\b.length=n-j∧kY n i=kY j a++b/\e=[(1, zc (a:Nat)),(5, sh h.next n n),(6, zc z)]/\s=[]/\Ext h g∧h.next<g.next/\g.get h.next=some (qt (ints (zI (List.replicate j 0++b))))) ⟨i,[],(n:Int)-1,bl _,rfl,hi,by simp,by simp,rfl,rfl,r,ω,by simpa using A⟩ ?_;rintro j e s g ⟨a,b,z,C,m,t,D,f,rfl,rfl,w,u,o⟩;cases j with
 |zero=>
  have m:z= -1:=ω
  subst m;have G:zt (-1) 0 false:=rfl;have q:=w.log.trans hr.log;refine Y16 ?_;refine cW q rfl ⟨n,rfl,?_⟩;rw[f];show aH g 1 (sh h.next n n) n (ints (zI b));rw[List.replicate_zero,D4]at o;exact .mem ⟨u,⟨_,_,_,o,by rw[bw,aT,ww,go (by simp[ints,zI];omega)]⟩,by simp[ints,zI];omega⟩ (bl _)
 |succ k=>
  have m:z=(k:Nat):=ω
  subst m;have G:zt k 0 true:=oS ω;have N:af .rem (zc (a:Nat)) (zc 3)=some (zc ((a % 3:Nat):Int)):=by
   have e:(a:Int).tmod 3=((a % 3:Nat):Int):=by rw[Int.tmod_eq_emod_of_nonneg ω];omega
   simp[af,arith,e]
  have M:af .quo (zc (a:Nat)) (zc 3)=some (zc ((a / 3:Nat):Int)):=by
   have e:fU .i64 ((a:Int).tdiv 3)=((a / 3:Nat):Int):=by
    rw[Int.tdiv_eq_ediv_of_nonneg ω,aO ω ω];omega
   have y:fU .i64 ((a:Int) / 3)=(a:Int) / 3:=aO ω ω;simp[af,arith,e,y]
  have I:vi k 1 ((k:Int)-1):=jD (aO ω ω);have B:(ints (zI (List.replicate (k+1) 0++b))).length=n:=by simp[ints,zI];omega
  refine Y16 ?_;refine aG (jL ρ ρ τ ρ ρ ω) ?_;refine Y5 ?_;refine bA ?_;refine Y8 ?_;have l:(ints (zI (List.replicate (k+1) 0++b))).set (0+k*1) (zc ((a % 3:Nat):Int))=ints (zI (List.replicate k 0++(a % 3)::b)):=by
   have x:List.replicate (k+1) 0++b=List.replicate k 0++0::b:=by rw[List.replicate_succ',At];rfl
   rw[x];simp only[ints,zI,A1,xP,hF,xr];rw[List.set_append_right _ _ (by simp)];simp
  exact⟨k,ω,a / 3,(a % 3)::b,_,ω,rfl,ω,by simp;omega,by rw[f,kY,At];rfl,rfl,rfl,w.wr (bl _) (bl _),u,by rw[Heap.aM o,l]⟩
def kM(mm:List (List Nat×Int)):List (Value×Value):=mm.map λx=>(fV x.1, zc x.2)
def CQ:∀{f g:List Nat} {n:Nat},f.length=n->g.length=n->bU (aL n (.i .u8)) (fL f) (fL g)=some (decide (f=g))
 |[],[],n,h1,_=>by subst h1;rfl
 |[],_::_,n,h1,h2=>by subst h1;simp at h2
 |_::_,[],n,h1,h2=>by subst h2;simp at h1
 |a::f,b::g,n,h1,h2=>by
  subst h1;have ih:=CQ (f:=f) (g:=g) (n:=f.length) rfl (by simpa using h2);show bU (.i .u8::aL f.length (.i .u8)) (.int .u8 (a:Nat)::fL f) (.int .u8 (b:Nat)::fL g)=_;have e:jG (.i .u8) (.int .u8 ((a:Nat):Int)) (.int .u8 ((b:Nat):Int))=some (decide (a=b)):=by
   simp only[jG,if_true,Option.some.injEq];by_cases h:a=b
   ·subst h;simp
   ·rw[decide_eq_false h];simp;omega
  unfold bU;rw[e];by_cases h:a=b
  ·subst h;rw[decide_eq_true rfl,ih];simp
  ·rw[decide_eq_false h,ih];simp[h]
def jN(f:List Nat):cellsOf (fV f)=fL f:=by show(fL f).toArray.toList=_;simp
variable{f:List Nat}
def Nv(a:f.length=8):lD true (aL 8 (.i .u8)) (fV f)=true:=by
 unfold lD;rw[jN,CQ a a];rfl
def Vk{g:List Nat}(a:f.length=8)(b:g.length=8):sj true (aL 8 (.i .u8)) (fV f) (fV g)=some (decide (f=g)):=by
 unfold sj;rw[jN,jN,CQ a b];rfl
def tY(f:List Nat):Nat->List (List Nat×Int)->Option (Nat×Int)
 |_,[]=>none
 |i,x::mm=>if f=x.1 then some (i,x.2)else tY f (i+1) mm
def findF{f:List Nat}(a:f.length=8):∀{mm:List (List Nat×Int)} {i:Nat},(∀x∈mm,x.1.length=8)->rE true (aL 8 (.i .u8)) (fV f) i (kM mm)=some ((tY f i mm).map λp=>(p.1, zc p.2))
 |[],_,_=>rfl
 |x::mm,i,h=>by
  show rE true (aL 8 (.i .u8)) (fV f) i ((fV x.1, zc x.2)::kM mm)=_;unfold rE tY;rw[Vk a (h x b7)];by_cases e:f=x.1
  ·rw[decide_eq_true e,if_pos e];rfl
  ·rw[decide_eq_false e,if_neg e];exact findF a λy hy=>h y (bz _ hy)
def BA{f:List Nat}:∀{mm:List (List Nat×Int)} {i j:Nat} {v:Int},tY f i mm=some (j,v)->(f,v)∈mm
 |x::mm,i,j,v,h=>by
  unfold tY at h;split at h
  ·rename_i e;cases h;rw[e];exact b7
  ·exact bz _ (BA h)
def G9(mm:List (List Nat×Int))(f:List Nat)(v:Int):List (List Nat×Int):=
 match tY f 0 mm with
 |some (i,_)=>mm.set i (f,v)
 |none=>mm++[(f,v)]
def NX(mm:List (List Nat×Int))(i:Nat)(f:List Nat)(v:Int):uq (kM mm) i (fV f, zc v)=kM (mm.set i (f,v)):=by
 rw[mV];unfold kM;rw[WP]
def NW(mm:List (List Nat×Int))(f:List Nat)(v:Int):eL (kM mm) [(fV f, zc v)]=kM (mm++[(f,v)]):=by
 rw[dS];unfold kM;rw[A1];rfl
variable{mm:List (List Nat×Int)}
def NP{v:Int}{x:List Nat×Int}(h:x∈G9 mm f v):x=(f,v)∨x∈mm:=by
 unfold G9 at h;split at h
 ·exact(A3 h).symm
 ·rcases List.mem_append.1 h with h|h
  ·exact .inr h
  ·exact .inl (List.mem_singleton.1 h)
def nw(w:List Nat×List Nat)(l:List Pb)(ns:List (List (List Nat)))(mm:List (List Nat×Int)):Prop:=∀x∈mm,x.1.length=8/\x.2=bB w l ns x.1
def nw.put{w:List Nat×List Nat}{l:List Pb}{ns:List (List (List Nat))}(h:nw w l ns mm)(b:f.length=8):nw w l ns (G9 mm f (bB w l ns f)):=λx a=>by
 rcases NP a with rfl|a
 ·exact⟨b,rfl⟩
 ·exact h x a
variable{k:Operand}{r:Nat}
def Iw{m:Operand}{u:Value}(d:ev h e m=some (.map (some r)))(c:ev h e k=some (fV f))(hr:h.get r=some (.map (kM mm)))(a:f.length=8)(b:∀x∈mm,x.1.length=8)
 (g:(match tY f 0 mm with|some (_,v)=>Value.tuple #[zc v, .bool true]|none=> .tuple #[zc 0, .bool false])=u):aop h base e (.lookup true (aL 8 (.i .u8)) (zc 0) true m k)=some (.val u h):=by
 subst g;simp only[aop,d,c,hr,zL,Nv a,cond_true,findF a b];cases tY f 0 mm<;>rfl
def LP{m v:Operand}{n:Int}(d:ev h e m=some (.map (some r)))(c:ev h e k=some (fV f))(g:ev h e v=some (zc n))(hr:h.get r=some (.map (kM mm)))(a:f.length=8)(b:∀x∈mm,x.1.length=8):
 aop h base e (.ot true (aL 8 (.i .u8)) m k v)=some (.val (.tuple #[]) (h.wr base r (.map (kM (G9 mm f n))))):=by
 simp only[aop,d,c,g,hr,Nv a,cond_true,findF a b];unfold G9;cases tY f 0 mm with
 |none=>simp only[Option.map_none,NW]
 |some p=>simp only[z7,NX]
variable{a:Nat}
def Cb{bf:List Nat}{rs d:List Rec}{Q:Env->Heap->Prop}{is:List Nat}{dst:Option Nat}{m v:Operand}{g:Option (Nat×Bool)}{b:Env}{n:Int}(u:bN ops i=some ⟨dst, .ot true (aL 8 (.i .u8)) m k v,g⟩)(t:bN bf i=some a)
 (p:cZ e (dK ⟨dst, .ot true (aL 8 (.i .u8)) m k v,g⟩)=b)(y:cg b g=some true)(j:ev (η h) b m=some (.map (some r)))(s:ev (η h) b k=some (fV f))(w:ev (η h) b v=some (zc n))(hr:h.get r=some (.map (kM mm)))(q:f.length=8)(o:∀x∈mm,x.1.length=8)(c:r<h.next)
 (l:bL (h.wr base r (.map (kM (G9 mm f n)))) base [r] a rs=some d)
 (H:WD T base ops bf Q is d (cN e dst (.tuple #[])) (h.wr base r (.map (kM (G9 mm f n))))):WD T base ops bf Q (i::is) rs e h:=
 mZ u t p y rfl (LP (h:=η h) j s w hr q o) (GR c _) (tX c _) l H
structure QuH (h:Heap) (q m:Nat) (w:List Nat×List Nat) (pv nv ov:Value) (l:List Pb) (os:List (List Nat)) (ns:List (List (List Nat))):Prop where
 hw:IsW w
 gq:h.get q=some (qt (quL w pv nv ov (.map (some m))))
 sp:PbS h pv l
 hl:l.length<=8
 so:SsQ h ov os
 hol:os.length<1000000
 sn:NdS h nv ns
 hns:ns.length=os.length
 hrn:∀r∈ns,r.length<1000000
 mem:∃mm,h.get m=some (.map (kM mm))/\nw w l ns mm
variable{h':Heap}{m:Nat}{cs:List Value}
def aH.IZ{sz:Nat}{es:List (Value×Value)}(s:aH h sz v n cs)(c:h.get m=some (.map es))(g:h.next<=h'.next)(f:∀z,z<h.next->z≠m->h'.get z=h.get z):aH h' sz v n cs:=by
 cases s with
 |nil=>exact .nil
 |mem s hc=>
  obtain⟨i,a,t,b,d⟩:=s.obj;refine .mem ⟨m6 s.lt g,⟨i,a,t,(f _ s.lt λe=> ?_).trans b,d⟩,s.len⟩ hc;subst e;rw[b]at c;cases c
variable{q:Nat}
def QuH.keep{w:List Nat×List Nat}{n j k:Value}{l:List Pb}{ns:List (List (List Nat))}(Q:QuH h q m w n j k l os ns)(f:WF h)(d:h.next<=h'.next)(b:∀z,z<h.next->z≠m->h'.get z=h.get z)(p:∃g,h'.get m=some (.map (kM g))/\nw w l ns g):QuH h' q m w n j k l os ns:=by
 obtain⟨g,a,_⟩:=Q.mem;obtain⟨c,t,u⟩:=Q.sn.ex;refine⟨Q.hw,(b q (f.dJ Q.gq) λe=> ?_).trans Q.gq,⟨aH.IZ Q.sp.sl a d b,Q.sp.ok⟩,Q.hl,⟨aH.IZ Q.so.sl a d b,Q.so.ok⟩,Q.hol,⟨c,aH.IZ t a d b,λi r o=> ?_⟩,Q.hns,Q.hrn,p⟩
 ·have:=Q.gq;rw[e,a]at this;cases this
 ·obtain⟨v,s,sv⟩:=u i r o;exact⟨v,s,⟨aH.IZ sv.sl a d b,sv.ok⟩⟩
def QuH.ext{w:List Nat×List Nat}{e c d:Value}{l:List Pb}{ns:List (List (List Nat))}(Q:QuH h q m w e c d l os ns)(a:WF h)(x:Ext h h'):QuH h' q m w e c d l os ns:=by
 refine Q.keep a x.next (λz g _=>x.old z g) ?_
 obtain⟨i,b,f⟩:=Q.mem;exact⟨i,(x.old m (a.dJ b)).trans b,f⟩
def QuH.log{h:Heap}{q m:Nat}{w:List Nat×List Nat}{d b c:Value}{l:List Pb}{os:List (List Nat)}{ns:List (List (List Nat))}(Q:QuH h q m w d b c l os ns)(a:List Nat):QuH {h with log:=a} q m w d b c l os ns:=
 ⟨Q.hw,Q.gq,Q.sp.log a,Q.hl,Q.so.log a,Q.hol,Q.sn.log a,Q.hns,Q.hrn,Q.mem⟩
structure yg (T:Nat->Option aq):Prop where
 qu:Iq T
 f108:T 70=some f108
 f147:T 31=some f147
 f149:T 33=some f149
 f228:T 79=some f228
def rA(F:yg T)(hr:Rdy h)(k:f.length=8){p:Nat}(v:p<8):
 Pu T 33 [fV f, zc (p:Nat), .int .u8 (a:Nat)] h (fV (f.set p a)):=by
 refine .of F.qu.p F.f149 hr ?_ ?_
 ·show dQ (fL (f.set p a)).toArray.toList=true;rw[Pi];generalize f.set p a=f;induction f with
  |nil=>rfl
  |cons a f ih=>exact ih
 have e:=jN f;have m:Ext h ((h.push (qt (cellsOf (fV f)))).push (qt (aL 8 (.int .u8 0)))):=((Ext.refl h).push _).push _;have t:((h.push (qt (cellsOf (fV f)))).push (qt (aL 8 (.int .u8 0)))).get h.next=some (qt (fL f)):=by rw[e];exact(z4 (eA _)).trans (z3 h _)
 have u:((h.push (qt (cellsOf (fV f)))).push (qt (aL 8 (.int .u8 0)))).get (h.next+1)=some (qt (fL z8)):=z3 _ _;have w:((h.push (qt (cellsOf (fV f)))).push (qt (aL 8 (.int .u8 0)))).next=h.next+2:=rfl
 refine Y4 ?_;generalize((h.push (qt (cellsOf (fV f)))).push (qt (aL 8 (.int .u8 0))))=H at*;have c:(h.push (qt (cellsOf (fV f)))).next=h.next+1:=rfl
 rw[c];clear c;have W:=m.wf hr.wf;have n:=m.log.trans hr.log;have d:=Va f p a;have l:(fL f).length=8:=by rw[gz];exact k
 have o:(fL z8).length=8:=rfl;have b:(f.set p a).length=8:=by rw[hG];exact k
 have i:=nH b;have j:=kJ b;have q:(fL (f.set p a)).length=8:=by rw[gz];exact b
 have r:=xV (f.set p a);generalize f.set p a=g at*;refine Y4 ?_;refine aG (jL ρ ρ τ ρ ρ ω) ?_;refine y3 ?_;rw[d];refine y4 ?_;refine aG (bW ρ YG τ τ) ?_;refine aG (bH ρ ρ YG τ τ τ) ?_;refine Y2 ?_;refine an ?_ (bV (own:=true) (s:=1) rfl ?_ i j rfl) rfl
 ·rw[Heap.aA ω,Heap.aA ω];exact n
 ·exact YG
def I4(F:yg T)(hr:Rdy h)(q:Value)(f:List Nat)(b:cellsOf q=[q]):
 Al T 31 [q,fV f] h λv h'=>v= .func (.func 79) #[] #[sb h.next, sb (h.next+1)]/\h'.next=h.next+2/\h'.get h.next=some (qt [q])/\h'.get (h.next+1)=some (qt (fL f)):=by
 refine .of F.qu.p F.f147 hr ?_ ?_
 ·rintro v d c ⟨rfl,_⟩;cases c
 have a:=jN f;refine Y10 ?_;refine cW hr.log rfl ⟨rfl,rfl,?_,?_⟩
 ·rw[b];exact(z4 (eA _)).trans (z3 h _)
 ·rw[←a];exact z3 _ _
def RW(F:yg T)(hr:Rdy h){w:List Nat×List Nat}{O Q:Value}{l:List Pb}{ns:List (List (List Nat))}(u:QuH h q m w pv O Q l os ns)(hf:f.length=8){b1 b2:Nat}(g1:h.get b1=some (qt [sb q]))
 {px:bO}{W:Nat->Prop}{N s:Nat}{P:List Nat->Heap->Prop}{S:Heap->Prop}(Y:Q7 px T W N s (λp=>[zc ((p:Nat):Int)]) (bM l.length f) P S)(hN:N<=h.next)(r:s<h.next)(B:∀d H,P d H->H.get b2=some (qt (fL f)))(v:P [] h):
 GrW T 79 [.func (.yield s) #[] #[], sb b1, sb b2] h W (P (bM l.length f)) S:=by
 refine .of F.qu.p F.f228 r (λh1 h2 hn Z hp=>Y.fS _ _ _ hp ω λx hx=>Z x ω) Y.Jr ?_;obtain⟨a,c,rfl⟩:=u.sp.form;have gq:=u.gq;have kp:=xz u.hw (.slice a l.length c) O Q (.map (some m));have ae:=u.hl;refine Y9 ?_
 refine aY (λk e J K=>∃i:Nat,i<=l.length/\k=l.length-i/\e=[(0, .func (.yield s) #[] #[]),(2, sb b2),(9, zc (l.length:Nat)),(10, zc (i:Nat))]/\J=[]/\Ws W h K∧P (bM i f) K)
  ⟨0,hK _,rfl,rfl,rfl,(Ext.refl h).ws,v⟩ ?_
 rintro k e J G ⟨i,hi,rfl,rfl,rfl,t,j⟩;have V:=t.wf hr.wf;have g:∀z∈G.log,W z:=λz D=>(t.log z D).elim (λq=>by rw[hr.log]at q;cases q) id;have X:=B _ _ j;by_cases hlt:i<l.length
 ·obtain⟨y,L⟩:∃y,f[i]? =some y:=⟨f[i]' ω,bx _⟩;have kf:=Cz L;have o:f.getD i 0=y:=by rw[dn,L];rfl
  have E:zd i l.length true:=dz ω;have M:af .eql (.int .u8 (y:Nat)) (.int .u8 0)=some (.bool (decide (y=0))):=tZ (c:=0) rfl;have b:=pO i f;rw[o]at b;by_cases hy0:y=0
  ·rw[decide_eq_true hy0]at M;rw[if_pos hy0]at b;refine Y24 ?_;refine oK (fn:= .yield s) (args:=[zc (i:Nat)]) ρ ?_;refine Y.call F.qu.p (x:=i) (fJ.2 ⟨hlt,by rw[o];exact hy0⟩) V (by have:=t.next;omega) r j ?_ ?_
   ·intro U I n;rw[←b]at n;refine Y12 ?_;exact⟨l.length-(i+1),ω,i+1,ω,rfl,rfl,rfl,t.trans I,n⟩
   ·intro U I C A;refine Y10 ?_;exact MS (λz D=>(I.log z D).elim (g z) id) rfl C A
  ·rw[decide_eq_false hy0]at M;rw[if_neg hy0,wl]at b;rw[←b]at j;refine Y33 ?_;exact⟨l.length-(i+1),ω,i+1,ω,rfl,rfl,rfl,t,j⟩
 ·obtain rfl:i=l.length:=ω
  have E:zd l.length l.length false:=dG ω;refine Y9 ?_;exact MQ g rfl j
def Je(F:yg T)(hr:Rdy h){w:List Nat×List Nat}{N M:Value}{l:List Pb}{ns:List (List (List Nat))}(b:QuH h q m w N M ov l os ns)(y:f.length=8):
 Pu T 70 [sb q,fV f] h (.tuple #[.bool (bsB w (l.zip f)), .bool (eD w l ns f)]):=by
 refine .of F.qu.p F.f108 hr rfl ?_;have B:=jN f;have E:Ext h (h.push (qt (cellsOf (fV f)))):=(Ext.refl h).push _;have K:(h.push (qt (cellsOf (fV f)))).get h.next=some (qt (fL f)):=by rw[B];exact z3 h _
 have n0:(h.push (qt (cellsOf (fV f)))).next=h.next+1:=rfl
 refine Y5 ?_;generalize(h.push (qt (cellsOf (fV f))))=H at*;have W:=E.wf hr.wf;have X:=E.log.trans hr.log;have x:=b.ext hr.wf E;have U:=hr.wf.dJ b.gq;have aw:=nH y;have aE:=kJ y;have z:=b.hw;have G:=Rf F.qu (h:=η H) (.of W) z x.gq (x.sp.log []) x.hl y;have d:IsS (bsS w.1 (l.zip f)):=kE z.a (pz b.sp.ok);unfold eD;generalize bsB w (l.zip f)=can at*;generalize hbz:bsS w.1 (l.zip f)=s at*;have Z:=aN d.len;have ae:=aU d.len;have ar:=d.len;have A:=ff (h:=H) (base:=h.next) ω (qt (aL 8 (.int .u64 0))) (qt (us s));have Q:=iW (h:=H) (base:=h.next) (aL 8 (.int .u64 0)) (us s);have n3:((H.push (qt (aL 8 (.int .u64 0)))).wr h.next H.next (qt (us s))).next=H.next+1:=rfl
 refine Y4 ?_;refine FW.pu G ?_;clear G;refine Y4 ?_;refine aG (bH ρ ρ YG (by(simp only[aF];assumption)) ρ (by exact bZ _)) ?_;refine Y2 ?_;generalize((H.push (qt (aL 8 (.int .u64 0)))).wr h.next H.next (qt (us s)))=H2 at*;have O:=A.wf W;have n:=A.log.trans X;have u:=x.ext W A;have P:=(A.old _ ω).trans K;obtain⟨a,c,C⟩:=u.so.sl.form;subst C;have S:=u.gq;have ko:=UG z N M (.slice a os.length c) (.map (some m));have Y:=b.hol;clear K;cases can with
 |false=>
  refine Y12 ?_;exact an n rfl rfl
 |true=>
 refine Y18 ?_
 refine aY (λk e J V=>∃i:Nat,i<=os.length/\k=os.length-i/\e=[(0, sb q),(3, sb h.next),(6, sb H.next),(20, zc (os.length:Nat)),(21, zc (i:Nat))]/\J=[]/\H2=V∧(ns.take i).any (λr=>decide (jP (l.zip f) s r=3))=false)
  ⟨0,hK _,rfl,rfl,rfl,rfl,rfl⟩ ?_
 rintro k e J _ ⟨i,hi,rfl,rfl,rfl,rfl,o⟩;by_cases hlt:i<os.length
 ·obtain⟨r,g⟩:∃r,ns[i]? =some r:=⟨ns[i]'(by rw[b.hns];exact hlt),bx _⟩;have D:zd i os.length true:=dz ω;have I:=Kf F.qu (h:=η H2) (.of O) z u.gq (u.sp.log []) u.hl y d (u.sn.log []) (by rw[b.hns];exact b.hol) g (b.hrn r (ci g));have t:(ns.take (i+1)).any (λr=>decide (jP (l.zip f) s r=3))=((ns.take i).any (λr=>decide (jP (l.zip f) s r=3))||decide (jP (l.zip f) s r=3)):=by rw[eY g,QR];simp
  have v:decide (jP (l.zip f) s r=3)=true->ns.any (λr=>decide (jP (l.zip f) s r=3))=true:=λq=>List.any_eq_true.2 ⟨r,ci g,q⟩;rw[o,Bool.false_or]at t;generalize jP (l.zip f) s r=j at*;have L:af .eql (.int .u8 (j:Nat)) (.int .u8 3)=some (.bool (decide (j=3))):=tZ (c:=3) rfl;cases hj:decide (j=3)with
  |true=>
   rw[hj]at L;rw[v hj];refine Y19 ?_;refine FW.pu I ?_;refine Y13 ?_;exact an n rfl rfl
  |false=>
   rw[hj]at L t;refine Y19 ?_;refine FW.pu I ?_;refine Y10 ?_;exact⟨os.length-(i+1),ω,i+1,ω,rfl,rfl,rfl,rfl,t⟩
 ·obtain rfl:i=os.length:=ω
  have D:zd os.length os.length false:=dG ω;rw[←b.hns,wd]at o;rw[o];refine Y15 ?_;exact an n rfl rfl
def fkL(x:Fk):List Value:=[zc x.probe, zc x.yes, zc x.no]
def kK(s:List Fk):List Value:=s.flatMap fkL
def mw:∀(s:List Fk),(kK s).length=s.length*3
 |[]=>rfl
 |x::s=>by
  have e:kK (x::s)=fkL x++kK s:=rfl;rw[e,dk,mw s,tb];show 3+_=_;omega
def M0:∀{s:List Fk} {i:Nat} {x:Fk},s[i]? =some x->((kK s).drop (i*3)).take 3=fkL x
 |[],i,x,h=>by simp at h
 |y::s,0,x,h=>by
  simp at h;subst h;rfl
 |y::s,i+1,x,h=>by
  have e:kK (y::s)=fkL y++kK s:=rfl;have a:(fkL y++kK s).drop 3=kK s:=rfl;rw[e,show(i+1)*3=3+i*3 by omega,←List.drop_drop,a];exact M0 (by simpa using h)
def FkS(h:Heap)(v:Value)(s:List Fk):Prop:=aH h 3 v s.length (kK s)
variable{s:List Fk}
def FkS.elem(S:FkS h v s){x:Fk}(hi:s[i]? =some x):
 ∃b o c a e t,v= .slice (some ⟨b,o,none⟩) s.length c/\h.get b=some (.cells a e t)/\b<h.next/\bN a (o+i*3+0)=some (zc x.probe)/\bN a (o+i*3+1)=some (zc x.yes)/\bN a (o+i*3+2)=some (zc x.no)/\cm 3 (bQ (o+i*3) a)=fkL x:=by
 have m:=(List.getElem?_eq_some_iff.1 hi).1;rcases aH.inv S with⟨_,_,h0,_⟩|⟨b,o,cap,hv,s1,hc⟩
 ·omega
 ·obtain⟨a,e,t,g,k⟩:=s1.obj;have f:(a.drop (o+i*3)).take 3=fkL x:=by
   rw[←M0 hi,←k];simp only[bw,aT,ab7,ab8,Co];congr 1;omega
  have d:∀j,j<3->bN a (o+i*3+j)=(fkL x)[j]? :=λj l=>by
   rw[cC,←f,wi l,wn]
  exact⟨b,o,cap,a,e,t,hv,g,s1.lt,d 0 ω,d 1 ω,d 2 ω,by rw[bw,aT];exact f⟩
def abF(bq bs bn bc bv:Nat):Value:= .func (.func 112) #[] #[sb bq, sb bs, sb bn, sb bc, sb bv]
structure VsH (h0 h:Heap) (q:Nat) (sv:Value) (cost:Int) (n0:Int) (bq bs bn bc bv:Nat):Prop where
 wf:WF h
 nx:h0.next<=h.next
 old:∀z,z<h0.next->h.get z=h0.get z
 gq:h.get bq=some (qt [sb q])
 gs:h.get bs=some (qt [sv])
 gn:h.get bn=some (qt [zc n0])
 gc:h.get bc=some (qt [zc cost])
 gv:h.get bv=some (qt [abF bq bs bn bc bv])
def jq(f:List Nat):(zI f).length=f.length:=by simp[zI]
def jZ(f:List Nat):(ints (zI f)).length=f.length:=by rw[mB,jq]
def QV:∀f:List Nat,(zI f).map Int.toNat=f
 |[]=>rfl
 |x::f=>by
  show Int.toNat (Int.ofNat x)::(zI f).map Int.toNat=_;rw[QV f];rfl
def pE(l:List Pb)(f:List Nat):zsF l (zI f)=l.zip f:=by unfold zsF;rw[QV]
def Ec(f:List Nat)(i k:Nat):(ints (zI f)).set (0+i*1) (zc ((k:Nat):Int))=ints (zI (f.set i k)):=by
 rw[hF,xr];unfold ints zI;rw[WP,WP];rfl
def Cg{k:Nat}(h:f[i]? =some k):(ints (zI f))[i]? =some (zc ((k:Nat):Int)):=by simp[ints,zI,h]
def Gv(h:∀x∈f,x<=2):sI (zI f)=true:=by
 unfold sI;rw[PP];intro x a;obtain⟨y,b,rfl⟩:=List.mem_map.1 a;have:=h y b;unfold inR;exact decide_eq_true (show(0:Int)<=Int.ofNat y/\Int.ofNat y<=2 from⟨Int.natCast_nonneg _,by show((y:Nat):Int)<=2;omega⟩)
def zA{w:List Nat×List Nat}{l:List Pb}{ns:List (List (List Nat))}{g:List Nat}(h:bsB w (l.zip g)=true):E9 (ns.map (jP (l.zip g) (bsS w.1 (l.zip g))))=eD w l ns g:=by
 unfold E9 eD;rw[h,yi,List.any_map];rfl
def OwE.Xx{lo:Nat}(o:OwE lo h 1 v n cs)(a:n≠0):∃b,v= sh b n UNK/\lo<=b/\b<h.next/\h.get b=some (qt cs):=by
 cases o with
 |own o=>
  cases o with
  |nil=>exact absurd rfl a
  |full h1 h2 h3 h4 h5=>exact⟨_,rfl,h1,h2,h3⟩
 |lit=>exact absurd rfl a
instance abN(n i m:Int):Decidable (mL n i m):=by unfold mL;infer_instance
structure En (T:Nat->Option aq):Prop where
 rj:LM T
 rp:Ir T
 f101:T 48=some f101
 f102:T 49=some f102
def Eu(F:En T)(hr:Rdy h)(n a m:Int):Pu T 48 [zc n, zc a, zc m] h (.bool (decide (mL n a m))):=by
 refine .of F.rj.rc.r8.p F.f101 hr rfl ?_;by_cases h1:n= -1
 ·have b:zz n (-1) true:=ur h1;rw[decide_eq_true (show mL n a m from .inl h1)];refine Y19 ?_;exact an hr.log rfl rfl
 have b:zz n (-1) false:=jH h1;by_cases h2:a<n
 ·have c:zs n a true:=fh h2;by_cases h3:n<m
  ·have d:zd n m true:=dz h3;rw[decide_eq_true (show mL n a m from .inr ⟨h2,h3⟩)];refine Y27 ?_;exact an hr.log rfl rfl
  ·have d:zd n m false:=dG ω;rw[decide_eq_false (show¬mL n a m from λq=>q.elim h1 λq=>h3 q.2)];refine Y27 ?_;exact an hr.log rfl rfl
 ·have c:zs n a false:=gT ω;rw[decide_eq_false (show¬mL n a m from λq=>q.elim h1 λq=>h2 q.1)];refine Y24 ?_;exact an hr.log rfl rfl
def zj(F:En T){w:List Nat×List Nat}(hw:IsW w){l:List Pb}(hl:l.length<=8)(hc:∀p∈l,1<=p.cost/\p.cost<=1000){ns:List (List (List Nat))}(fw:ns.length<1000000)(fj:∀r∈ns,r.length<1000000/\∀n∈r,IsS n/\Sub n w.2)(ju:s.length<1000000)(fY:PO l s):
 ∀(k:Nat) {h:Heap} (_:Rdy h) {pv nv sv v:Value} (_:PbS h pv l) (_:NdS h nv ns) (_:FkS h sv s) {g:List Nat} (_:aH h 1 v g.length (ints (zI g))) (_:g.length=l.length) (_:∀x∈g,x<=2) {a:Int} (_:mL a (-1) s.length) {cost:Int} (_: -9223372036854775808<=cost/\cost<9223372036854775808) (_:(bM l.length g).length<k),
 Pu T 49 [wV w,pv,nv,sv, zc a,v, zc cost] h (.bool (pL w l ns s k a g cost)):=by
 intro k;induction k with
 |zero=>intro _ _ _ _ _ _ _ _ _ _ _ _ _ _ _ _ _ q;omega
 |succ k ih=>
 intro h Y pv nv sv v sp sn S0 g sg E d9 a cJ cost il hk;have hp:=F.rj.rc.r8.p;refine .of hp F.f102 Y rfl ?_;have ge:cellsOf (wV w)=wL w:=by show(wL w).toArray.toList=_;simp
 obtain⟨pa,pc,rfl⟩:=sp.form;obtain⟨na,nc,rfl⟩:=sn.form;obtain⟨sa,sc,rfl⟩:=aH.form S0;obtain⟨ga,gc,rfl⟩:=sg.form;have x0:Ext h (h.push (qt (cellsOf (wV w)))):=(Ext.refl h).push _;have g0:(h.push (qt (cellsOf (wV w)))).get h.next=some (qt (wL w)):=by rw[ge];exact z3 h _
 have n0:(h.push (qt (cellsOf (wV w)))).next=h.next+1:=rfl
 refine Y4 ?_;generalize(h.push (qt (cellsOf (wV w))))=H at*;have W:=x0.wf Y.wf;have hL:=x0.log.trans Y.log;have wk:=ja hw;have lw:=gu hw;unfold pL;by_cases hcost:cost<0
 ·rw[if_pos hcost];have m1:zd cost 0 true:=dz hcost;refine Y11 ?_;exact an hL rfl rfl
 rw[if_neg hcost];have m1:zd cost 0 false:=dG ω;have dp:=Gv d9;have eg:aH h 1 (.slice ga g.length gc) (zI g).length (ints (zI g)):=by rw[jq];exact sg
 have C4:=pG F.rj.rc.r8 (h:=η H) (.of W) hw ((sp.ext x0).log []) ω ((eg.ext x0).log []) (by rw[jq];exact E) dp;rw[pE]at C4;have f7:IsS (bsS w.1 (l.zip g)):=kE hw.a (pz sp.ok);have x1:=ff (h:=H) (base:=h.next) ω (qt (aL 8 (.int .u64 0))) (qt (us (bsS w.1 (l.zip g))));have n1:((H.push (qt (aL 8 (.int .u64 0)))).wr h.next H.next (qt (us (bsS w.1 (l.zip g))))).next=H.next+1:=rfl
 have kd:=f7.len;have J:=λ(cY:bsB w (l.zip g)=true) {H1:Heap} (c:Ext h H1)=>uE F.rj (h:=η H1) (.of (c.wf Y.wf)) hw ((sp.ext c).log []) ω ((eg.ext c).log []) (by rw[jq];exact E) dp ((sn.ext c).log []) fw (by rw[pE];exact cY) fj;simp only[pE]at J;have jo:=zA (w:=w) (l:=l) (ns:=ns) (g:=g);have du:=sK (w:=w) (l:=l) (ns:=ns) (f:=g);generalize hjl:ns.map (jP (l.zip g) (bsS w.1 (l.zip g)))=jl at*;have da:jl.length=ns.length:=by rw[←hjl,j3]
 clear hjl;generalize eD w l ns g=op at*;generalize bsS w.1 (l.zip g)=s1 at*;generalize bsB w (l.zip g)=can at*;refine Y13 ?_;refine FW.pu C4 ?_;clear C4;refine Y4 ?_;refine aG (bH ρ ρ YG (by(simp only[aF];assumption)) ρ (by exact bZ _)) ?_;refine Y2 ?_;generalize((H.push (qt (aL 8 (.int .u64 0)))).wr h.next H.next (qt (us s1)))=H1 at*;have c:=x0.trans x1;have W1:=c.wf Y.wf;have C:=x1.log.trans hL;have ar:=(x1.old _ ω).trans g0;clear g0;by_cases U:a= -1
 ·have m2:zz a (-1) true:=ur U;rw[if_pos U];cases can with
  |false=>
   obtain rfl:op=false:=by cases op with
    |false=>rfl
    |true=>exact absurd (du rfl) (by simp)
   refine Y18 ?_;exact an C rfl rfl
  |true=>
   have C5:=J rfl c;rw[←jo rfl];refine Y20 ?_;refine FW.al C5 (λv h' m q=>q.log m) ?_;rintro v2 d t M;have M:Own H1.next d 1 v2 ns.length (fL jl):=M
   have W2:=t.wf W1;have j:=t.log.trans C;have P:=M.slice ω;rw[←da]at P;have Q:=oA F.rj (h:=η d) (.of W2) (P.log []) ω;obtain⟨b2,d2,rfl⟩:=P.form;refine Y5 ?_;refine FW.pu Q ?_;refine Y4 ?_;exact an j rfl rfl
 have m2:zz a (-1) false:=jH U;rw[if_neg U];cases can with
 |false=>
  obtain rfl:op=false:=by cases op with
   |false=>rfl
   |true=>exact absurd (du rfl) (by simp)
  rw[if_neg (by simp)];refine Y19 ?_;exact an C rfl rfl
 |true=>
 have C5:=J rfl c;have jo:=jo rfl;obtain⟨i,rfl⟩:∃i:Nat,a=(i:Int):=⟨a.toNat,by rcases cJ with q|q<;>omega⟩;have fd:i<s.length:=by rcases cJ with q|q<;>omega
 obtain⟨x,hx⟩:∃x,s[i]? =some x:=⟨s[i],bx fd⟩;have gg:s[((i:Nat):Int).toNat]? =some x:=hx;obtain⟨⟨ip,jp⟩,hy,hn⟩:=fY i x hx;have gt:mL x.yes (-1) s.length:=hy.imp id λq=>⟨ω,q.2⟩;have fg:mL x.no (-1) s.length:=hn.imp id λq=>⟨ω,q.2⟩;obtain⟨p,dv⟩:∃p:Nat,x.probe=(p:Int):=⟨x.probe.toNat,ω⟩;have dC:p<l.length:=ω
 obtain⟨N,X⟩:∃r,l[p]? =some r:=⟨l[p],bx dC⟩;obtain⟨gp,V⟩:∃r,g[p]? =some r:=⟨g[p]' ω,bx ω⟩;have f9:g.getD p 0=gp:=by rw[dn,V];rfl
 have fX:x.probe.toNat=p:=by rw[dv];rfl
 have f8:cM l p=N.cost:=by unfold cM;rw[dn,X];rfl
 obtain⟨bF,oF,cF,lh,i6,tF,o,gF,eK,hZ,ke,lc,ld⟩:=S0.elem hx;cases o;rw[dv]at hZ;obtain⟨bP,oP,cP,lr,i8,tP,o,gP,f0,kP⟩:=sp.elem X;cases o;have jz:=kP.cost;have eh:=sg.ext c;obtain⟨bG,oG,cG,ll,i7,tG,o,gG,eQ,kG⟩:=uc eh (Cg V);cases o;rw[gg];dsimp only;rw[fX,f9,f8];have be:=(c.old _ eK).trans gF;have bo:=(c.old _ f0).trans gP;refine Y22 ?_;refine FW.al C5 (λv h' m q=>q.log m) ?_;clear C5 J;rintro v2 d t M;have M:Own H1.next d 1 v2 ns.length (fL jl):=M
 have u:=c.trans t;have W2:=t.wf W1;have j:=t.log.trans C;have n2:=t.next
 have P:=M.slice ω;rw[←da]at P;have Q:=oA F.rj (h:=η d) (.of W2) (P.log []) ω;obtain⟨b2,d2,rfl⟩:=P.form;rw[jo]at Q;have S:=(t.old _ (by have:=c.next;omega)).trans be;have cd:=(t.old _ (by have:=c.next;omega)).trans bo;have eJ:=(t.old _ eQ).trans gG;have aw:=(t.old _ ω).trans ar;clear be bo gG ar M P eh;cases op with
 |false=>
  rw[if_neg (by simp)];refine Y6 ?_;refine FW.pu Q ?_;refine Y18 ?_;exact an j rfl rfl
 |true=>
 rw[if_pos rfl];by_cases hg0:gp=0;case neg=>
  rw[if_neg hg0];have m3:zB ((gp:Nat):Int) 0 true:=iY ω;refine Y6 ?_;refine FW.pu Q ?_;refine Y27 ?_;exact an j rfl rfl
 rw[if_pos hg0];subst hg0;have m3:zB ((0:Nat):Int) 0 false:=uv rfl;refine Y6 ?_;refine FW.pu Q ?_;clear Q;refine Y27 ?_;have fb:g.length≠0:=ω
 have x4:Ext d (d.push (.cells (eR 0 [I.O]) true (bS [I.O]))):=(Ext.refl d).push _;have ba:(d.push (.cells (eR 0 [I.O]) true (bS [I.O]))).get d.next=some (qt []):=z3 _ _
 have dE:dg (d.push (.cells (eR 0 [I.O]) true (bS [I.O]))) 1 (.slice (some ⟨bG,oG,none⟩) g.length gc)=some (ints (zI g),g.length):=AG (sg.ext (u.trans x4));have lf:(d.push (.cells (eR 0 [I.O]) true (bS [I.O]))).next=d.next+1:=rfl
 refine wO (lo:=d.next) (b:=d.next) ba (eA _) (bl _) ω ω ρ ρ dE (by rw[jZ];omega) ?_;intro v4 H4 o4 eq;have x5:Ext d H4:=x4.trans eq;obtain⟨e,rfl,cX,i0,g4⟩:=o4.Xx fb;clear o4 dE ba eq x4 eJ;have n4:=x5.next
 have nh:=u.next
 have eI:=(x5.old _ ω).trans S;have Z:(ints (zI g)).set (0+p*1) (zc 1)=ints (zI (g.set p 1)):=Ec g p 1;have ae:(ints (zI (g.set p 1))).set (0+p*1) (zc 2)=ints (zI (g.set p 2)):=by
  have:=Ec (g.set p 1) p 2;rw[List.set_set]at this;exact this
 have i4:=jZ g;have dT:(ints (zI (g.set p 1))).length=g.length:=by rw[jZ,hG]
 have e9:(ints (zI (g.set p 2))).length=g.length:=by rw[jZ,hG]
 have io:=hc N (ci X);have dj:=λa (U:a≠0)=>lX (n:=l.length) (f:=g) (p:=p) (a:=a) ω U (fJ.2 ⟨dC,by rw[dn,V];rfl⟩);have L:∀a,a<=2->∀y∈g.set p a,y<=2:=λa U y hy=>by
  rcases A3 hy with q|q
  ·exact d9 y q
  ·omega
 have ii:(d.next<=e):=cX;have SF:∀{a:Nat} {G:Heap},e<G.next->G.get e=some (qt (ints (zI (g.set p a))))->(ints (zI (g.set p a))).length=g.length->aH G 1 (sh e g.length UNK) (g.set p a).length (ints (zI (g.set p a))):=λ{a G} q1 q2 q3=>by
  rw[hG];exact .mem ⟨q1,⟨_,_,_,q2,by rw[aT,ww,bw,go ω]⟩,ω⟩ (by unfold UNK;omega)
 refine Y10 ?_;refine aG (jL ρ ρ τ ρ ρ ω) ?_;refine y3 ?_;have K:Ext d (H4.wr h.next e (qt ((ints (zI g)).set (0+p*1) (zc 1)))):=⟨n4,(Heap.aA ω).trans x5.log,λz hz=>(z5 ω).trans (x5.old z hz),λw=>(x5.wf w).as (AS.wr _ _ _ _)⟩;have g5:(H4.wr h.next e (qt ((ints (zI g)).set (0+p*1) (zc 1)))).get e=some (qt (ints (zI (g.set p 1)))):=by rw[Z,z6,g4];rfl
 have n6:(H4.wr h.next e (qt ((ints (zI g)).set (0+p*1) (zc 1)))).next=H4.next:=rfl
 generalize(H4.wr h.next e (qt ((ints (zI g)).set (0+p*1) (zc 1))))=H5 at*;have A:=u.trans K;have W5:=A.wf Y.wf;have ik:=K.log.trans j;have aE:=(K.old _ ω).trans aw;have bj:=(K.old _ ω).trans S;have cj:=(K.old _ ω).trans cd;have hJ:e<H5.next:=ω
 have C7:=ih (h:=η H5) (.of W5) ((sp.ext A).log []) ((sn.ext A).log []) (aH.log (aH.ext S0 A) []) ((SF hJ g5 dT).log []) (by rw[hG];exact E) (L 1 ω) gt (cost:=cost-N.cost) ω (by have:=dj 1 ω;omega);have i5:vi cost N.cost (cost-N.cost):=jD (aO ω ω);generalize hb1:pL w l ns s k x.yes (g.set p 1) (cost-N.cost)=b1 at*;clear g4 x5 eI S cd aw;refine Y24 ?_;refine FW.puD C7 (by(repeat apply aB rfl);exact aQ) ?_;clear C7;refine Y12 ?_;refine aG (jL ρ ρ τ ρ ρ ω) ?_;refine y3 ?_;have x7:Ext d (H5.wr h.next e (qt ((ints (zI (g.set p 1))).set (0+p*1) (zc 2)))):=⟨by show d.next<=H5.next;omega,(Heap.aA ω).trans K.log,λz hz=>(z5 ω).trans (K.old z hz),λw=>(K.wf w).as (AS.wr _ _ _ _)⟩;have g7:(H5.wr h.next e (qt ((ints (zI (g.set p 1))).set (0+p*1) (zc 2)))).get e=some (qt (ints (zI (g.set p 2)))):=by rw[ae,z6,g5];rfl
 have n7:(H5.wr h.next e (qt ((ints (zI (g.set p 1))).set (0+p*1) (zc 2)))).next=H5.next:=rfl
 have w7:∀z,z≠e->(H5.wr h.next e (qt ((ints (zI (g.set p 1))).set (0+p*1) (zc 2)))).get z=H5.get z:=λz hz=>z5 hz;generalize(H5.wr h.next e (qt ((ints (zI (g.set p 1))).set (0+p*1) (zc 2))))=H7 at*;have B:=u.trans x7;have W7:=B.wf Y.wf;have D:=x7.log.trans j;have i9:=(w7 _ ω).trans aE;have ib:=(w7 _ ω).trans bj;have ie:=(w7 _ ω).trans cj;have hY:e<H7.next:=ω
 have C8:=ih (h:=η H7) (.of W7) ((sp.ext B).log []) ((sn.ext B).log []) (aH.log (aH.ext S0 B) []) ((SF hY g7 e9).log []) (by rw[hG];exact E) (L 2 ω) fg (cost:=cost-N.cost) ω (by have:=dj 2 ω;omega);generalize hb2:pL w l ns s k x.no (g.set p 2) (cost-N.cost)=b2b at*;clear g5 aE bj cj K w7 W5;refine Y24 ?_;refine FW.puD C8 (by(repeat apply aB rfl);exact aQ) ?_;clear C8;cases b1<;>cases b2b
 ·refine Y12 ?_;exact an D rfl rfl
 ·refine Y12 ?_;exact an D rfl rfl
 ·refine Y13 ?_;exact an D rfl rfl
 ·refine Y13 ?_;exact an D rfl rfl
end Go.A.Pk
end
section
namespace Go.A.Pk
variable {T:Nat->Option aq}
section
open I
def JP:aZ:=(I.R [M 10 32] [2,3,7,10])
def JT:aZ:=(.block 1 (.draw [L 33 7,L 34 2,g 35 (.cT (t 34)),A 36 16 35,L 37 36,M 38 10,g 39 (.aC 9 (t 37) (t 38)),A 40 8 39,L 41 40,L 42 2,N 43 8 3,M 44 10,g 45 (.call (.func 33) [(t 43),(t 44),(.const (.int .u8 1))]),g 46 (.call (.func 26) [(t 42),(t 45)]),L 47 2,N 48 8 3,M 49 10,g 50 (.call (.func 33) [(t 48),(t 49),(.const (.int .u8 2))]),g 51 (.call (.func 26) [(t 47),(t 50)]),g 52 (.ej true [(t 46),(t 51)]),B 53 .add 41 52,g 54 (.ej false [(t 33),(t 53)]),S 1 7 54] [0,1,2,3,4,5,6,7,8,9,10,11,14,15,16,12,13,17,18,19,20,21,22] [0,0,2,6,14,0,62,126,254,0,0,0,3072,7680,0,0,0,114176,261632,523776,1048574,2097151,4194303] []))
end
def NZ(a b:Int):mi a b=min a b:=by unfold mi;split<;>omega
def Hl(a b:Int):mx a b=max a b:=by unfold mx;split<;>omega
def Xt(m:Nat)(w:List Nat×List Nat)(l:List Pb)(ns:List (List (List Nat)))(f:List Nat)(v:Value)(h':Heap):Prop:=v= zc (bB w l ns f)/\∃mm,h'.get m=some (.map (kM mm))/\nw w l ns mm
structure Is (T:Nat->Option aq):Prop where
 op:yg T
 f128:T 26=some f128
variable{p:Nat}
def Bp{l:List Pb}{x:Pb}(h:l[p]? =some x):cM l p=x.cost:=by
 unfold cM;rw[dn,h];rfl
variable{w:List Nat×List Nat}{nv ov pv:Value}{os:List (List Nat)}{ns:List (List (List Nat))}
def Ln(F:Is T){H:Heap}(hr:Rdy H){q m:Nat}{l:List Pb}(hc:∀p∈l,1<=p.cost/\p.cost<=1000)(k:QuH H q m w pv nv ov l os ns){f:List Nat}(hf:f.length=8)
 {y b2 b3 d:Nat}{fn:Value}{n0:Int}(gl:H.get y=some (.loop [(2, sb b2),(3, sb b3),(7, sb d),(31,fn)] [32] JP JT 0 .normal))
 (J:H.get b2=some (qt [sb q]))(K:H.get b3=some (qt (fL f)))(L:H.get d=some (qt [zc n0]))(eq:b2≠d)(eI:b3≠d)(f7:q≠d)(da:p<l.length)
 (IH:∀a,a=1∨a=2->∀{h:Heap},Rdy h->QuH h q m w pv nv ov l os ns->Gs T 26 [sb q,fV (f.set p a)] h (λz=>z=m) (Xt m w l ns (f.set p a))):
 FW T (.yield y) [zc (p:Nat)] H λr C=>(∀z∈C.log,z=m∨z=d∨z=y)/\(r= .ret (.bool true)/\((∀z,z<H.next->z≠m->z≠d->C.get z=H.get z)/\H.next<=C.next/\C.get d=some (qt [zc (min n0 (cM l p+max (bB w l ns (f.set p 1)) (bB w l ns (f.set p 2))))])/\∃mm,C.get m=some (.map (kM mm))/\nw w l ns mm)∨r= .ret (.bool false)/\y∈C.log/\False):=by
 have kl:=hr.wf.dJ gl;obtain⟨dp,j,ar⟩:=k.mem;have km:=hr.wf.dJ j;have k2:=hr.wf.dJ J;have k3:=hr.wf.dJ K;have k7:=hr.wf.dJ L;have kq:=hr.wf.dJ k.gq;have dC:b2≠y:=λe=>by rw[e,gl]at J;cases J
 have dE:b3≠y:=λe=>by rw[e,gl]at K;cases K
 have P:d≠y:=λe=>by rw[e,gl]at L;cases L
 have G:m≠y:=λe=>by rw[e,gl]at j;cases j
 have aE:b2≠m:=λe=>by rw[e,j]at J;cases J
 have ba:b3≠m:=λe=>by rw[e,j]at K;cases K
 have Q:d≠m:=λe=>by rw[e,j]at L;cases L
 have dT:q≠y:=λe=>by have:=k.gq;rw[e,gl]at this;cases this
 have e9:q≠m:=λe=>by have:=k.gq;rw[e,j]at this;cases this
 refine FW.Xl F.op.qu.p (.inl rfl) (R:=λC=>(∀z,z<H.next->z≠m->z≠d->C.get z=H.get z)/\H.next<=C.next/\C.get d=some (qt [zc (min n0 (cM l p+max (bB w l ns (f.set p 1)) (bB w l ns (f.set p 2))))])/\∃mm,C.get m=some (.map (kM mm))/\nw w l ns mm) (S:=λ_=>False) (W:=λz=>z=m∨z=d∨z=y) gl rfl kl (.inr (.inr rfl)) ?_;unfold JP;refine Y2 ?_;refine bA ?_;refine y1 ?_;refine⟨rfl,gl,?_⟩;unfold JT;refine oe ?_;refine WE.E4 ?_;intro D B;have I:∀z,z<H.next->z≠y->H.get z=D.get z:=λz A u=>by rw[B];exact(z5 u).symm
 have A2:D.get y=some (.loop [(2, sb b2),(3, sb b3),(7, sb d),(31,fn)] [32] JP JT 1 .normal):=by rw[B];exact Heap.aM gl
 have A5:D.next=H.next:=by rw[B];rfl
 have A6:D.log=[]:=by rw[B,Heap.aA ω];exact hr.log
 have A7:WF D:=by rw[B];exact hr.wf.as (AS.wr _ _ _ _)
 clear B;have a2:=(I b2 k2 dC).symm.trans J;have a3:=(I b3 k3 dE).symm.trans K;have a7:=(I d k7 P).symm.trans L;have am:=(I m km G).symm.trans j;have u:∀(b:Nat) vs E X,H.get b=some (.cells vs E X)->b≠y:=λb vs E X g e=>by rw[e,gl]at g;cases g
 have c:∀{X n:Nat} {v:Value} {cs:List Value},aH H X v n cs->aH D X v n cs:=λ{X n v cs} s=>by
  cases s with
  |nil=>exact .nil
  |mem s hc=>
   obtain⟨vs,E,t,u1,u2⟩:=s.obj;exact .mem ⟨by rw[A5];exact s.lt,⟨vs,E,t,(I _ s.lt (u _ _ _ _ u1)).symm.trans u1,u2⟩,s.len⟩ hc
 have QA:QuH D q m w pv nv ov l os ns:=by
  obtain⟨bj,s1,s2⟩:=k.sn.ex;exact⟨k.hw,(I q kq dT).symm.trans k.gq,⟨c k.sp.sl,k.sp.ok⟩,k.hl,⟨c k.so.sl,k.so.ok⟩,k.hol,⟨bj,c s1,λi r hi=>by
   obtain⟨v,hv,sv⟩:=s2 i r hi;exact⟨v,hv,⟨c sv.sl,sv.ok⟩⟩⟩,k.hns,k.hrn,⟨dp,am,ar⟩⟩
 clear c u J K L j;obtain⟨x,hx⟩:∃x,l[p]? =some x:=⟨l[p],bx da⟩;have eK:=k.hl;have aw:p<8:=ω
 obtain⟨b,o,cp,vs,E,tt,dj,gb,cj,bo⟩:=QA.sp.elem hx;subst dj;have O:=Bp hx;have eJ:=hc x (ci hx);have kc:=bo.cost;have hw:=k.hw;have cd:=QA.gq;have kp:=xz hw (.slice (some ⟨b,o,none⟩) l.length cp) nv ov (.map (some m));have f8:=nH hf;have f9:=kJ hf;have hc0:∀p∈l,0<=p.cost:=λp hp=>by have:=(hc p hp).1;omega
 have v1:=gr (w:=w) (ns:=ns) hc0 (f.set p 1);have v2:=gr (w:=w) (ns:=ns) hc0 (f.set p 2);have eh:zE x.cost (mx (bB w l ns (f.set p 1)) (bB w l ns (f.set p 2))) (x.cost+mx (bB w l ns (f.set p 1)) (bB w l ns (f.set p 2))):=by
  have:mx (bB w l ns (f.set p 1)) (bB w l ns (f.set p 2))<=100000/\0<=mx (bB w l ns (f.set p 1)) (bB w l ns (f.set p 2)):=by unfold mx;split<;>omega
  exact fK (aO ω ω)
 have C1:=rA F.op (h:=η D) (.of A7) hf aw (a:=1);have I1:=IH 1 (.inl rfl) (h:=η D) (.of A7) (QA.log []);have fd:b≠d∨b=d:=ω
 refine Y17 ?_;refine FW.puD C1 (by apply au rfl (ah rfl (dM ρ) (by exact dh _ _)) rfl;apply au rfl (ah rfl (bW ρ τ τ τ) (by exact AJ _)) rfl;apply au rfl (ah rfl (cw ρ τ ρ) (by exact bh _)) rfl;(repeat apply aB rfl);apply au rfl (ah rfl (cw ρ τ ρ) (by exact bh _)) rfl;apply au rfl (ah rfl (cw ρ τ τ) (by exact dh _ _)) rfl;apply au rfl (ah rfl (dL ρ) (by exact bh _)) rfl;apply au rfl (ah rfl (gU ρ ρ ω) (by exact bh _)) rfl;apply au rfl (ah rfl (dM ρ) (by exact dh _ _)) rfl;apply au rfl (ah rfl (cw ρ τ τ) (by exact dw _ _ _)) rfl;apply au rfl (ah rfl (dL ρ) (by exact bh _)) rfl;apply au rfl (ah rfl (iN ρ) (by exact bh _)) rfl;apply au rfl (ah rfl (cw ρ τ ρ) (by exact bh _)) rfl;apply au rfl (ah rfl (cw ρ τ ρ) (by exact dh _ _)) rfl;exact aQ) ?_;clear C1;skip;refine qC ?_;refine FW.gsD I1 (λv h' lg q=>q) ?_;clear I1;rintro _ M lg xB eQ ⟨rfl,du,Y,cY⟩;have nB:=xB.next
 have U:∀z,z<D.next->z≠m->M.get z=D.get z:=λz A u=>xB.old z A u
 have WB:=xB.wf A7;have QB:QuH M q m w (.slice (some ⟨b,o,none⟩) l.length cp) nv ov l os ns:=QA.keep A7 nB U ⟨du,Y,cY⟩;have c2:=(U b2 ω aE).trans a2;have c3:=(U b3 ω ba).trans a3;have c7:=(U d ω Q).trans a7;have cq:=QB.gq;have be:b≠m:=λe=>by rw[e,am]at gb;cases gb
 have cb:=(U b cj be).trans gb;have cJ:∀z∈M.log,z=m:=λz A=>(xB.log z A).elim (λq=>by rw[A6]at q;cases q) id;have C2:=rA F.op (h:=η M) (.of WB) hf aw (a:=2);have I2:=IH 2 (.inr rfl) (h:=η M) (.of WB) (QB.log []);refine⟨_,by apply au rfl (ah rfl (dM ρ) (by exact dh _ _)) rfl;apply au rfl (ah rfl (bW ρ τ τ τ) (by exact AJ _)) rfl;apply au rfl (ah rfl (cw ρ τ ρ) (by exact bh _)) rfl;apply aB rfl;apply au rfl (ah rfl (cw ρ τ τ) (by exact dh _ _)) rfl;apply au rfl (ah rfl (dL ρ) (by exact bh _)) rfl;apply au rfl (ah rfl (gU ρ ρ ω) (by exact bh _)) rfl;apply au rfl (ah rfl (dM ρ) (by exact dh _ _)) rfl;apply au rfl (ah rfl (cw ρ τ τ) (by exact dw _ _ _)) rfl;apply au rfl (ah rfl (dL ρ) (by exact bh _)) rfl;apply au rfl (ah rfl (iN ρ) (by exact bh _)) rfl;apply au rfl (ah rfl (cw ρ τ ρ) (by exact bh _)) rfl;apply au rfl (ah rfl (cw ρ τ ρ) (by exact dh _ _)) rfl;exact aQ,?_⟩;clear a2 a3 a7 cd gb;skip;refine qC ?_;refine FW.puD C2 (by(repeat apply aB rfl);apply au rfl (ah rfl (cw ρ τ ρ) (by exact bh _)) rfl;apply au rfl (ah rfl (cw ρ τ τ) (by exact dh _ _)) rfl;apply au rfl (ah rfl (dL ρ) (by exact bh _)) rfl;apply au rfl (ah rfl (gU ρ ρ ω) (by exact bh _)) rfl;apply au rfl (ah rfl (dM ρ) (by exact dh _ _)) rfl;apply au rfl (ah rfl (cw ρ τ τ) (by exact dw _ _ _)) rfl;apply au rfl (ah rfl (dL ρ) (by exact bh _)) rfl;apply au rfl (ah rfl (iN ρ) (by exact bh _)) rfl;apply au rfl (ah rfl (cw ρ τ ρ) (by exact bh _)) rfl;apply au rfl (ah rfl (cw ρ τ ρ) (by exact dh _ _)) rfl;exact aQ) ?_;clear C2;skip;refine qC ?_;refine FW.gsD I2 (λv h' lg q=>q) ?_;clear I2;rintro _ hC fb xC eg ⟨rfl,dv,Z,d9⟩;have nC:=xC.next
 have V:∀z,z<M.next->z≠m->hC.get z=M.get z:=λz A u=>xC.old z A u
 have WC:=xC.wf WB;have d2:=(V b2 ω aE).trans c2;have d3:=(V b3 ω ba).trans c3;have d7:=(V d ω Q).trans c7;have dq:=(V q ω e9).trans cq;have db:=(V b ω be).trans cb;have dl:=(V y ω (Ne.symm G)).trans ((U y ω (Ne.symm G)).trans A2);have cX:∀z∈hC.log,z=m:=λz A=>(xC.log z A).elim (cJ z) id;refine⟨_,by apply aB rfl;apply au rfl (ah rfl (cw ρ τ τ) (by exact dh _ _)) rfl;apply au rfl (ah rfl (dL ρ) (by exact bh _)) rfl;apply au rfl (ah rfl (gU ρ ρ ω) (by exact bh _)) rfl;apply au rfl (ah rfl (dM ρ) (by exact dh _ _)) rfl;apply au rfl (ah rfl (cw ρ τ τ) (by exact dw _ _ _)) rfl;apply au rfl (ah rfl (dL ρ) (by exact bh _)) rfl;apply au rfl (ah rfl (iN ρ) (by exact bh _)) rfl;apply au rfl (ah rfl (cw ρ τ ρ) (by exact bh _)) rfl;apply au rfl (ah rfl (cw ρ τ ρ) (by exact dh _ _)) rfl;exact aQ,?_⟩;clear c2 c3 c7 cq cb;refine Y3 ?_;refine iB rfl rfl rfl ρ ρ ρ d7 ρ ρ (show d<hC.next by omega) (by(repeat apply aB rfl);exact aQ) ?_;refine Y3 ?_;refine⟨⟨_,(z5 (Ne.symm P)).trans dl,rfl⟩,λz A=> ?_, .inl ⟨rfl,λh5 f0 N ae=>⟨λz A h1 h2=> ?_,ω,?_,dv,?_,d9⟩⟩⟩
 ·rcases dW A with rfl|A
  ·exact .inr (.inl rfl)
  ·exact .inl (cX z A)
 ·by_cases hzl:z=y
  ·subst hzl;exact ae.trans gl.symm
  ·exact(N z A hzl).trans ((z5 h2).trans ((V z ω h1).trans ((U z ω h1).trans (I z A hzl).symm)))
 ·rw[N d k7 P,O,←Hl,←NZ]
  (simp(disch:=first|omega|(simp only[z1,z2];omega))only[z3,z4,z5,z6,z7,z1,z2,gl,A2,am,Y,Z,d2,d3,d7,dq,db,dl,ae];exact rfl)
 ·exact(N m km G).trans ((z5 (Ne.symm Q)).trans Z)
structure QZ (N m nb:Nat) (w:List Nat×List Nat) (l:List Pb) (ns:List (List (List Nat))) (H0:Heap) (L:bT) (g:Nat->Int) (done:List Nat) (H:Heap):Prop where
 old:∀z,z<N->z≠m->z≠nb->H.get z=H0.get z
 n:H.get nb=some (qt [zc (mnF g done 100000)])
 mem:∃mm,H.get m=some (.map (kM mm))/\nw w l ns mm
 loop:H.get N=some L
 nx:N<H.next
def nZ(F:Is T){q m:Nat}{l:List Pb}(hc:∀p∈l,1<=p.cost/\p.cost<=1000):∀(k:Nat) {h:Heap},Rdy h->QuH h q m w pv nv ov l os ns->∀{f:List Nat},f.length=8->(bM l.length f).length<=k→
 Gs T 26 [sb q,fV f] h (λz=>z=m) (Xt m w l ns f):=by
 intro k;induction k using Nat.strongRecOn with
 |ind k ih=>
 intro h I A f y hk;obtain⟨r,gm,o⟩:=A.mem;have km:=I.wf.dJ gm;have kq:=I.wf.dJ A.gq;refine Gs.of F.op.qu.p F.f128 (λv h1 h2 _ hn ha ⟨e,r,g,hm⟩=>⟨e,r,(ha m km).trans g,hm⟩) ?_;have dv:=jN f;have x0:Ext h ((h.push (qt (cellsOf (sb q)))).push (qt (cellsOf (fV f)))):=((Ext.refl h).push _).push _;have g2:((h.push (qt (cellsOf (sb q)))).push (qt (cellsOf (fV f)))).get h.next=some (qt [sb q]):=(z4 (eA _)).trans (z3 h _)
 have g3:((h.push (qt (cellsOf (sb q)))).push (qt (cellsOf (fV f)))).get (h.next+1)=some (qt (fL f)):=by rw[←dv];exact z3 _ _
 have n0:((h.push (qt (cellsOf (sb q)))).push (qt (cellsOf (fV f)))).next=h.next+2:=rfl
 refine Y5 ?_;generalize((h.push (qt (cellsOf (sb q)))).push (qt (cellsOf (fV f))))=H at*;have cX:(h.push (qt (cellsOf (sb q)))).next=h.next+1:=rfl
 rw[cX];clear cX;have W:=x0.wf I.wf;have hL:=x0.log.trans I.log;have QH:=A.ext I.wf x0;have dp:=QH.gq;have B:=(x0.old m km).trans gm;have hw:=A.hw;have f7:=Zg hw pv nv ov (.map (some m));have eQ:=nH y;have f0:=kJ y;have h8:∀x∈r,x.1.length=8:=λx hx=>(o x hx).1;have M:∀z∈H.log,z=m:=λz b=>by rw[hL]at b;cases b
 cases hfi:tY f 0 r with
 |some p=>
  obtain⟨j,v⟩:=p;have hv:v=bB w l ns f:=(o _ (BA hfi)).2;subst hv;refine Y8 ?_;refine qZ9 (c:=Iw (mm:=r) (f:=f) ρ ρ B y h8 (u:= .tuple #[zc (bB w l ns f), .bool true]) (by rw[hfi])) (H:=?_);refine qM ?_;refine qE ?_;refine qE ?_;refine Y15 ?_;exact iO M rfl ⟨rfl,r,B,o⟩
 |none=>
 refine Y8 ?_;refine qZ9 (c:=Iw (mm:=r) (f:=f) ρ ρ B y h8 (u:= .tuple #[zc 0, .bool false]) (by rw[hfi])) (H:=?_);refine qM ?_;refine qE ?_;refine qE ?_;refine Y11 ?_;refine cQ (E0:=[(2, sb h.next),(3, sb (h.next+1)),(7, sb H.next)]) (P:=λC=>Ext H C∧C.next=H.next+1/\C.get H.next=some (qt [zc 0])) ?_ ?_
 ·refine Y3 ?_;refine bA ?_;refine y1 ?_;exact⟨rfl,rfl,rfl,ff ω _ _,rfl,iW _ _⟩
 rintro H3 ⟨U,n3,g7⟩;have W3:=U.wf W;have cd:=U.log.trans hL;have Q3:=QH.ext W U;have dj:=Q3.gq;have ae:=(U.old _ ω).trans g2;have aE:=(U.old _ ω).trans g3;have E:=(U.old _ ω).trans B;clear g2 g3 dp B;have Z:=Je F.op (h:=η H3) (.of W3) (Q3.log []) y;have D:=tO (w:=w) (l:=l) (ns:=ns) (f:=f) (by have:=A.hl;omega);generalize bsB w (l.zip f)=can at*;cases ho:eD w l ns f with
 |false=>
  rw[ho]at Z D;have s:=o.put y;rw[D,if_neg (by simp)]at s;refine Y5 ?_;refine FW.pu Z ?_;clear Z;refine Y20 ?_;refine Cb (mm:=r) (f:=f) (n:=0) rfl rfl rfl ρ ρ ρ ρ E y h8 ω (by(repeat apply aB rfl);exact aQ) ?_;refine Y8 ?_;exact iO (λz b=>(dW b).elim id λq=>by rw[cd]at q;cases q) rfl ⟨by rw[D];rfl,_,Heap.aM E,s⟩
 |true=>
 rw[ho,if_pos rfl]at D;rw[ho]at Z;refine Y5 ?_;refine FW.pu Z ?_;clear Z;refine Y10 ?_;refine cQ (E0:=[(2, sb h.next),(3, sb (h.next+1)),(7, sb H.next)]) (P:=λC=>C.next=H.next+1/\C.log=[]/\WF C∧(∀z,z≠H.next->C.get z=H3.get z)/\C.get H.next=some (qt [zc 100000])) ?_ ?_
 ·refine Y2 ?_;refine bA ?_;refine y1 ?_;exact⟨rfl,rfl,rfl,n3,(Heap.aA ω).trans cd,W3.as (AS.wr h.next _ _ _),λz b=>z5 b,Heap.aM g7⟩
 rintro t ⟨n4,du,W4,o4,bj⟩;have eg:=x0.trans U;have cY:∀z,z<h.next->t.get z=h.get z:=λz b=>(o4 z ω).trans (eg.old z b)
 have ar:=(o4 h.next ω).trans ae;have ba:=(o4 (h.next+1) ω).trans aE;have L:=(o4 m ω).trans E;have Q4:QuH t q m w pv nv ov l os ns:=A.keep I.wf ω (λz b _=>cY z b) ⟨r,L,o⟩;have C2:=I4 F.op (h:=η t) (.of W4) (sb q) f rfl;clear ae aE E dj g7;refine Y4 ?_;refine FW.al C2 (λv C m q=>q) ?_;clear C2;rintro _ c X ⟨rfl,n5,J,K⟩;have n5:c.next=t.next+2:=n5
 have J:c.get t.next=some (qt [sb q]):=J
 have K:c.get (t.next+1)=some (qt (fL f)):=K;have W5:=X.wf W4;have cj:=X.log.trans du;have aw:=(X.old _ ω).trans ar;have be:=(X.old _ ω).trans ba;have bo:=(X.old m ω).trans L;have da:=(X.old H.next ω).trans bj;have Q:∀z,z<h.next->c.get z=h.get z:=λz b=>(X.old z ω).trans (cY z b)
 clear ar ba L bj;have eI:m≠H.next:=ω
 have eJ:m<c.next:=ω
 have eh:H.next<c.next:=ω
 generalize hL0:(.loop [(2, sb h.next),(3, sb (h.next+1)),(7, sb H.next),(31, .func (.func 79) #[] #[sb t.next, sb (t.next+1)])] [32] JP JT 0 .normal:bT)=L0;have N:∀done Ha Hb,QZ c.next m H.next w l ns c L0 (λp=>cM l p+max (bB w l ns (f.set p 1)) (bB w l ns (f.set p 2))) done Ha->c.next+1<=Hb.next->(∀x,x<c.next+1->Hb.get x=Ha.get x)->QZ c.next m H.next w l ns c L0 (λp=>cM l p+max (bB w l ns (f.set p 1)) (bB w l ns (f.set p 2))) done Hb:=λdone Ha Hb p n e=>by
  obtain⟨O,u1,u2⟩:=p.mem;exact⟨λz b i1 i2=>(e z ω).trans (p.old z b i1 i2),(e _ ω).trans p.n,⟨O,(e m ω).trans u1,u2⟩,(e _ ω).trans p.loop,ω⟩
 have Y:Q7 .ret T (λz=>z=m∨z=H.next∨z=c.next) (c.next+1) c.next (λp=>[zc ((p:Nat):Int)]) (bM l.length f) (QZ c.next m H.next w l ns c L0 (λp=>cM l p+max (bB w l ns (f.set p 1)) (bB w l ns (f.set p 2)))) (λ_=>False):=by
  refine⟨λdone p Hh hx e9 hN i=> ?_,N,λ_ _ e=>e,λ_ e=>e.elim,λz b=>ω⟩;obtain⟨dE,eK⟩:=fJ.1 hx;have eq:=A.hl;have d9:QuH Hh q m w pv nv ov l os ns:=A.keep I.wf ω (λz b hm=>(i.old z ω hm ω).trans (Q z b)) i.mem;have cJ:=i.loop;rw[←hL0]at cJ;refine FW.mono' (Ln F e9 hc d9 y cJ ((i.old _ ω ω ω).trans aw) ((i.old _ ω ω ω).trans be) i.n ω ω ω dE λa ha C dT Q'=>ih _ (m6 (lX ω ω hx) hk) dT Q' (by rw[hG];exact y) (bl _)) ?_;rintro r' H' ⟨r1,r2⟩;refine⟨r1,r2.imp (λ⟨e1,e2,e3,e4,e5⟩=>⟨e1,⟨λz b i1 i2=>(e2 z ω i1 i2).trans (i.old z b i1 i2),?_,e5,(e2 _ i.nx ω ω).trans i.loop,m6 i.nx e3⟩⟩) id⟩;rw[Fv];exact e4
 refine Y2 ?_;refine Lp (px:= .ret) (W:=λz=>z=m∨z=H.next∨z=c.next) (P:=QZ c.next m H.next w l ns c L0 (λp=>cM l p+max (bB w l ns (f.set p 1)) (bB w l ns (f.set p 2))) (bM l.length f)) (S:=λ_=>False) rfl ρ (by rw[F.op.f228];rfl) ω W5 ?_ (λHh p=>by
  have:=p.loop;rw[←hL0]at this;exact⟨_,_,_,_,this⟩) (λ_ p=>p.elim) ?_ (λ_ _ _ _ _ _ _ _ p=>p.elim)
 ·have G:(.loop [(2, sb h.next),(3, sb (h.next+1)),(7, sb H.next),(31, .func (.func 79) #[] #[sb t.next, sb (t.next+1)])] [32] JP JT 0 .normal:bT)=L0:=hL0;unfold JP JT at G;rw[G];have x6:Ext c {c.push L0 with log:=[]}:=⟨Hm _,by rw[cj],λz b=>z4 b,λwf=>(wf.push L0).log _⟩;have Q5:QuH c q m w pv nv ov l os ns:=A.keep I.wf ω (λz b _=>Q z b) ⟨r,bo,o⟩;refine RW F.op (h:={c.push L0 with log:=[]}) (.of (W5.push L0)) (Q5.ext W5 x6) y (b1:=t.next) (b2:=t.next+1) ((x6.old _ ω).trans J) Y (bl _) (eA _) (λd Hh p=>(p.old _ ω ω ω).trans K) ⟨λz b _ _=>x6.old z b,(x6.old _ ω).trans da,⟨r,(x6.old m ω).trans bo,o⟩,z3 _ _,eA _⟩
 ·intro h4 h5 k1 k2 k3 k4 k5 k6 i;obtain⟨O,u1,u2⟩:=i.mem;have D2:=(k5 h.next ω).trans ((i.old _ ω ω ω).trans aw);have D3:=(k5 (h.next+1) ω).trans ((i.old _ ω ω ω).trans be);have D7:=(k5 H.next ω).trans i.n;have Dm:=(k5 m ω).trans u1;have Dq:=(k5 q ω).trans ((i.old _ ω (λe=>by have:=A.gq;rw[e,gm]at this;cases this) ω).trans ((Q q kq).trans A.gq));have dC:∀z∈h5.log,z=m:=λz b=>by
   rcases k1 z b with e|⟨e,e2⟩
   ·rw[cj]at e;cases e
   ·omega
  have s:=u2.put y;rw[←D]at D7;generalize hV:bB w l ns f=V at*;refine Y10 ?_;refine Cb (mm:=O) (f:=f) (n:=V) rfl rfl rfl ρ ρ ρ ρ Dm y (λx hx=>(u2 x hx).1) ω (by(repeat apply aB rfl);exact aQ) ?_;refine Y8 ?_;exact iO (λz b=>(dW b).elim id (dC z)) rfl ⟨by rw[hV];rfl,_,Heap.aM Dm,s⟩
end Go.A.Pk
end
section
namespace Go.A.Pk
variable {T:Nat->Option aq}
def opE(w:List Nat×List Nat)(l:List Pb)(os:List (List Nat)):Int:=if mM w l os≠0 then mM w l os else if nQ w=true then 82 else 0
variable{w:List Nat×List Nat}{l:List Pb}{os:List (List Nat)}
def vw:opE w l os=0↔mM w l os=0/\nQ w=false:=by
 unfold opE;by_cases h1:mM w l os=0
 ·rw[if_neg (by simpa using h1)];cases nQ w<;>simp[h1]
 ·rw[if_pos h1];simp[h1]
def nF(w:List Nat×List Nat)(l:List Pb)(os:List (List Nat)):pI w l os=if opE w l os≠0 then(0,opE w l os)else if 100000<=bB w l (os.map (cE w)) z8 then(0,81)else(bB w l (os.map (cE w)) z8,0):=by
 unfold pI opE;by_cases h1:mM w l os=0
 ·have e:¬ (mM w l os≠0):=λq=>q h1;simp only[if_neg e];cases nQ w<;>simp
 ·simp only[if_pos h1]
def Xp(h:Heap)(w:List Nat×List Nat)(pv ov:Value)(l:List Pb)(os:List (List Nat))(v:Value)(h':Heap):Prop:=
 (opE w l os≠0/\v= .tuple #[.pointer none, zc (opE w l os)])∨(opE w l os=0/\∃q m nv,v= .tuple #[sb q, zc 0]/\h.next<=m/\m<q/\QuH h' q m w pv nv ov l os (os.map (cE w))/\h'.get m=some (.map (kM [])))
structure Ip (T:Nat->Option aq):Prop where
 va:Is T
 ak:T9 T
 lk:Ui T
 f96:T 25=some f96
variable{h:Heap}
def zX(F:Ip T)(hr:Rdy h)(hg:Tab h)(h2:0<h.next)(t:IsW w){Y:Value}(K:PbS h Y l)(hl:l.length<1000000){X:Value}(u:SsQ h X os)(j:os.length<1000000):
 Al T 25 [wV w,Y,X] h (Xp h w Y X l os):=by
 have hp:=F.va.op.qu.p;refine .of hp F.f96 hr ?_ ?_
 ·rintro v h1 C (q|⟨_,q,m,I,rfl,_⟩)
  ·exact .inl q
  ·cases C
 have U:cellsOf (wV w)=wL w:=by show(wL w).toArray.toList=_;simp
 obtain⟨a,c,rfl⟩:=K.form;obtain⟨a3,c3,rfl⟩:=u.sl.form;have Q:∀b o m c,(.slice a3 os.length c3:Value)= .slice (some ⟨b,o,none⟩) m c->b<h.next:=λb o m c e=>by
  rcases aH.inv u.sl with⟨_,C,_⟩|⟨b',o',cap,C,s1,_⟩
  ·rw[C]at e;cases e
  ·rw[C]at e;cases e;exact s1.lt
 have D:Ext h (h.push (qt (cellsOf (wV w)))):=(Ext.refl h).push _;have g0:(h.push (qt (cellsOf (wV w)))).get h.next=some (qt (wL w)):=by rw[U];exact z3 h _
 have n0:(h.push (qt (cellsOf (wV w)))).next=h.next+1:=rfl
 refine Y5 ?_;generalize(h.push (qt (cellsOf (wV w))))=H at*;have W:=D.wf hr.wf;have hL:=D.log.trans hr.log;have wk:=ja t;have ba:=gu t;have Z:=Mm F.ak (h:=η H) (.of W) t ((K.ext D).log []) hl ((u.ext D).log []) j;unfold Xp opE;have i:=j5 (w:=w) (l:=l) (os:=os);generalize mM w l os=er at*;refine Y5 ?_;refine FW.al Z (λv h' m q=>q) ?_;clear Z;rintro _ k E (⟨G,rfl⟩|⟨rfl,q,m,rfl,B,S,aE,gq,gm⟩)
 ·simp only[if_pos G];have g:=E.log.trans hL;have V:zz er 0 false:=jH G;have mn:zB er 0 true:=iY G;refine Y31 ?_;exact cW g rfl (.inl ⟨G,rfl⟩)
 simp only[if_neg (show¬ ((0:Int)≠0)from λq=>q rfl)];obtain⟨_,ae,ar,P,_⟩:=i.1 rfl;clear i;have B:H.next<=m:=B
 have f:=D.trans E;have M:=f.wf hr.wf;have g:=E.log.trans hL;have n1:=E.next
 have aw:=(E.old _ ω).trans g0;have y:=Vu F.ak.ne (h:=η k) (.of M) t;have V:zz 0 0 true:=rfl;cases hm:nQ w with
 |true=>
  rw[hm]at y;have mn:zB 82 0 true:=rfl;refine Y15 ?_;refine FW.pu y ?_;refine Y19 ?_;exact cW g rfl (.inl ⟨by decide,rfl⟩)
 |false=>
 rw[hm]at y;have mn:zB 0 0 false:=rfl;have C5:=R6 F.lk (h:=η k) (.of M) (show Tab k from hg.ext f h2) (by show 0<k.next;omega) (q:=q) ω t gq ((u.ext f).log []) j (λb o m c e=>by have:=Q b o m c e;omega);refine Y15 ?_;refine FW.pu y ?_;clear y;refine Y16 ?_;refine FW.gs0 C5 (λv h' m q=> ?_) (λz hz=>ω) ?_
 ·obtain⟨o5,I,q1,q2⟩:=q;exact⟨o5,I,q1,q2.log m⟩
 rintro _ L n4 l4 _ w4 ⟨J,I,N,sn⟩;clear C5;have J:∀z,z<k.next->z≠q->L.get z=k.get z:=J
 have W4:=w4 M;have O:=l4.trans g;have d:∀{sz n:Nat} {v:Value} {cs:List Value},aH h sz v n cs->aH L sz v n cs:=λs=>aH.YM s ω λz hz=>(J z ω ω).trans (f.old z hz);have A:L.get m=some (.map (kM [])):=(J m ω ω).trans gm;refine Y7 ?_;refine cW O rfl (.inr ⟨rfl,q,m,I,rfl,ω,S,⟨t,N,⟨d K.sl,K.ok⟩,P,⟨d u.sl,u.ok⟩,j,sn,by rw[j3],λr hr=> ?_,[],A,λx hx=>by cases hx⟩,A⟩);obtain⟨o,_,rfl⟩:=List.mem_map.1 hr;exact xj (nr w o) (by decide)
structure Ug (T:Nat->Option aq):Prop where
 od:Ip T
 f39:T 6=some f39
def U2(F:Ug T)(hr:Rdy h)(M:Tab h)(L:0<h.next)(r:IsW w){C:Value}(E:PbS h C l)(N:l.length<1000000){B:Value}(D:SsQ h B os)(n:os.length<1000000):
 Pu T 6 [wV w,C,B] h (.tuple #[zc (pI w l os).1, zc (pI w l os).2]):=by
 have O:=F.od.va.op.qu.p;refine .of O F.f39 hr rfl ?_;have s:cellsOf (wV w)=wL w:=by show(wL w).toArray.toList=_;simp
 obtain⟨a,c,rfl⟩:=E.form;obtain⟨Y,Z,rfl⟩:=D.sl.form;have k:Ext h (h.push (qt (cellsOf (wV w)))):=(Ext.refl h).push _;have g0:(h.push (qt (cellsOf (wV w)))).get h.next=some (qt (wL w)):=by rw[s];exact z3 h _
 have n0:(h.push (qt (cellsOf (wV w)))).next=h.next+1:=rfl
 refine Y5 ?_;generalize(h.push (qt (cellsOf (wV w))))=H at*;have W:=k.wf hr.wf;have y:=k.log.trans hr.log;have wk:=ja r;have U:=gu r;have u:=zX F.od (h:=η H) (.of W) (show Tab H from M.ext k L) (by show 0<H.next;omega) r ((E.ext k).log []) N ((D.ext k).log []) n;rw[nF];refine Y5 ?_;refine FW.al u (λv K m q=> ?_) ?_
 ·rcases q with q|⟨e,q,m',A,e1,e2,e3,e4,e5⟩
  ·exact .inl q
  ·exact .inr ⟨e,q,m',A,e1,e2,e3,e4.log m,e5⟩
 clear u;rintro _ G t (⟨g,rfl⟩|⟨g,q,m,A,rfl,i,P,I,gm⟩)
 ·rw[if_pos g];generalize opE w l os=er at*;have b:=t.log.trans y;have S:zB er 0 true:=iY g;refine Y19 ?_;exact an b rfl rfl
 rw[if_neg (λq=>q g)];have i:H.next<=m:=i
 have J:=t.wf W;have b:=t.log.trans y;have S:zB 0 0 false:=rfl;have o:=qH (j5.1 (vw.1 g).1).2.2.2.2;have x:=nZ F.od.va o _ (h:=η G) (.of J) (I.log []) (f:=z8) rfl (bl _);generalize hV:bB w l (os.map (cE w)) z8=V at*;have j:af .geq (zc V) (zc 100000)=some (.bool (decide (100000<=V))):=BB;refine Y18 ?_;refine FW.gs0 x (λv K m q=>q) (λz hz=>ω) ?_;clear x;rintro _ X n2 Q _ w2 ⟨rfl,_⟩;have d:=Q.trans b;rw[hV];by_cases hge:100000<=V
 ·rw[decide_eq_true hge]at j;rw[if_pos hge];refine Y14 ?_;exact an d rfl rfl
 ·rw[decide_eq_false hge]at j;rw[if_neg hge];refine Y16 ?_;exact an d rfl rfl
structure abI (R ks:List Int):Prop where
 mem:∀c,c∈ks↔c∈R
 nd:(R.filter λi=>decide (i≠ -1)).Nodup
def KT{s:List Fk}{i:Nat}{x:Fk}(a:s[i]? =some x):ek (s.take (i+1))=ek (s.take i)++[x.yes]++[x.no]:=by
 rw[eY a,BM];simp[ek]
end Go.A.Pk
end
