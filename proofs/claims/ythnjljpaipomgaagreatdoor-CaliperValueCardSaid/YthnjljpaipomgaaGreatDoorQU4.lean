/- Walks of functions, plain laws, the table. -/
import Derived.Test.YthnjljpaipomgaaGreatDoorQU3
import Derived.Test.YthnjljpaipomgaaGreatDoorQF
import Derived.Test.YthnjljpaipomgaaGreatDoorQU2
import Derived.Test.YthnjljpaipomgaaGreatDoorQD
set_option linter.all false
set_option maxRecDepth 100000
section
namespace Go.A.Pk
variable {T:Nat->Option aq}
variable{h:Heap}{v:Value}{n:Nat}{cs:List Value}
theorem Rq(s:aJ h 1 v n cs){i:Nat}{x:Value}(hi:cs[i]? =some x):
 ∃b o c e a t,v= .slice (some ⟨b,o,none⟩) n c/\h.get b=some (.cells e a t)/\b<h.next/\bK e (o+i*1)=some x:=by
 have d:=(List.getElem?_eq_some_iff.1 hi).1;rcases aJ.inv s with⟨_,_,h0,hc⟩|⟨b,o,cap,hs,s3,hc⟩
 ·rw[hc]at d;simp at d
 ·obtain⟨e,a,t,g,f⟩:=s3.obj;have hl:=s3.len;refine⟨b,o,cap,e,a,t,hs,g,s3.lt,?_⟩;rw[bQ,aW]at f;rw[←f,gS (by omega),me]at hi;rw[cH,rt];exact hi
def eX(l:List Nat):List Nat:=l++List.replicate (8-l.length) 0
theorem nS{l:List Nat}(h:l.length<=8):(eX l).length=8:=by unfold eX;rw[ec,List.length_replicate];omega
def z8:List Nat:=[0,0,0,0,0,0,0,0]
theorem RV(f:List Nat)(i k:Nat):(fL f).set (0+i*1) (.int .u8 (k:Nat))=fL (f.set i k):=by
 rw[hX,rt];unfold fL;rw[List.map_set]
variable{a lo sz:Nat}{h':Heap}
theorem Own.Vf(b:cE v=true)(q:Own lo h sz v n cs):Own a h' sz v n cs:=by
 cases q with
 |nil=>exact .nil
 |full=>cases b
def InC(s:List Nat)(x y z:Nat):Prop:=(x:Int)<=7-(jV s).1.hi.x/\(y:Int)<=7-(jV s).1.hi.y/\(z:Int)<=7-(jV s).1.hi.z
def XI(a:List Nat)(im:List (List Nat))(p:List Nat):Prop:=∃s∈im,∃x y z:Nat,InC s x y z/\y7 (shC x y z) s=p/\sIn p a=true
structure PlI (a:List Nat) (im:List (List Nat)) (i z y x:Nat) (l:List (List Nat)):Prop where
 ok:∀p∈l,IsS p
 pw:l.Pairwise SLt
 sound:∀p∈l,XI a im p
 comp:∀j s,im[j]? =some s->∀x' y' z':Nat,InC s x' y' z'→(j<i∨j=i/\(z'<z∨z'=z/\(y'<y∨y'=y/\x'<x)))->sIn (y7 (shC x' y' z') s) a=true->y7 (shC x' y' z') s∈l
theorem Own.Ve{u:Value}{k:Int}(b:cE (.tuple #[u, .int .i64 k])=true)(q:Own lo h sz u n cs):Own a h' sz u n cs:=by
 cases q with
 |nil=>exact .nil
 |full h1 h2 h3 h4 h5=>
  simp[cE,jf,cZ,flat,mL,jY]at b;try cases b.1
theorem aJ.uO(s:aJ h sz v n cs)(e:h.next<=h'.next)(d:∀z,z<h.next->h'.get z=h.get z):aJ h' sz v n cs:=by
 cases s with
 |nil=>exact .nil
 |mem s hc=>
  obtain⟨f,a,t,b,c⟩:=s.obj;exact .mem ⟨hK s.lt e,⟨f,a,t,(d _ s.lt).trans b,c⟩,s.len⟩ hc
structure X8 (t:List Nat) (l:List Pb) (f:List Nat):Prop where
 len:f.length=l.length
 at':∀(i:Nat) (p:Pb) (k:Nat),l[i]? =some p->f[i]? =some k->k=0∨k=WH t p
section
variable {w:List Nat×List Nat} (hw:IsW w) {t:List Nat} (ht:IsS t) (h1:Sub w.1 t) (h2:Sub t w.2) {l:List Pb} (hl:∀p∈l,IsS p.cells)
include hw ht h1 h2 hl
end
def mnF(g:Nat->Int)(L:List Nat)(c:Int):Int:=L.foldl (λn p=>min n (g p)) c
theorem mR(g:Nat->Int):∀(L:List Nat) (c:Int),mnF g L c<=c
 |[],c=>Int.le_refl c
 |p::L,c=>Int.le_trans (mR g L (min c (g p))) (Int.min_le_left _ _)
theorem A8(g:Nat->Int):∀{L:List Nat} {c:Int} {p:Nat},p∈L->mnF g L c<=g p
 |x::L,c,p,h=>by
  rcases List.mem_cons.1 h with rfl|h
  ·exact Int.le_trans (mR g L (min c (g p))) (Int.min_le_right _ _)
  ·exact A8 g (L:=L) (c:=min c (g x)) h
theorem A4{g:Nat->Int}{d:Int}:∀{L:List Nat} {c:Int},d<=c->(∀p∈L,d<=g p)->d<=mnF g L c
 |[],c,h,_=>h
 |p::L,c,h,hl=>A4 (L:=L) (Int.le_min.2 ⟨h,hl p b6⟩) λx hx=>hl x (bz _ hx)
theorem zO{g a:Nat->Int}:∀{L:List Nat} {c:Int},(∀p∈L,g p=a p)->mnF g L c=mnF a L c
 |[],_,_=>rfl
 |p::L,c,h=>by
  show mnF g L (min c (g p))=mnF a L (min c (a p));rw[h p b6];exact zO λx hx=>h x (bz _ hx)
theorem EG(g:Nat->Int):∀(L:List Nat) (c:Int),mnF g L c=c∨∃p∈L,mnF g L c=g p
 |[],c=> .inl rfl
 |p::L,c=>by
  show mnF g L (min c (g p))=c∨∃x∈p::L,mnF g L (min c (g p))=g x;rcases EG g L (min c (g p))with h|⟨x,hx,h⟩
  ·rw[h];rcases Int.le_total c (g p)with q|q
   ·exact .inl (Int.min_eq_left q)
   ·exact .inr ⟨p,b6,Int.min_eq_right q⟩
  ·exact .inr ⟨x,bz _ hx,h⟩
theorem K9(g:Nat->Int)(L:List Nat)(c:Int)(p:Nat):mnF g (L++[p]) c=min (mnF g L c) (g p):=by
 unfold mnF;rw[yr];rfl
def bG(n:Nat)(f:List Nat):List Nat:=(List.range n).filter λp=>decide (f.getD p 0=0)
variable{n p:Nat}{f:List Nat}
theorem fB:p∈bG n f↔p<n/\f.getD p 0=0:=by
 unfold bG;rw[List.mem_filter,List.mem_range,decide_eq_true_eq]
theorem tZ(n:Nat)(f:List Nat):bG (n+1) f=bG n f++(if f.getD n 0=0 then [n]else []):=by
 unfold bG;rw[A1,wi];congr 1;by_cases h:f.getD n 0=0
 ·rw[if_pos h,zz (by rw[decide_eq_true_eq];exact h)];rfl
 ·rw[if_neg h,xi (by rw[decide_eq_true_eq];exact h)];rfl
variable{a:Nat}
theorem sY{x:Nat}(b:p<f.length):(f.set p a).getD x 0=if x=p then a else f.getD x 0:=by
 rw[kK,kK,zc];by_cases h:p=x
 ·rw[if_pos h,if_pos h.symm,if_pos (by omega)];rfl
 ·rw[if_neg h,if_neg (λq=>h q.symm)]
theorem KP(c:p<f.length)(b:a≠0):bG n (f.set p a)=(bG n f).filter λx=>decide (x≠p):=by
 unfold bG;rw[List.filter_filter];refine yn λx _=> ?_;rw[sY c];by_cases h:x=p
 ·rw[if_pos h,decide_eq_false b,decide_eq_false (by simpa using h)];rfl
 ·rw[if_neg h,decide_eq_true h,rn]
theorem jm(d:p<f.length)(b:a≠0)(c:p∈bG n f):(bG n (f.set p a)).length<(bG n f).length:=by
 rw[KP d b,List.length_filter_lt_length_iff_exists];exact⟨p,c,by simp⟩
theorem jL(n:Nat)(f:List Nat):(bG n f).length<=n:=by
 unfold bG;exact gd (Co _ _) (by rw[List.length_range];exact bl _)
section
variable (w:List Nat×List Nat) (l:List Pb) (ns:List (List (List Nat)))
def eG(f:List Nat):Bool:=bsB w (l.zip f)&&ns.any λr=>decide (y5 (l.zip f) (bsS w.1 (l.zip f)) r=3)
def dx(p:Nat):Int:=(l.getD p ⟨s0,0⟩).cost
def jW:Nat->List Nat->Int
 |0,f=>if eG w l ns f then 100000 else 0
 |k+1,f=>if eG w l ns f then mnF (λp=>dx l p+max (jW k (f.set p 1)) (jW k (f.set p 2))) (bG l.length f) 100000 else 0
def bT(f:List Nat):Int:=jW w l ns l.length f
end
variable {w:List Nat×List Nat} {l:List Pb} {ns:List (List (List Nat))}
theorem u9:∀{k k':Nat} {f:List Nat},l.length<=f.length->(bG l.length f).length<=k->k<=k'→jW w l ns k' f=jW w l ns k f
 |0,0,f,_,_,_=>rfl
 |0,k'+1,f,_,h,_=>by
  have:bG l.length f=[]:=List.eq_nil_of_length_eq_zero (by omega);simp only[jW,this,mnF,List.foldl_nil]
 |k+1,0,f,_,_,h=>by omega
 |k+1,k'+1,f,hf,h,hk=>by
  have c:∀p∈bG l.length f,∀a,a≠0->jW w l ns k' (f.set p a)=jW w l ns k (f.set p a):=λp b a d=>by
   have e:=(fB.1 b).1;have:=jm (a:=a) (by omega) d b;exact u9 (by rw[lp];exact hf) (by omega) (by omega)
  simp only[jW];rw[zO λp b=>(show dx l p+max (jW w l ns k' (f.set p 1)) (jW w l ns k' (f.set p 2))=dx l p+max (jW w l ns k (f.set p 1)) (jW w l ns k (f.set p 2))by rw[c p b 1 (by omega),c p b 2 (by omega)])]
theorem qT{f:List Nat}(a:l.length<=f.length):bT w l ns f=if eG w l ns f then mnF (λp=>dx l p+max (bT w l ns (f.set p 1)) (bT w l ns (f.set p 2))) (bG l.length f) 100000 else 0:=by
 unfold bT;have h1:=jL l.length f;rw[←u9 (k':=l.length+1) a h1 (by omega)];simp only[jW]
theorem GM(b:∀p∈l,0<=p.cost):∀{k:Nat} {f:List Nat},0<=jW w l ns k f/\jW w l ns k f<=100000
 |0,f=>by unfold jW;split<;>omega
 |k+1,f=>by
  unfold jW;split
  ·refine⟨A4 (by omega) λp hp=> ?_,mR _ _ _⟩;have h1:0<=dx l p:=by
    have a:=(fB.1 hp).1;unfold dx;rw[kK,bx a];exact b _ (sm a)
   have h2:=(GM b (k:=k) (f:=f.set p 1)).1;have c:=Int.le_max_left (jW w l ns k (f.set p 1)) (jW w l ns k (f.set p 2));omega
  ·omega
theorem gN(a:∀p∈l,0<=p.cost)(f:List Nat):0<=bT w l ns f/\bT w l ns f<=100000:=GM a
def pz(w:List Nat×List Nat)(l:List Pb)(os:List (List Nat)):Int×Int:=
 if pe w l os≠0 then(0,pe w l os)else if th w=true then(0,82)else if 100000<=bT w l (os.map (dR w)) z8 then(0,81)else(bT w l (os.map (dR w)) z8,0)
theorem j4{w:List Nat×List Nat}{l:List Pb}{os:List (List Nat)}:pe w l os=0↔sIn w.1 w.2=true/\os.length<=6/\os.any (λs=>decide (s=s0))=false/\l.length<=8/\l.any oT=false:=by
 unfold pe prE;cases sIn w.1 w.2<;>cases os.any (λs=>decide (s=s0))<;>cases l.any oT<;>by_cases h6:6<os.length<;>by_cases h8:8<l.length<;>simp[h6,h8]<;>omega
theorem qP{l:List Pb}(h:l.any oT=false):∀p∈l,1<=p.cost/\p.cost<=1000:=λp a=>by
 have:=List.any_eq_false.1 h p a;unfold oT inR at this;simp at this;exact this.2
theorem Wo{n:Nat}(h:n<8):z8[n]? =some 0:=by
 match n,h with
 |0,_=>rfl
 |1,_=>rfl
 |2,_=>rfl
 |3,_=>rfl
 |4,_=>rfl
 |5,_=>rfl
 |6,_=>rfl
 |7,_=>rfl
structure Fk where
 probe:Int
 yes:Int
 no:Int
def fS(s:List Fk):List Int:=s.flatMap λx=>[x.yes,x.no]
theorem xV(x:Fk)(s:List Fk):fS (x::s)=x.yes::x.no::fS s:=rfl
theorem uv(a b:List Fk):fS (a++b)=fS a++fS b:=by unfold fS;rw[vy]
section
variable (w:List Nat×List Nat) (l:List Pb) (ns:List (List (List Nat))) (s:List Fk)
def jD(cost:Int):Nat->List Nat->Int->Int->Int->Option Nat
 |0,_,_,_,_=>none
 |k+1,f,at_,from_,paid=>
  if at_= -1 then(if eG w l ns f=true then none else some 0)else
  if eG w l ns f=true/\from_<at_/\at_<s.length then
   match s[at_.toNat]? with
   |none=>none
   |some x=>
    if(0<=x.probe/\x.probe<l.length)/\f.getD x.probe.toNat 0=0 then
     if paid+dx l x.probe.toNat<=cost then
      match jD cost k (f.set x.probe.toNat 1) x.yes at_ (paid+dx l x.probe.toNat)with
      |none=>none
      |some a=>match jD cost k (f.set x.probe.toNat 2) x.no at_ (paid+dx l x.probe.toNat)with
       |none=>none
       |some b=>some (a+b+1)
     else none
    else none
  else none
end
def DO(s:List Fk):Prop:=((fS s).filter λi=>decide (i≠ -1)).Nodup
def wB(s:List Fk):Int:=if s.length=0 then -1 else 0
def se(w:List Nat×List Nat)(l:List Pb)(ns:List (List (List Nat)))(s:List Fk)(cost:Int):Prop:=
 (s.length=0->0<=cost)/\DO s/\jD w l ns s cost 10 z8 (wB s) (-1) 0=some s.length
theorem Fl{s:List Fk}:DO s↔ ∀c:Int,c≠ -1->(fS s).count c<=1:=by
 unfold DO;rw[List.nodup_iff_count];constructor
 ·intro h c a;have:=h c
  rwa [List.count_filter (by simpa using a)]at this
 ·intro h c;by_cases a:c= -1
  ·subst a;rw[List.count_eq_zero.2 (by simp)];omega
  ·rw[List.count_filter (by simpa using a)];exact h c a
def fR(g:Nat->Int):List Nat->Nat
 |[]=>0
 |x::L=>L.foldl (λb y=>if g y<g b then y else b) x
theorem td(g:Nat->Int):∀(L:List Nat) (x:Nat),(L.foldl (λb y=>if g y<g b then y else b) x=x∨L.foldl (λb y=>if g y<g b then y else b) x∈L)/\g (L.foldl (λb y=>if g y<g b then y else b) x)<=g x/\∀y∈L,g (L.foldl (λb y=>if g y<g b then y else b) x)<=g y
 |[],x=>⟨.inl rfl,Int.le_refl _,λy hy=>(by cases hy)⟩
 |y::L,x=>by
  have ih:=td g L (if g y<g x then y else x);rw[List.foldl_cons];by_cases h:g y<g x
  ·rw[if_pos h]at ih⊢;refine⟨.inr ?_,by omega,λu a=> ?_⟩
   ·rcases ih.1 with q|q
    ·rw[q];exact b6
    ·exact bz _ q
   ·rcases List.mem_cons.1 a with rfl|a
    ·exact ih.2.1
    ·exact ih.2.2 u a
  ·rw[if_neg h]at ih⊢;refine⟨ih.1.imp id (bz _),ih.2.1,λu a=> ?_⟩;rcases List.mem_cons.1 a with rfl|a
   ·omega
   ·exact ih.2.2 u a
variable{L:List Nat}
theorem Gd{g:Nat->Int}(h:L≠[]):fR g L∈L:=by
 cases L with
 |nil=>exact absurd rfl h
 |cons x L=>
  rcases(td g L x).1 with q|q
  ·show L.foldl _ x∈_;rw[q];exact b6
  ·exact bz _ q
theorem Sf{g:Nat->Int}{y:Nat}(h:y∈L):g (fR g L)<=g y:=by
 cases L with
 |nil=>cases h
 |cons x L=>
  rcases List.mem_cons.1 h with rfl|h
  ·exact(td g L y).2.1
  ·exact(td g L x).2.2 y h
section
variable (w:List Nat×List Nat) (l:List Pb) (ns:List (List (List Nat)))
def ei(f:List Nat)(p:Nat):Int:=dx l p+max (bT w l ns (f.set p 1)) (bT w l ns (f.set p 2))
def eN:Nat->List Nat->Nat->Int×List Fk
 |0,_,_=>(-1,[])
 |k+1,f,a=>if bT w l ns f=0 then(-1,[])else
  ((a:Int),⟨(fR (ei w l ns f) (bG l.length f):Nat),(eN k (f.set (fR (ei w l ns f) (bG l.length f)) 1) (a+1)).1,(eN k (f.set (fR (ei w l ns f) (bG l.length f)) 2) (a+1+(eN k (f.set (fR (ei w l ns f) (bG l.length f)) 1) (a+1)).2.length)).1⟩::
    ((eN k (f.set (fR (ei w l ns f) (bG l.length f)) 1) (a+1)).2++(eN k (f.set (fR (ei w l ns f) (bG l.length f)) 2) (a+1+(eN k (f.set (fR (ei w l ns f) (bG l.length f)) 1) (a+1)).2.length)).2))
end
section
variable {w:List Nat×List Nat} {l:List Pb} {ns:List (List (List Nat))}
theorem lW(a:∀p∈l,1<=p.cost/\p.cost<=1000){p:Nat}(h:p<l.length):1<=dx l p/\dx l p<=1000:=by
 unfold dx;rw[kK,bx h];exact a _ (sm h)
theorem hc0(a:∀p∈l,1<=p.cost/\p.cost<=1000):∀p∈l,0<=p.cost:=λp b=>by have:=(a p b).1;omega
variable{f:List Nat}
theorem jA(a:∀p∈l,1<=p.cost/\p.cost<=1000)(b:l.length<=f.length):(eG w l ns f=true↔1<=bT w l ns f)/\(eG w l ns f=false↔bT w l ns f=0):=by
 have h:=qT (w:=w) (ns:=ns) b;cases ho:eG w l ns f with
 |true=>
  rw[ho,if_pos rfl]at h;have:1<=bT w l ns f:=by
   rw[h];refine A4 (by omega) λp c=> ?_;have h1:=(lW a (fB.1 c).1).1;have h2:=(gN (w:=w) (ns:=ns) (hc0 a) (f.set p 1)).1;omega
  exact⟨⟨λ_=>this,λ_=>rfl⟩,⟨λq=>(by cases q),λq=>(by omega)⟩⟩
 |false=>
  rw[ho,if_neg (by simp)]at h;exact⟨⟨λq=>(by cases q),λq=>(by omega)⟩,⟨λ_=>h,λ_=>rfl⟩⟩
theorem yx(b:∀p∈l,1<=p.cost/\p.cost<=1000):∀{k:Nat} {f:List Nat},l.length<=f.length->jW w l ns k f=100000∨jW w l ns k f<=1000*((bG l.length f).length:Int)
 |0,f,_=>by unfold jW;split<;>omega
 |k+1,f,hf=>by
  unfold jW;split
  ·rcases EG (λp=>dx l p+max (jW w l ns k (f.set p 1)) (jW w l ns k (f.set p 2))) (bG l.length f) 100000 with q|⟨p,hp,q⟩
   ·exact .inl q
   ·have hpl:=(fB.1 hp).1;have c:=mR (λp=>dx l p+max (jW w l ns k (f.set p 1)) (jW w l ns k (f.set p 2))) (bG l.length f) 100000;have h1:=lW b hpl;have h2:=yx b (k:=k) (f:=f.set p 1) (by rw[lp];exact hf);have d:=yx b (k:=k) (f:=f.set p 2) (by rw[lp];exact hf);have e:=jm (a:=1) (hK hpl hf) (by omega) hp;have g:=jm (a:=2) (hK hpl hf) (by omega) hp;omega
  ·omega
theorem D4(a:∀p∈l,1<=p.cost/\p.cost<=1000)(f:List Nat)(b:l.length<=f.length:=by first|assumption|(rw[lp];assumption)):bT w l ns f=100000∨bT w l ns f<=1000*((bG l.length f).length:Int):=yx a b
theorem yy(e:∀p∈l,1<=p.cost/\p.cost<=1000)(a:l.length<=f.length)(d:bT w l ns f≠0)(h1:bT w l ns f<100000):fR (ei w l ns f) (bG l.length f)∈bG l.length f/\bT w l ns f=ei w l ns f (fR (ei w l ns f) (bG l.length f)):=by
 have h:=qT (w:=w) (ns:=ns) a;cases ho:eG w l ns f with
 |false=>exact absurd ((jA e a).2.1 ho) d
 |true=>
  rw[ho,if_pos rfl]at h;rcases EG (λp=>dx l p+max (bT w l ns (f.set p 1)) (bT w l ns (f.set p 2))) (bG l.length f) 100000 with q|⟨p,hp,q⟩
  ·omega
  ·have b:fR (ei w l ns f) (bG l.length f)∈bG l.length f:=Gd (List.ne_nil_of_mem hp);refine⟨b,?_⟩;have i:=Sf (g:=ei w l ns f) hp;have j:=A8 (λp=>dx l p+max (bT w l ns (f.set p 1)) (bT w l ns (f.set p 2))) (c:=100000) b;have k:ei w l ns f p=dx l p+max (bT w l ns (f.set p 1)) (bT w l ns (f.set p 2)):=rfl;have m:ei w l ns f (fR (ei w l ns f) (bG l.length f))=dx l (fR (ei w l ns f) (bG l.length f))+max (bT w l ns (f.set (fR (ei w l ns f) (bG l.length f)) 1)) (bT w l ns (f.set (fR (ei w l ns f) (bG l.length f)) 2)):=rfl;omega
theorem MZ:∀{k:Nat} {f:List Nat} {a:Nat},((eN w l ns k f a).1= -1/\(eN w l ns k f a).2=[]∨(eN w l ns k f a).1=a/\0<(eN w l ns k f a).2.length)/\∀c:Int,c≠ -1->(fS (eN w l ns k f a).2).count c<=(if(a:Int)<c/\c<a+(eN w l ns k f a).2.length then 1 else 0):=by
 intro k;induction k with
 |zero=>intro f a;exact⟨.inl ⟨rfl,rfl⟩,λc _=>by simp[eN,fS]⟩
 |succ k ih=>
  intro f a;unfold eN;by_cases hv:bT w l ns f=0
  ·rw[if_pos hv];exact⟨.inl ⟨rfl,rfl⟩,λc _=>by simp[fS]⟩
  ·rw[if_neg hv];generalize fR (ei w l ns f) (bG l.length f)=b;obtain⟨d,e⟩:=ih (f:=f.set b 1) (a:=a+1);generalize eN w l ns k (f.set b 1) (a+1)=r1 at*;obtain⟨g,h⟩:=ih (f:=f.set b 2) (a:=a+1+r1.2.length);generalize eN w l ns k (f.set b 2) (a+1+r1.2.length)=r2 at*;refine⟨.inr ⟨rfl,by simp⟩,λc m=> ?_⟩;have i:=e c m;have j:=h c m;dsimp only;rw[xV,uv,List.count_cons,List.count_cons,List.count_append,pm,ec];have n:(r1.1= -1/\r1.2.length=0)∨(r1.1=((a+1:Nat):Int)/\0<r1.2.length):=d.imp (λq=>⟨q.1,by rw[q.2];rfl⟩) id;have o:(r2.1= -1/\r2.2.length=0)∨(r2.1=((a+1+r1.2.length:Nat):Int)/\0<r2.2.length):=g.imp (λq=>⟨q.1,by rw[q.2];rfl⟩) id;have p:(fS r1.2).count c=0∨((fS r1.2).count c=1/\((a+1:Nat):Int)<c/\c<((a+1:Nat):Int)+r1.2.length):=by split at i<;>omega
   have r:(fS r2.2).count c=0∨((fS r2.2).count c=1/\((a+1+r1.2.length:Nat):Int)<c/\c<((a+1+r1.2.length:Nat):Int)+r2.2.length):=by split at j<;>omega
   have s:((if(r1.1==c)=true then 1 else 0)=0/\r1.1≠c)∨((if(r1.1==c)=true then 1 else 0)=1/\r1.1=c):=by
    by_cases q:r1.1=c
    ·right;exact⟨if_pos (by simpa using q),q⟩
    ·left;exact⟨if_neg (by simpa using q),q⟩
   have t:((if(r2.1==c)=true then 1 else 0)=0/\r2.1≠c)∨((if(r2.1==c)=true then 1 else 0)=1/\r2.1=c):=by
    by_cases q:r2.1=c
    ·right;exact⟨if_pos (by simpa using q),q⟩
    ·left;exact⟨if_neg (by simpa using q),q⟩
   clear d e g h i j;generalize(if(r1.1==c)=true then 1 else 0)=E1 at*;generalize(if(r2.1==c)=true then 1 else 0)=E2 at*;generalize(fS r1.2).count c=K1 at*;generalize(fS r2.2).count c=K2 at*;split<;>omega
theorem P6(d:∀p∈l,1<=p.cost/\p.cost<=1000){s:List Fk}{cost:Int}:∀{k:Nat} {f:List Nat} {a:Nat} {fr paid:Int},l.length<=f.length->(bG l.length f).length<k->bT w l ns f<100000->paid+bT w l ns f<=cost->fr<a→
 (∀i,i<(eN w l ns k f a).2.length->s[a+i]? =(eN w l ns k f a).2[i]?)->jD w l ns s cost k f (eN w l ns k f a).1 fr paid=some (eN w l ns k f a).2.length:=by
 intro k;induction k with
 |zero=>intro f a fr paid _ h;omega
 |succ k ih=>
  intro f a fr paid e E h1 F A o;unfold eN at o⊢;by_cases hv:bT w l ns f=0
  ·rw[if_pos hv];unfold jD;rw[if_pos rfl,(jA d e).2.2 hv];rfl
  ·rw[if_neg hv]at o⊢;obtain⟨j,m⟩:=yy d e hv h1;obtain⟨g,q⟩:=fB.1 j;have z:∀x,bT w l ns (f.set (fR (ei w l ns f) (bG l.length f)) x)=bT w l ns (f.set (fR (ei w l ns f) (bG l.length f)) x):=λ_=>rfl;have y:=lW d g;unfold ei at m;have n:=λx (B:x≠0)=>jm (a:=x) (hK g e) B j;change bT w l ns f=dx l (fR (ei w l ns f) (bG l.length f))+max (bT w l ns (f.set (fR (ei w l ns f) (bG l.length f)) 1)) (bT w l ns (f.set (fR (ei w l ns f) (bG l.length f)) 2))at m;clear z;generalize fR (ei w l ns f) (bG l.length f)=b at*;have c:=o 0 (by simp);have r:∀i,i<(eN w l ns k (f.set b 1) (a+1)).2.length->s[a+1+i]? =(eN w l ns k (f.set b 1) (a+1)).2[i]? :=λi u=>by
    have:=o (i+1) (by simp;omega);rw[show a+(i+1)=a+1+i by omega,zB,hG u]at this;exact this
   have t:∀i,i<(eN w l ns k (f.set b 2) (a+1+(eN w l ns k (f.set b 1) (a+1)).2.length)).2.length->s[a+1+(eN w l ns k (f.set b 1) (a+1)).2.length+i]? =(eN w l ns k (f.set b 2) (a+1+(eN w l ns k (f.set b 1) (a+1)).2.length)).2[i]? :=λi u=>by
    have:=o ((eN w l ns k (f.set b 1) (a+1)).2.length+i+1) (by simp;omega);rw[show a+((eN w l ns k (f.set b 1) (a+1)).2.length+i+1)=a+1+(eN w l ns k (f.set b 1) (a+1)).2.length+i by omega,zB,gK (by omega),sb]at this;exact this
   have C:=ih (f:=f.set b 1) (a:=a+1) (fr:=a) (paid:=paid+dx l b) (by rw[lp];exact e) (by have:=n 1 (by omega);omega) (by omega) (by omega) (by omega) r;have D:=ih (f:=f.set b 2) (a:=a+1+(eN w l ns k (f.set b 1) (a+1)).2.length) (fr:=a) (paid:=paid+dx l b) (by rw[lp];exact e) (by have:=n 2 (by omega);omega) (by omega) (by omega) (by omega) t;generalize eN w l ns k (f.set b 1) (a+1)=r1 at*;generalize eN w l ns k (f.set b 2) (a+1+r1.2.length)=r2 at*;rw[ww,List.getElem?_cons_zero]at c;have v:=(List.getElem?_eq_some_iff.1 c).1;unfold jD;dsimp only;rw[if_neg (by omega),if_pos ⟨(jA d e).1.2 (by have:=(gN (w:=w) (ns:=ns) (hc0 d) f).1;omega),by omega,by omega⟩];rw[show((a:Int)).toNat=a from rfl];simp only[c];rw[show((b:Int)).toNat=b from rfl,if_pos ⟨⟨by omega,by omega⟩,q⟩,if_pos (by have:=(gN (w:=w) (ns:=ns) (hc0 d) (f.set b 1)).1;omega)];simp only[C,D,pm,ec]
def Fu(w:List Nat×List Nat)(l:List Pb)(ns:List (List (List Nat))):List Fk:=(eN w l ns 10 z8 0).2
theorem Tm(e:∀p∈l,1<=p.cost/\p.cost<=1000)(h:l.length<=8){cost:Int}(h1:bT w l ns z8<100000)(m:bT w l ns z8<=cost):se w l ns (Fu w l ns) cost:=by
 have g:=MZ (w:=w) (l:=l) (ns:=ns) (k:=10) (f:=z8) (a:=0);have b:wB (Fu w l ns)=(eN w l ns 10 z8 0).1:=by
  unfold wB Fu;rcases g.1 with⟨q1,q2⟩|⟨q1,q2⟩
  ·rw[q1,q2];rfl
  ·rw[q1,if_neg (by omega)];rfl
 have j:=(gN (w:=w) (ns:=ns) (hc0 e) z8).1;refine⟨λ_=>by omega,Fl.2 λc d=> ?_,?_⟩
 ·have:=g.2 c d;unfold Fu;split at this<;>omega
 ·rw[b];refine P6 e (f:=z8) (a:=0) h (by have:=jL l.length z8;omega) h1 (by omega) (by decide) λi _=> ?_;rw[hX];rfl
theorem Qm(g:∀p∈l,1<=p.cost/\p.cost<=1000)(v:l.length<=8){s:List Fk}{cost:Int}:∀{k:Nat} {f:List Nat} {a fr paid:Int} {m:Nat},l.length<=f.length->jD w l ns s cost k f a fr paid=some m->(a= -1->paid<=cost)->paid+bT w l ns f<=cost/\bT w l ns f<100000:=by
 intro k;induction k with
 |zero=>intro f a fr paid m _ h;simp[jD]at h
 |succ k ih=>
  intro f a fr paid m i h j;unfold jD at h;by_cases ha:a= -1
  ·rw[if_pos ha]at h;split at h
   ·cases h
   ·rename_i ho;have:=(jA (w:=w) (ns:=ns) g i).2.1 (by simpa using ho);have:=j ha;omega
  ·rw[if_neg ha]at h;split at h
   ·rename_i hcc;split at h
    ·cases h
    ·rename_i x hx;split at h
     ·rename_i hpr;split at h
      ·rename_i hpay;split at h
       ·cases h
       ·rename_i m1 hm1;split at h
        ·cases h
        ·rename_i m2 hm2;have y:=ih (by rw[lp];exact i) hm1 (λ_=>hpay);have z:=ih (by rw[lp];exact i) hm2 (λ_=>hpay);have d:x.probe.toNat<l.length:=by omega
         have b:x.probe.toNat∈bG l.length f:=fB.2 ⟨d,hpr.2⟩;have e:=qT (w:=w) (ns:=ns) i;rw[hcc.1,if_pos rfl]at e;have n:=A8 (λp=>dx l p+max (bT w l ns (f.set p 1)) (bT w l ns (f.set p 2))) (c:=100000) b;have o:=lW g d;have q:=D4 (w:=w) (ns:=ns) g (f.set x.probe.toNat 1);have r:=D4 (w:=w) (ns:=ns) g (f.set x.probe.toNat 2);have t:=jL l.length (f.set x.probe.toNat 1);have u:=jL l.length (f.set x.probe.toNat 2);omega
      ·cases h
     ·cases h
   ·cases h
end
end Go.A.Pk
end
