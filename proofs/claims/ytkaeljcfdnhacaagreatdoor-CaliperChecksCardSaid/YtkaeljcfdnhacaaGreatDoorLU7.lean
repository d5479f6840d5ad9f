/- Walks of functions, plain laws, the table. -/
import Derived.Test.YtkaeljcfdnhacaaGreatDoorLU3
import Derived.Test.YtkaeljcfdnhacaaGreatDoorLU5
import Derived.Test.YtkaeljcfdnhacaaGreatDoorLU0
import Derived.Test.YtkaeljcfdnhacaaGreatDoorLU6
import Derived.Test.YtkaeljcfdnhacaaGreatDoorLH
import Derived.Test.YtkaeljcfdnhacaaGreatDoorLT
import Derived.KernelRfl
import Derived.Test.YtkaeljcfdnhacaaGreatDoorLD
set_option linter.all false
set_option maxRecDepth 100000
section
namespace Go.A.Pk
open Go Go.Proofs Go.Joins Go.ChangeShapes Go.WideShapes Go.RowKit Go.Deep

section
variable {H:Type} {enc:TypeId×Value->H} {W:World} {base:Nat} {spare:Nat->Bool} {held:Bool}
theorem Qd:Tryz.prog.cellsOf 26=16:=by kernel_rfl
theorem Hf{a:Nat}{cs:List Value}{x:DataW H×List MemPlace}(h:DataW.trod enc Tryz.prog W base spare held a 26 cs=some x):∃w:List Nat×List Nat,IsW w/\cs=wL w:=by
 obtain⟨m,n,_,o,b,c,d⟩:=DataW.trod_struct Tryz.underlying26 h;rw[Qd]at b
 match cs,b with
 |[c0,c1,c2,c3,c4,c5,c6,c7,c8,c9,c10,c11,c12,c13,c14,c15],_=>
  match m,c with
  |[yq0,yq1],_=>
   have i:DataW.trod enc Tryz.prog W base spare held n 24 [c0,c1,c2,c3,c4,c5,c6,c7]=some yq0:=by have:=d 0 _ rfl;simpa[uh]using this
   have j:DataW.trod enc Tryz.prog W base spare held n 24 [c8,c9,c10,c11,c12,c13,c14,c15]=some yq1:=by have:=d 1 _ rfl;simpa[uh]using this
   obtain⟨s0,k,f⟩:=nA i;obtain⟨e,l,g⟩:=nA j;refine⟨(s0,e),⟨k,l⟩,?_⟩;show _=us s0++us e;rw[←f,←g];rfl
theorem JN{v:Value}{d:DataW H}{p:List MemPlace}(g:Value.okWide Tryz.prog W .any base 26 v)(h:DataW.Trod enc Tryz.prog W 0 spare held 26 v d p):∃w:List Nat×List Nat,IsW w/\v=wV w:=by
 obtain⟨b,rfl,_⟩:=okWide_struct Tryz.underlying26 g;obtain⟨a,f⟩:=h;have f:DataW.trod enc Tryz.prog W 0 spare held a 26 b.toList=some (d,p):=by simpa[Value.cells]using f
 obtain⟨w,i,e⟩:=Hf f;refine⟨w,i,?_⟩;have c:b=b.toList.toArray:=by simp
 rw[c,e];rfl
end
theorem Eg{α:Type}{cL:α->List Value}{k:Nat}:∀{l:List α},(∀a∈l,(cL a).length=k)->(l.flatMap cL).length=l.length*k
 |[],_=>by simp
 |a::l,h=>by
  rw[List.flatMap_cons,eA,h a bx,Eg λx hx=>h x (bu _ hx),me,Do];omega
theorem Ef{α:Type}{cL:α->List Value}{k:Nat}:∀{l:List α} {i j:Nat} {a:α},(∀a∈l,(cL a).length=k)->l[i]? =some a->j<k->(l.flatMap cL)[i*k+j]? =(cL a)[j]?
 |[],i,j,a,_,h,_=>by simp at h
 |b::l,0,j,a,hl,h,hj=>by
  simp at h;subst h;rw[List.flatMap_cons,J0,j3,hG (by rw[hl b bx];exact hj)]
 |b::l,i+1,j,a,hl,h,hj=>by
  have hb:=hl b bx;rw[List.flatMap_cons,gR (by rw[hb,Do];omega),hb,show(i+1)*k+j-k=i*k+j by rw[Do];omega];exact Ef (λx c=>hl x (bu _ c)) (by simpa using h) hj
section
variable {H:Type} {enc:TypeId×Value->H} {W:World} {base:Nat} {held:Bool}
variable{v:Value}{d:DataW H}{p:List MemPlace}
theorem tA{α:Type}[Inhabited α]{st M k q:Nat}(K:Tryz.prog.underlying st=some (.slice M))(hk:Tryz.prog.cellsOf M=k)(w:0<k)(T:Tryz.prog.bytesOf M=q)(S:0<q)(ok:α->Prop)(cL:α->List Value)(z:∀a,ok a->(cL a).length=k)(X:∀a,∀v∈cL a,cO v=true)
 (U:∀{s:Nat} {cs:List Value} {x:DataW H×List MemPlace},DataW.trod enc Tryz.prog W 0 (λ_=>true) held s M cs=some x->∃a,ok a/\cs=cL a)
 (O:Value.okWide Tryz.prog W .any base st v)(h:DataW.Trod enc Tryz.prog W 0 (λ_=>true) held st v d p)(hz:∀n∈d.weights Tryz.prog st,n<=reachBytes):∃l:List α,iz W k v l.length (l.flatMap cL)/\∀a∈l,ok a:=by
 have t:Cell.okWide Tryz.prog W .any base st v:=by
  simpa only[Value.okWide,K]using O
 obtain⟨a0,e,F,rfl⟩:=okWide_slice K O;obtain⟨s,E⟩:=h;have E:DataW.trod enc Tryz.prog W 0 (λ_=>true) held s st [.slice a0 e F]=some (d,p):=by simpa[Value.cells]using E
 rcases open_slice K E with⟨h2,_⟩|⟨a,len,cap,m,n',D,Pl,h2,_,hl,hcap,hm,hy,C⟩
 ·cases h2;exact⟨[], .nil,λx C=>by cases C⟩
 ·cases h2;simp only[Cell.okWide,Cell.ok,K,World.has]at t;obtain⟨_,_,_,u,row,P,y,_⟩:=t;obtain⟨b,o,sp⟩:=a;simp only at u y;subst u;rw[if_pos rfl]at hm;subst hm;have A:m*q<=reachBytes:=by
   refine hz (m*q) ?_;cases hy;simp only[DataW.weights,K,T,hS,List.length_range,show e+(m-e)=m by omega];simp
  have J:m<UNK:=by
   have:m*1<=m*q:=LT _ S;unfold reachBytes at A;unfold UNK;omega
  obtain⟨c,L,N,g⟩:∃c L N,W.heap[b]? =some (.cells c L N):=by
   unfold World.shape? at y;split at y
   ·rename_i c L N he;exact⟨c,L,N,he⟩
   ·cases y
  obtain⟨f,E⟩:=choose_lt (α:=α) (n:=e) (p:=λi x=>ok x/\∀j,j<k->c[o+(i*k+j)]? =(cL x)[j]?) (λi hi=>by
   obtain⟨a7,hc,ht⟩:=C i (by omega);obtain⟨x,Y,Z⟩:=U ht;subst Z;refine⟨x,Y,λj V=> ?_⟩;rw[hk]at hc;obtain⟨_,_,Q⟩:=World.cells?_some hc;have:=Q j V;rw[add_eq,add_eq]at this;rw[←this,At];unfold World.cell?;simp only[g];rfl)
  by_cases h0:e=0
  ·subst h0;exact⟨[], .empty g J,λx C=>by cases C⟩
  ·have I:((List.range e).map f).length=e:=by simp
   have B:∀r∈(List.range e).map f,ok r:=λx C=>by
    obtain⟨i,hi,rfl⟩:=List.mem_map.1 C;exact(E i (List.mem_range.1 hi)).1
   refine⟨(List.range e).map f,?_,B⟩;rw[I];refine .full g h0 (by rw[Eg λa G=>z a (B a G),I]) w hl J (λj V=> ?_) (λv O=> ?_)
   ·have h5:j / k<e:=by rw[Nat.div_lt_iff_lt_mul w];exact V
    have e1:j=j / k*k+j % k:=(Nat.div_add_mod' j k).symm;have g1:=(E (j / k) h5).2 (j % k) (Nat.mod_lt _ w);have g2:=Ef (cL:=cL) (k:=k) (l:=(List.range e).map f) (i:=j / k) (j:=j % k) (a:=f (j / k)) (λa G=>z a (B a G)) (by simp[h5]) (Nat.mod_lt _ w);rw[←e1]at g1 g2;rw[g1,g2]
   ·obtain⟨a,_,G⟩:=List.mem_flatMap.1 O;exact X a v G
theorem HF:Tryz.prog.cellsOf 93=9:=by kernel_rfl
theorem E4{b:Nat}{cs:List Value}{a:Nat->Bool}{x:DataW H×List MemPlace}(h:DataW.trod enc Tryz.prog W base a held b 93 cs=some x):∃p:Pb,IsS p.cells/\cs=pbL p:=by
 obtain⟨o,n,_,q,c,d,e⟩:=DataW.trod_struct Tryz.underlying93 h;rw[HF]at c
 match cs,c with
 |[c0,c1,c2,c3,c4,c5,c6,c7,c8],_=>
  match o,d with
  |[y0,y1],_=>
   have i:DataW.trod enc Tryz.prog W base a held n 24 [c0,c1,c2,c3,c4,c5,c6,c7]=some y0:=by have:=e 0 _ rfl;simpa[uh]using this
   have j:DataW.trod enc Tryz.prog W base a held n 3 [c8]=some y1:=by have:=e 1 _ rfl;simpa[xN]using this
   obtain⟨f,m,k⟩:=nA i;obtain⟨g,l,_⟩:=DataW.trod_int Tryz.underlying3 j;cases l;refine⟨⟨f,g⟩,m,?_⟩;show _=us f++[_];rw[←k];rfl
theorem EM(s:List Nat):∀v∈us s,cO v=true:=λv a=>by
 obtain⟨n,_,rfl⟩:=List.mem_map.1 a;rfl
theorem Jx(p:Pb):∀v∈pbL p,cO v=true:=λv a=>by
 rcases List.mem_append.1 a with q|q
 ·exact EM _ v q
 ·rw[List.mem_singleton.1 q];rfl
instance:Inhabited Pb:=⟨⟨[],0⟩⟩
def To(W:World)(v:Value)(l:List Pb):Prop:=iz W 9 v l.length (Cn l)/\∀p∈l,IsS p.cells
theorem ET(a:Value.okWide Tryz.prog W .any base 27 v)(h:DataW.Trod enc Tryz.prog W 0 (λ_=>true) held 27 v d p)(b:∀n∈d.weights Tryz.prog 27,n<=reachBytes):∃l,To W v l:=
 tA (α:=Pb) Tryz.underlying27 HF (by decide) (show Tryz.prog.bytesOf 93=72 by kernel_rfl) (by decide) (λp=>IsS p.cells) pbL (λp h=>kT h) Jx (λh=>E4 h) a h b
def V5(W:World)(v:Value)(l:List (List Nat)):Prop:=iz W 8 v l.length (ssL l)/\∀s∈l,IsS s
theorem EU(a:Value.okWide Tryz.prog W .any base 28 v)(h:DataW.Trod enc Tryz.prog W 0 (λ_=>true) held 28 v d p)(b:∀n∈d.weights Tryz.prog 28,n<=reachBytes):∃l,V5 W v l:=
 tA (α:=List Nat) Tryz.underlying28 uh (by decide) (show Tryz.prog.bytesOf 24=64 by kernel_rfl) (by decide) IsS us (λp h=>by rw[aB,h.len]) EM (λh=>nA h) a h b
end
variable{G:Gl}
theorem iz.Uk{W:World}(m:sO W G){sz n:Nat}{w:Value}{cs:List Value}(s:iz W sz w n cs):∃ob:List Ob,(∀μ,∀o∈ob,IV W μ o)/\∃f:Nat->Value,∀(L:List Ob) (i:Nat),(∀o,ob[0]? =some o->L[i]? =some o)->VR (obM G L) (f i) w/\aK (obH G L) sz (f i) n cs:=by
 cases s with
 |nil=>exact⟨[],(λ_ o h=>by cases h),λ_=> .slice none 0 0,λL i _=>⟨.jv _ _, .nil⟩⟩
 | @empty b o cap c el fz hW hc=>
   refine⟨[⟨[],sz,b,0,0⟩],λμ x h=> ?_,λi=> .slice (some ⟨1000+i,o,none⟩) 0 cap,λL i p=> ?_⟩
   ·rw[List.mem_singleton.1 h];exact⟨c,el,fz,hW,bl _,gK _,λi a=>by cases a⟩
   ·have a:=p _ rfl;have q:(obH G L).get (1000+i)=some (.cells [] false sz):=by rw[rZ m _ _ (by omega),show 1000+i-1000=i by omega,a];rfl
    have t:obM G L (1000+i)=some ⟨b,0,0,sz⟩:=by rw[pF m _ _ (by omega),show 1000+i-1000=i by omega,a];rfl
    have r:=(List.getElem?_eq_some_iff.1 a).1;refine⟨?_, .mem ⟨by show 1000+i<1000+L.length;omega,⟨[],false,sz,q,?_⟩,by simp⟩ (gK _)⟩
    ·have:=VR.slice (μ:=obM G L) (b:=1000+i) (o:=o) (l:=0) (c:=cap) (k:=⟨b,0,0,sz⟩) t hc (gK _);simpa using this
    ·rw[aR,List.drop_nil];cases 0*sz<;>rfl
 | @full b o cap _ c el fz _ hW hne hlen hsz hl hc hat hno=>
   have v:0<n*sz:=Nat.mul_pos (A3 hne) hsz;have d:o+n*sz<=c.size:=by
    have u:=hat (n*sz-1) (by omega);have j:cs[n*sz-1]? =some (cs[n*sz-1]'(by omega)):=a6 _;rw[j]at u;have:=(Array.getElem?_eq_some_iff.1 u).1;omega
   refine⟨[⟨cs,sz,b,o,o+n*sz⟩],λμ x h=> ?_,λi=> sh (1000+i) n cap,λL i p=> ?_⟩
   ·rw[List.mem_singleton.1 h];refine⟨c,el,fz,hW,by show o+cs.length<=o+n*sz;omega,d,λi a=> ?_⟩;have g:i<cs.length:=a;have j:cs[i]? =some (cs[i]'g):=a6 _;refine⟨_,(hat i (by omega)).trans j,?_⟩;have e:gv cs i=cs[i]'g:=by unfold gv;rw[bW,j];rfl
    show VR μ (gv cs i) _;rw[e];exact(VR.cO (hno _ (yi _))).1
   ·have a:=p _ rfl;have q:(obH G L).get (1000+i)=some (.cells cs false sz):=by rw[rZ m _ _ (by omega),show 1000+i-1000=i by omega,a];rfl
    have t:obM G L (1000+i)=some ⟨b,o,o+n*sz,sz⟩:=by rw[pF m _ _ (by omega),show 1000+i-1000=i by omega,a];rfl
    have r:=(List.getElem?_eq_some_iff.1 a).1;refine⟨?_, .mem ⟨by show 1000+i<1000+L.length;omega,⟨cs,false,sz,q,?_⟩,hlen⟩ hl⟩
    ·have:=VR.slice (μ:=obM G L) (b:=1000+i) (o:=0) (l:=n) (c:=cap) (k:=⟨b,o,o+n*sz,sz⟩) t hc hl;simpa using this
    ·rw[bk,aR,tb,dn (by omega)]
inductive wF (W:World):Value->List Nat->Prop
 |cells {v r}:iz W 1 v r.length (fL r)->(∀k∈r,k<256)->wF W v r
 |An {b o s}:wF W (.slice (some ⟨b,o,s⟩) 0 0) []
theorem wF.lt{W:World}{v:Value}{r:List Nat}(s:wF W v r):∀k∈r,k<256:=by
 cases s with
 |cells _ h=>exact h
 |An=>intro k a;cases a
theorem wF.Uk{W:World}{G:Gl}(j:sO W G){d:Value}{r:List Nat}(s:wF W d r):∃a:List Ob,(∀μ,∀o∈a,IV W μ o)/\∃f:Nat->Value,∀(L:List Ob) (i:Nat),(∀k o,a[k]? =some o->L[i+k]? =some o)->VR (obM G L) (f i) d/\SlJ (obH G L) (f i) r:=by
 cases s with
 |cells h=>
  obtain⟨a,e,f,g⟩:=h.Uk j;refine⟨a,e,f,λL i l=> ?_⟩;obtain⟨m,n⟩:=g L i λo c=>l 0 o c;exact⟨m, .inl n⟩
 | @An b o s=>exact⟨[],(λ_ o c=>by cases c),λ_=> .slice (some ⟨b,o,some (Bm s)⟩) 0 0,λL i _=>⟨.lV s, .inr ⟨rfl,_,_,_,rfl⟩⟩⟩
theorem DL{W:World}{G:Gl}(l:sO W G):∀{d:List Sta} {xs:List Value},xs.length=d.length->(∀(j:Nat) (r:Sta) (x:Value),d[j]? =some r->xs[j]? =some x->wF W x r.found)→
 ∃ob:List Ob,(∀μ,∀o∈ob,IV W μ o)/\∃F:Nat->List Value,(∀i,(F i).length=d.length)/\∀(L:List Ob) (i:Nat),(∀k o,ob[k]? =some o->L[i+k]? =some o)→
  ∀(j:Nat) (r:Sta) (x:Value),d[j]? =some r->xs[j]? =some x->∃u,(F i)[j]? =some u/\VR (obM G L) u x/\SlJ (obH G L) u r.found
 |[],[],_,_=>⟨[],(λ_ o a=>by cases a),λ_=>[],λ_=>rfl,λL i _ j r x hj=>by cases hj⟩
 |[],_::_,h,_=>by simp at h
 |_::_,[],h,_=>by simp at h
 |r::rows,x::xs,h,H=>by
  obtain⟨o1,k1,f,q1⟩:=(H 0 r x rfl rfl).Uk l;obtain⟨s,p,F,n,t⟩:=DL l (d:=rows) (xs:=xs) (by simpa using h) λj r x e g=>H (j+1) r x (by simpa using e) (by simpa using g);refine⟨o1++s,λμ o a=> ?_,λi=>f i::F (i+o1.length),λi=>by simp[n],λL i m=> ?_⟩
  ·rcases List.mem_append.1 a with q|q
   ·exact k1 μ o q
   ·exact p μ o q
  ·have e:=q1 L i λk o a=>m k o (by rw[hG ((List.getElem?_eq_some_iff.1 a).1)];exact a);have g:=t L (i+o1.length) λk o a=>by
    have:=m (o1.length+k) o (by rw[gR (by omega),BT];exact a);rw[At];exact this
   intro j v w b c;cases j with
   |zero=>
    simp only[List.getElem?_cons_zero,Option.some.injEq]at b c;subst b c;exact⟨_,rfl,e⟩
   |succ j=>
    rw[List.getElem?_cons_succ]at b c;exact g j v w b c
inductive jw (W:World):Value->List Sta->Prop
 |nil:jw W (.slice none 0 0) []
 |empty {b o cap c el fz}:W.heap[b]? =some (.cells c el fz)->cap<UNK->jw W (.slice (some ⟨b,o,none⟩) 0 cap) []
 |full {b o cap c el fz d}:W.heap[b]? =some (.cells c el fz)->d≠[]->d.length<=cap->cap<UNK->(∀j r,d[j]? =some r->∃x,c[o+j*2]? =some x/\c[o+j*2+1]? =some (.int .i64 r.cost)/\wF W x r.found)->jw W (.slice (some ⟨b,o,none⟩) d.length cap) d
theorem IF:∀{fs:List Value} {s:List Sta},fs.length=s.length->(stL fs s).length=s.length*2
 |[],[],_=>rfl
 |[],_::_,h=>by simp at h
 |_::_,[],h=>by simp at h
 |a::fs,b::s,h=>by
  have e:stL (a::fs) (b::s)=[a, zc b.cost]++stL fs s:=rfl;rw[e,eA,IF (by simpa using h)];simp;omega
variable{i:Nat}
theorem Sg{fs:List Value}{s:List Sta}{u:Value}{x:Sta}(h1:fs[i]? =some u)(a:s[i]? =some x):(stL fs s)[i*2]? =some u/\(stL fs s)[i*2+1]? =some (zc x.cost):=by
 have h:=G0 h1 a;constructor
 ·have:(((stL fs s).drop (i*2)).take 2)[0]? =some u:=by rw[h];rfl
  rw[gS (by omega),kK]at this;exact this
 ·have:(((stL fs s).drop (i*2)).take 2)[1]? =some (zc x.cost):=by rw[h];rfl
  rw[gS (by omega),kK]at this;exact this
theorem jw.lt{W:World}{v:Value}{d:List Sta}(s:jw W v d):∀x∈d,∀k∈x.found,k<256:=by
 cases s with
 |nil=>intro x a;cases a
 |empty=>intro x a;cases a
 |full _ _ _ _ h=>
  intro x a;obtain⟨j,c⟩:=List.mem_iff_getElem?.1 a;obtain⟨y,_,_,b⟩:=h j x c;exact b.lt
theorem Ui{W:World}(w:sO W G){lv:Value}{d:List Sta}(a:List Ob)(k1:∀μ,∀o∈a,IV W μ o)(J:jw W lv d):∃L:List Ob,(∀(k:Nat) (o:Ob),a[k]? =some o->L[k]? =some o)/\R Tryz.prog (obM G L) (obH G L) W/\∃v,VR (obM G L) v lv/\oL (obH G L) v d/\d.length<UNK:=by
 cases J with
 |nil=>exact⟨a,λk o m=>m,R.obs w λo m=>k1 _ o m, .slice none 0 0, .jv _ _,⟨[],rfl, .nil,λi u x h=>by simp at h⟩,by decide⟩
 | @empty b o cap c el fz hW hc=>
   have E:(a++[(⟨[],2,b,0,0⟩:Ob)])[a.length]? =some ⟨[],2,b,0,0⟩:=by rw[gR (bl _),xx];rfl
   refine⟨a++[⟨[],2,b,0,0⟩],λk x m=> ?_,R.obs w λN m=> ?_, .slice (some ⟨1000+a.length,o,none⟩) 0 cap,?_,?_,by decide⟩
   ·rw[hG ((List.getElem?_eq_some_iff.1 m).1)];exact m
   ·rcases List.mem_append.1 m with q|q
    ·exact k1 _ N q
    ·rw[List.mem_singleton.1 q];exact⟨c,el,fz,hW,bl _,gK _,λi E=>by cases E⟩
   ·have V:obM G (a++[⟨[],2,b,0,0⟩]) (1000+a.length)=some ⟨b,0,0,2⟩:=by rw[pF w _ _ (by omega),show 1000+a.length-1000=a.length by omega,E];rfl
    have:=VR.slice (μ:=obM G (a++[⟨[],2,b,0,0⟩])) (b:=1000+a.length) (o:=o) (l:=0) (c:=cap) (k:=⟨b,0,0,2⟩) V hc (gK _);simpa using this
   ·have A:(obH G (a++[⟨[],2,b,0,0⟩])).get (1000+a.length)=some (.cells [] false 2):=by rw[rZ w _ _ (by omega),show 1000+a.length-1000=a.length by omega,E];rfl
    exact⟨[],rfl, .mem ⟨by show 1000+a.length<1000+(a++[_]).length;simp,⟨[],false,2,A,by rw[aR,List.drop_nil];rfl⟩,rfl⟩ (gK _),λi u x h=>by simp at h⟩
 | @full b o cap c el fz _ hW hne hl hc hat=>
   obtain⟨P,ae,D⟩:∃P:List Value,P.length=d.length/\∀j,j<d.length->∃x,P[j]? =some x/\c[o+j*2]? =some x:=by
    obtain⟨g,hg⟩:=choose_lt (α:=Value) (n:=d.length) (p:=λj x=>c[o+j*2]? =some x) (λj M=>by
     obtain⟨x,s,_⟩:=hat j _ (a6 M);exact⟨x,s⟩)
    exact⟨(List.range d.length).map g,by simp,λj M=>⟨g j,by simp[M],hg j M⟩⟩
   have I:∀(j:Nat) (r:Sta) (x:Value),d[j]? =some r->P[j]? =some x->wF W x r.found:=λj r x H s=>by
    obtain⟨x1,p1,p2⟩:=D j (List.getElem?_eq_some_iff.1 H).1;obtain⟨x2,p3,_,p4⟩:=hat j r H;rw[s]at p1;cases p1;rw[p2]at p3;cases p3;exact p4
   obtain⟨f,k2,F,hF,q2⟩:=DL w ae I;have ar:0<d.length:=List.length_pos_iff.2 hne;have C:o+d.length*2<=c.size:=by
    obtain⟨x,_,s,_⟩:=hat (d.length-1) _ (a6 (by omega));have:=(Array.getElem?_eq_some_iff.1 s).1;omega
   have X:(stL (F a.length) d).length=d.length*2:=IF (hF _);obtain⟨O,B⟩:∃O:Ob,O=⟨stL (F a.length) d,2,b,o,o+d.length*2⟩:=⟨_,rfl⟩;obtain⟨L,K⟩:∃L,L=a++(f++[O]):=⟨_,rfl⟩;have S:∀k x,a[k]? =some x->L[k]? =some x:=λk x s=>by rw[K,hG ((List.getElem?_eq_some_iff.1 s).1)];exact s
   have T:∀k x,f[k]? =some x->L[a.length+k]? =some x:=λk x s=>by rw[K,gR (by omega),BT,hG ((List.getElem?_eq_some_iff.1 s).1)];exact s
   have z:L[a.length+f.length]? =some O:=by rw[K,gR (by omega),BT,gR (by omega),xx];rfl
   have Q:=q2 L a.length T;have aE:=(List.getElem?_eq_some_iff.1 z).1;refine⟨L,S,R.obs w λN m=> ?_, sh (1000+(a.length+f.length)) d.length cap,?_,?_,by omega⟩
   ·rw[K]at m;rcases List.mem_append.1 m with q|q
    ·exact k1 _ N q
    ·rcases List.mem_append.1 q with q|q
     ·exact k2 _ N q
     ·rw[List.mem_singleton.1 q,B];refine⟨c,el,fz,hW,by show o+(stL (F a.length) d).length<=o+d.length*2;omega,C,λi E=> ?_⟩;have aw:i<d.length*2:=by have:i<(stL (F a.length) d).length:=E;omega
      obtain⟨r,H⟩:∃r,d[i / 2]? =some r:=⟨d[i / 2]'(by omega),a6 _⟩;obtain⟨x,a7,a8⟩:=D (i / 2) (by omega);obtain⟨u,t,Y,_⟩:=Q (i / 2) r x H a7;obtain⟨g1,g2⟩:=Sg t H;obtain⟨_,_,U,_⟩:=hat (i / 2) r H;rcases(by omega:i=i / 2*2∨i=i / 2*2+1)with e|e
      ·refine⟨x,by show c[o+i]? =some x;rw[e];exact a8,?_⟩;have:gv (stL (F a.length) d) i=u:=by unfold gv;rw[bW,e,g1];rfl
       show VR _ (gv (stL (F a.length) d) i) x;rw[this];exact Y
      ·refine⟨zc r.cost,by show c[o+i]? =_;rw[e,←Nat.add_assoc];exact U,?_⟩;have:gv (stL (F a.length) d) i= zc r.cost:=by unfold gv;rw[bW,e,g2];rfl
       show VR _ (gv (stL (F a.length) d) i) _;rw[this];exact .int _ _
   ·have V:obM G L (1000+(a.length+f.length))=some ⟨b,o,o+d.length*2,2⟩:=by rw[pF w _ _ (by omega),show 1000+(a.length+f.length)-1000=a.length+f.length by omega,z,B];rfl
    have:=VR.slice (μ:=obM G L) (b:=1000+(a.length+f.length)) (o:=0) (l:=d.length) (c:=cap) (k:=⟨b,o,o+d.length*2,2⟩) V hc hl;simpa using this
   ·have A:(obH G L).get (1000+(a.length+f.length))=some (.cells (stL (F a.length) d) false 2):=by rw[rZ w _ _ (by omega),show 1000+(a.length+f.length)-1000=a.length+f.length by omega,z,B];rfl
    refine⟨F a.length,hF _, .mem ⟨by show 1000+(a.length+f.length)<1000+L.length;omega,⟨_,_,_,A,by rw[bk,aR,tb,dn (by omega)]⟩,X⟩ hl,λi u x h1 J=> ?_⟩;obtain⟨y,am,_⟩:=D i (List.getElem?_eq_some_iff.1 J).1;obtain⟨u',t,_,Z⟩:=Q i x y J am;rw[h1]at t;cases t;exact Z
theorem QI{W:World}(f:sO W G){z1 n1 z2 z3 n3:Nat}{p q r s:Value}{c1 c2 m:List Value}{d:List Sta}(h1:iz W z1 p n1 c1)(t:iz W z2 q i c2)(u:iz W z3 r n3 m)(w:jw W s d):
 ∃(h:Heap) (μ:Mu),R Tryz.prog μ h W/\(∀b o,h.get b=some o->o.ro=true∨o.live=false)/\Rdy h/\1000<=h.next/\(∀g l,(g,l)∈G->h.get g=some (.cells l false 1))∧
 (∃a c,VR μ (.slice a n1 c) p/\aK h z1 (.slice a n1 c) n1 c1/\c<UNK)/\(∃a c,VR μ (.slice a i c) q/\aK h z2 (.slice a i c) i c2/\c<UNK)/\(∃a c,VR μ (.slice a n3 c) r/\aK h z3 (.slice a n3 c) n3 m/\c<UNK)/\∃v,VR μ v s/\oL h v d/\d.length<UNK:=by
 obtain⟨k,y,C⟩:=h1.lay f;obtain⟨n,z,D⟩:=t.lay f;obtain⟨B,A,E⟩:=u.lay f;obtain⟨L,j,x,Q⟩:=Ui f (k++(n++B)) (λμ o e=>(List.mem_append.1 e).elim (y μ o) λe=>(List.mem_append.1 e).elim (z μ o) (A μ o)) w;refine⟨obH G L,obM G L,x,UJ f,Rn f _,ww _ _,λg l h=>UI f _ h,C L 0 λo e=> ?_,D L k.length λo e=> ?_,E L (k.length+n.length) λo e=> ?_,Q⟩
 ·exact j 0 o (by rw[hG ((List.getElem?_eq_some_iff.1 e).1)];exact e)
 ·exact j _ o (by rw[gR (bl _),xx,hG ((List.getElem?_eq_some_iff.1 e).1)];exact e)
 ·exact j _ o (by rw[gR (by omega),BT,gR (bl _),xx];exact e)
section
variable {H:Type} {enc:TypeId×Value->H} {W:World} {base:Nat} {held:Bool}
theorem DO:Tryz.prog.cellsOf 61=3:=by kernel_rfl
theorem DP:Tryz.prog.cellsOf 42=2:=by kernel_rfl
theorem Qf:Tryz.prog.cellsOf 40=1:=by kernel_rfl
theorem Qe:Tryz.prog.cellsOf 5=1:=by kernel_rfl
variable{cs:List Value}{x:DataW H×List MemPlace}
theorem F8{b:Nat}{a:Nat->Bool}(h:DataW.trod enc Tryz.prog W base a held b 61 cs=some x):∃p:Fk,cs=fkL p:=by
 obtain⟨r,n,_,s,c,d,e⟩:=DataW.trod_struct Tryz.underlying61 h;rw[DO]at c
 match cs,c with
 |[c0,c1,c2],_=>
  match r,d with
  |[y0,y1,y2],_=>
   have j:DataW.trod enc Tryz.prog W base a held n 3 [c0]=some y0:=by have:=e 0 _ rfl;simpa[xN]using this
   have k:DataW.trod enc Tryz.prog W base a held n 3 [c1]=some y1:=by have:=e 1 _ rfl;simpa[xN]using this
   have l:DataW.trod enc Tryz.prog W base a held n 3 [c2]=some y2:=by have:=e 2 _ rfl;simpa[xN]using this
   obtain⟨f,m,_⟩:=DataW.trod_int Tryz.underlying3 j;obtain⟨g,o,_⟩:=DataW.trod_int Tryz.underlying3 k;obtain⟨i,q,_⟩:=DataW.trod_int Tryz.underlying3 l;cases m;cases o;cases q;exact⟨⟨f,g,i⟩,rfl⟩
instance:Inhabited Fk:=⟨⟨0,0,0⟩⟩
instance:Inhabited Sta:=⟨⟨[],0⟩⟩
def S6(W:World)(v:Value)(l:List Fk):Prop:=iz W 3 v l.length (F7 l)
variable{v:Value}{d:DataW H}{p:List MemPlace}
theorem Gx(b:Value.okWide Tryz.prog W .any base 29 v)(h:DataW.Trod enc Tryz.prog W 0 (λ_=>true) held 29 v d p)(f:∀n∈d.weights Tryz.prog 29,n<=reachBytes):∃l,S6 W v l:=by
 obtain⟨l,c,_⟩:=tA (α:=Fk) Tryz.underlying29 DO (by decide) (show Tryz.prog.bytesOf 61=24 by kernel_rfl) (by decide) (λ_=>True) fkL (λ_ _=>rfl) (λa v b=>by
  simp only[fkL,CS,NE,or_false]at b;rcases b with rfl|rfl|rfl<;>rfl) (λh=>by
  obtain⟨p,e⟩:=F8 h;exact⟨p,trivial,e⟩) b h f
 exact⟨l,c⟩
theorem pZ{P:Program}{e:TypeId}:∀{l:List (DataW H)} {d:DataW H},d∈l->∀n∈d.weights P e,n∈DataW.weightsAll P e l
 |x::l,d,hd,n,hn=>by
  simp only[DataW.weightsAll,S4];rcases List.mem_cons.1 hd with rfl|hd
  ·exact .inl hn
  ·exact .inr (pZ hd n hn)
theorem P8{t:Nat}(h:DataW.trod enc Tryz.prog W 0 (λ_=>true) held t 40 [v]=some x)(T:∀n∈x.1.weights Tryz.prog 40,n<=reachBytes):∃r,wF W v r:=by
 rcases open_slice Tryz.underlying40 h with⟨h2,_⟩|⟨a,len,cap,m,n',D,Pl,h2,_,hl,_,hm,J,I⟩
 ·cases h2;exact⟨[], .cells .nil λk e=>by cases e⟩
 ·cases h2;rw[if_pos rfl]at hm;subst hm;have g:m<UNK:=by
   have Q:Tryz.prog.bytesOf 5=1:=by kernel_rfl
   have:=T (m*1) (by
    rw[J];simp only[DataW.weights,Tryz.underlying40,Q,hS,List.length_range,show len+(m-len)=m by omega];simp)
   unfold reachBytes at this;unfold UNK;omega
  obtain⟨b,o,q⟩:=a;by_cases h0:m=0
  ·subst h0;obtain rfl:len=0:=by omega
   exact⟨[], .An⟩
  ·have u:∀i,i<m->∃k:Nat,k<256/\W.cell? ((Addr.mk b o q).add (i*1))=some (.int .u8 (k:Nat)):=λi M=>by
    obtain⟨A,K,S⟩:=I i M;rw[Qe]at K;obtain⟨l,_,C⟩:=World.cells?_some K
    match A,l with
    |[y],_=>
     obtain⟨k,e,_,w0⟩:=DataW.trod_int Tryz.underlying5 S;cases e;simp only[Lit.wf,dk,decide_eq_true_eq]at w0;have O:IntKind.u8.min=0:=rfl;rw[O]at w0;obtain⟨k,rfl⟩:=xl w0.1;have P:IntKind.u8.max=255:=rfl;rw[P]at w0;refine⟨k,by omega,?_⟩;have:=C 0 (by omega);have N:((Addr.mk b o q).add (i*1)).add 0=(Addr.mk b o q).add (i*1):=rfl;rw[N]at this;rw[this];rfl
   obtain⟨U,_,hc0⟩:=u 0 (by omega);have B:(Addr.mk b o q).add (0*1)=⟨b,o,q⟩:=rfl;rw[B]at hc0;unfold World.cell? at hc0;simp only at hc0;obtain⟨c,w,z,d⟩:∃c w z,W.heap[b]? =some (.cells c w z):=by
    split at hc0
    ·rename_i c w z he;exact⟨c,w,z,he⟩
    ·cases hc0
   have G:q=none:=by
    rw[d]at hc0;cases q with
    |none=>rfl
    |some s=>simp at hc0
   subst G;by_cases hl0:len=0
   ·subst hl0;exact⟨[], .cells (.empty d g) λk e=>by cases e⟩
   ·obtain⟨f,L⟩:=choose_lt (α:=Nat) (n:=len) (p:=λi k=>k<256/\c[o+i]? =some (.int .u8 (k:Nat))) (λi M=>by
     obtain⟨k,F,e⟩:=u i (by omega);refine⟨k,F,?_⟩;rw[add_eq,xf]at e;unfold World.cell? at e;simp only[d]at e;exact e)
    have l:((List.range len).map f).length=len:=by simp
    refine⟨(List.range len).map f, .cells ?_ λk e=> ?_⟩;case refine_2=>
     obtain⟨y,J,rfl⟩:=List.mem_map.1 e;exact(L y (List.mem_range.1 J)).1
    rw[l];refine .full d hl0 (by simp[fL]) (by omega) hl g (λj E=> ?_) (λx I=>by
     obtain⟨y,_,rfl⟩:=List.mem_map.1 I;rfl)
    rw[xf]at E;rw[(L j E).2];simp[fL,E]
theorem FB{a:Nat}(h:DataW.trod enc Tryz.prog W 0 (λ_=>true) held a 42 cs=some x)(o:∀n∈x.1.weights Tryz.prog 42,n<=reachBytes):∃(u:Value) (r:Sta),cs=[u, zc r.cost]/\wF W u r.found:=by
 obtain⟨p,n,_,m,b,c,d⟩:=DataW.trod_struct Tryz.underlying42 h;rw[DP]at b
 match cs,b with
 |[c0,c1],_=>
  match p,c with
  |[y0,y1],_=>
   have f:DataW.trod enc Tryz.prog W 0 (λ_=>true) held n 40 [c0]=some y0:=by have:=d 0 _ rfl;simpa[Qf]using this
   have g:DataW.trod enc Tryz.prog W 0 (λ_=>true) held n 3 [c1]=some y1:=by have:=d 1 _ rfl;simpa[xN]using this
   obtain⟨e,i,_⟩:=DataW.trod_int Tryz.underlying3 g;cases i;obtain⟨r,l⟩:=P8 f λk j=>o k (by
    rw[m];simp only[DataW.weights,Tryz.underlying42,wp,List.map_nil,DataW.weightsEach,S4];exact .inl j)
   exact⟨c0,⟨r,e⟩,rfl,l⟩
theorem EV(P:Value.okWide Tryz.prog W .any base 30 v)(h:DataW.Trod enc Tryz.prog W 0 (λ_=>true) held 30 v d p)(Y:∀n∈d.weights Tryz.prog 30,n<=reachBytes):∃l,jw W v l:=by
 have t:Cell.okWide Tryz.prog W .any base 30 v:=by
  simpa only[Value.okWide,Tryz.underlying30]using P
 obtain⟨S,g,z,rfl⟩:=okWide_slice Tryz.underlying30 P;obtain⟨A,C⟩:=h;have C:DataW.trod enc Tryz.prog W 0 (λ_=>true) held A 30 [.slice S g z]=some (d,p):=by simpa[Value.cells]using C
 rcases open_slice Tryz.underlying30 C with⟨h2,_⟩|⟨a,len,cap,m,n',D,Pl,h2,_,hl,hcap,hm,hy,hx⟩
 ·cases h2;exact⟨[], .nil⟩
 ·cases h2;simp only[Cell.okWide,Cell.ok,Tryz.underlying30,World.has]at t;obtain⟨_,_,_,w,row,K,y,_⟩:=t;obtain⟨b,o,Z⟩:=a;simp only at w y;subst w;rw[if_pos rfl]at hm;subst hm;have U:d=(.slice ((List.range g).map D) ((List.range (m-g)).map λj=>D (g+j))):=congrArg Prod.fst hy;have L:Tryz.prog.bytesOf 42=32:=by kernel_rfl
  have Q:∀n,n=m*32∨n∈DataW.weightsAll Tryz.prog 42 ((List.range g).map D)->n<=reachBytes:=λn N=>by
   refine Y n ?_;rw[U];simp only[DataW.weights,Tryz.underlying30,L,hS,List.length_range,show g+(m-g)=m by omega,CS,S4];exact N.imp id .inl
  have s:m<UNK:=by
   have:=Q (m*32) (.inl rfl);unfold reachBytes at this;unfold UNK;omega
  obtain⟨c,E,F,k⟩:∃c E F,W.heap[b]? =some (.cells c E F):=by
   unfold World.shape? at y;split at y
   ·rename_i c E F he;exact⟨c,E,F,he⟩
   ·cases y
  by_cases h0:g=0
  ·subst h0;exact⟨[], .empty k s⟩
  ·obtain⟨f,C⟩:=choose_lt (α:=Sta) (n:=g) (p:=λi r=>∃x,c[o+i*2]? =some x/\c[o+i*2+1]? =some (zc r.cost)/\wF W x r.found) (λi V=>by
    obtain⟨T,O,X⟩:=hx i (by omega);obtain⟨u,r,rfl,J⟩:=FB X λn N=>Q n (.inr (pZ (List.mem_map.2 ⟨i,List.mem_range.2 V,rfl⟩) n N));rw[DP]at O;obtain⟨_,_,B⟩:=World.cells?_some O;have G:=B 0 (by omega);have I:=B 1 (by omega);rw[add_eq,add_eq]at G I;unfold World.cell? at G I;simp only[k]at G I;exact⟨r,u,G,I,J⟩)
   have q:((List.range g).map f).length=g:=by simp
   refine⟨(List.range g).map f,?_⟩;have:=jw.full (W:=W) (o:=o) (cap:=m) (d:=(List.range g).map f) k (by intro e;rw[e]at q;simp at q;omega) (by omega) s (λj r J=>by
    have M:=(List.getElem?_eq_some_iff.1 J).1;rw[q]at M;have e:r=f j:=by simpa[M]using J.symm
    rw[e];exact C j M)
   rw[q]at this;exact this
end
end Go.A.Pk
end
section
namespace Go.A.Pk
open Go Go.Proofs
theorem XL:oN.h0=JE 0 (DX.map λn=> .int .u8 (n:Nat)) 1000:=by kernel_rfl
theorem aam:Entry Tryz.prog 6 (.mb pSd):= .mb (Oe sound (g:=0) (n:=1000) (vs:=DX.map λn=> .int .u8 (n:Nat)) Tryz.func6 (of_decide_eq_true (by kernel_rfl)) (by kernel_rfl) oe (by decide) (by kernel_rfl) (by kernel_rfl) λc v h e b=>by
 unfold pSd at b;split at b
 ·split at b
  ·rename_i hT;cases b;refine⟨rfl,hT,λa d=>(nomatch d),rfl,?_⟩;rw[←XL];exact oN.run
  ·cases b
 ·cases b)
theorem c4:aJ Tryz.prog Tryz.f3 [[1,2,3,4,5,6],[1,2,3,4,5,6,31],[12],[1,2,3,4,5,6,13,14],[1,2,4,5,6,13,14,15,16],[1,2,4,5,6,13,14,15,16,17,18],[13,14,15,16,17,18,19,20],[12]]=some f4:=by kernel_rfl
theorem c25:aJ Tryz.prog Tryz.f4 [[1,2,3],[6]]=some f25:=by kernel_rfl
theorem c26:aJ Tryz.prog Tryz.f5 [[0,1],[0,1,5],[0,1,5,13],[0,1,5,22],[4],[0,1,5],[4]]=some f26:=by kernel_rfl
theorem c28:aJ Tryz.prog Tryz.f8 [[1,2,3,4,5],[1,2,3,4,5,12],[1,2,3,4,5,12,22],[1,2,3,4,5,12],[1,2,3,4,5,12,31],[1,2,3,4,5,12],[1,2,3,4,5,12,33],[10,11],[1,2,3,4,5,13],[1,2,3,4,5,13,14],[1,2,3,4,5,13,14,41],[1,2,3,4,5,13,14,83],[10,11],[1,2,3,4,5,13,14,89],[1,2,3,4,5,13,14],[1,2,3,4,5,13,14,111],[1,2,3,4,5,13,14],[1,2,3,4,5,13,14],[1,2,3,4,5,13,15],[1,2,3,4,5,13,15,131],[1,2,3,4,5,13,15,142],[10,11],[1,2,3,4,5,13,15],[1,2,3,4,5,16],[1,2,3,4,5,16,145],[1,2,3,4,5,16],[10,11]]=some f28:=by kernel_rfl
theorem c30:aJ Tryz.prog Tryz.f10 [[1,2,3,4,5],[1,2,3,4,5,12],[1,2,3,4,5,12,35],[1,2,3,4,5,12],[1,2,3,4,5,12,44],[1,2,3,4,5,12],[1,2,3,4,5,12,46],[10,11],[1,3,4,5,13],[1,3,4,5,13,14],[1,3,4,5,13,14,15],[1,3,4,5,13,14,15,16],[1,3,4,5,13,14,15,16,58],[1,3,4,5,13,14,15,16,17],[1,3,4,5,13,14,16,17,85],[10,11],[1,3,4,5,13,14,15,16,17],[1,3,4,5,13,14,15,16,17],[1,3,4,5,13,14,15,16,17,19],[1,3,4,5,13,14,15,16,17,104],[10,11],[1,3,4,5,13,14,15,16,20],[1,3,4,5,13,14,15,16,111],[10,11],[1,3,4,5,13,14,15,16],[1,3,4,5,14,21],[1,3,4,5,14,21,115],[1,3,4,5,14,21,22],[1,3,4,5,14,21,22,23],[1,3,4,5,14,21,22,23,127],[1,3,4,5,14,21,22,23,134],[1,3,4,5,14,21,22,23,24],[1,3,4,5,14,21,22,23,24,25],[1,3,4,5,14,21,22,23,24,25,136],[1,3,4,5,14,21,22,23,24,25,26],[1,3,4,5,14,21,22,23,24,25,26],[1,3,4,5,14,21,22,23,24,25,26,28],[1,3,4,5,14,21,22,23,24,25,26,28,29],[1,3,4,5,14,21,22,23,24,25],[1,3,4,5,14,21,22,23,24,25],[1,3,4,5,14,21,22,23,182],[10,11],[1,3,4,5,14,21,22,23],[1,3,4,5,14,21],[10,11]]=some f30:=by kernel_rfl
theorem c31:aJ Tryz.prog Tryz.f66 [[1],[8],[2],[2]]=some f31:=by kernel_rfl
theorem c35:aJ Tryz.prog Tryz.f49 [[2,3],[4]]=some f35:=by kernel_rfl
theorem c52:aJ Tryz.prog Tryz.f78 [[2,3],[4]]=some f52:=by kernel_rfl
theorem c53:aJ Tryz.prog Tryz.f68 [[0],[0,6],[2],[0,3],[0,3,10],[0,3,28],[2],[0,3],[2]]=some f53:=by kernel_rfl
theorem c84:aJ Tryz.prog Tryz.f11 [[1],[2]]=some f84:=by kernel_rfl
theorem c93:aJ Tryz.prog Tryz.f67 [[0],[0,6],[2],[0,3],[0,3,10],[0,3,18],[2],[0,3],[2]]=some f93:=by kernel_rfl
theorem c94:aJ Tryz.prog Tryz.f28 [[1],[6],[2],[2]]=some f94:=by kernel_rfl
theorem c95:aJ Tryz.prog Tryz.f70 [[2,3],[2,5],[2,5,7],[2,5,7,8],[2,5,7,8,23],[2,5,7,8],[2,5,7,8],[7,9],[7,9,10],[7,9,10,38],[7,9,10,11],[7,9,10,11,12],[7,9,10,11,12,44],[7,9,10,11,12,60],[7,9,10,11,12],[7,9,10,11,12],[7,9,10,61],[7,9,10],[7,9,10],[4]]=some f95:=by kernel_rfl
theorem Zb:aJ Tryz.prog Tryz.f27 [[1,2,3],[1,2,7],[1,2,7,11],[1,7],[1,7,15],[7],[6]]=some f100:=by kernel_rfl
theorem Zc:aJ Tryz.prog Tryz.f29 [[0,1,2],[6]]=some f101:=by kernel_rfl
theorem Zd:aJ Tryz.prog Tryz.f30 [[1,2,3,4,5,6,7],[1,2,3,4,5,6,7,23],[14],[1,2,3,4,5,6,7,16],[1,2,3,4,5,6,7,16,32],[1,2,5,7,34],[14],[17],[14],[1,2,3,4,5,6,7,43],[14],[1,2,3,4,5,6,7,18],[1,2,3,4,5,6,7,61],[14],[1,2,3,4,6,7,19],[1,2,3,4,6,7,19],[1,2,3,4,6,7,19,20],[1,2,3,4,6,7,19,20],[20,21],[14]]=some f102:=by kernel_rfl
theorem Ze:aJ Tryz.prog Tryz.f31 [[1,2],[1,2,5],[1,2,5,6],[1,2,5,6,10],[1,2,5,6],[1,2,5,6],[4]]=some f103:=by kernel_rfl
theorem Zf:aJ Tryz.prog Tryz.f38 [[0],[0,3],[0,3,4],[0,3,4,7],[0,3,4],[0,3,4],[2]]=some f110:=by kernel_rfl
theorem Zg:aJ Tryz.prog Tryz.f39 [[0],[0,3],[0,3,4],[0,3,4,8],[0,3,4],[0,3,4],[2]]=some f111:=by kernel_rfl
theorem Zh:aJ Tryz.prog Tryz.f40 [[0,1],[1,10],[4],[1,5],[1,5,14],[1,5,22],[4],[1,5],[4]]=some f112:=by kernel_rfl
theorem Zi:aJ Tryz.prog Tryz.f41 [[0,1,2],[6]]=some f113:=by kernel_rfl
theorem Zj:aJ Tryz.prog Tryz.f42 [[0],[0,3],[0,3,4],[0,3,4,8],[0,3,4],[0,3,4],[2]]=some f114:=by kernel_rfl
theorem Zk:aJ Tryz.prog Tryz.f43 [[1,2,3,6],[1,2,3,6,8],[1,2,3,6,8,9],[1,2,3,6,8,9,15],[1,2,3,6,8,9,22],[1,2,3,6,8,9],[1,2,3,6,8,9],[6,7]]=some f115:=by kernel_rfl
theorem Zl:aJ Tryz.prog Tryz.f44 [[1,2,3,4],[1,2,3,4,9],[1,2,3,4,9,11],[1,2,3,4,9,11,12],[1,2,3,4,9,11,12,27],[1,2,3,4,9,11,12,13],[1,2,3,4,9,11,12,13,14],[1,2,3,4,9,11,12,13,14,36],[1,2,3,4,9,11,12,13,14,15],[1,2,3,4,9,11,12,13,14,16],[1,2,3,4,9,11,12,13,14,16,61],[1,2,3,4,9,11,12,13,14],[1,2,3,4,9,11,12,13,14,66],[1,2,3,4,9,11,12,13,14],[1,2,3,4,9,11,12,13,14],[1,2,3,4,9,11,12],[1,2,3,4,9,11,12],[8]]=some f116:=by kernel_rfl
theorem Zm:aJ Tryz.prog Tryz.f45 [[0],[0,3],[0,3,7],[0,3,14],[2],[0,3],[2]]=some f117:=by kernel_rfl
theorem Zn:aJ Tryz.prog Tryz.f76 [[2,3,4],[2,3,4,5],[2,3,4,5,7],[2,3,4,5],[2,3,4,5],[4]]=some f118:=by kernel_rfl
theorem Zx:aJ Tryz.prog Tryz.f155 [[1,2,4],[1,2,4,14],[4,5],[1,2,4,6],[1,4,6,7],[1,4,6,7,8],[1,4,6,7,8,21],[1,4,6,7,8],[1,4,6,7,8],[4,5]]=some f137:=by kernel_rfl
theorem Zy:aJ Tryz.prog Tryz.f134 [[1,2],[2,4],[2,4,11],[2,3],[2,4,5],[2,4,5,6],[2,4,5,6,23],[2,4,5,6],[2,4,5,6],[2,4,5,6],[2,4,5,6],[2,4,5,6],[2,4,5,6],[2,4,5,6],[2,3]]=some f138:=by kernel_rfl
theorem Zz:aJ Tryz.prog Tryz.f135 [[1,2,3,4,8],[1,2,3,8,10],[1,2,3,8,10,33],[8,9],[1,2,3,8,10,11],[1,2,3,8,10,11,12],[1,2,3,8,10,11,12,38],[1,2,3,8,10,11,12,13],[1,2,3,8,10,11,12,13,51],[8,9],[1,2,3,8,10,11,12],[1,2,3,8,10,11,12],[8,9]]=some f139:=by kernel_rfl
theorem ZA:aJ Tryz.prog Tryz.f105 [[2,3,4],[2,3,4,5],[2,3,4,5,7],[2,3,4,5],[2,3,4,5],[4]]=some f140:=by kernel_rfl
theorem ZC:aJ Tryz.prog Tryz.f46 [[1],[1,3],[1,3,4],[1,3,4,9],[1,3,4,5],[1,3,4,5,13],[1,3,4,5,6],[1,3,4,5,6,17],[1,3,4,5,6,7],[1,3,4,5,6,7,26],[1,3,4,5,6],[1,3,4,5,6],[1,3,4,5],[1,3,4],[2]]=some f170:=by kernel_rfl
theorem ZD:aJ Tryz.prog Tryz.f79 [[2,3],[4]]=some f171:=by kernel_rfl
theorem ZH:aJ Tryz.prog Tryz.f69 [[1,2],[2]]=some f198:=by kernel_rfl
theorem ZI:aJ Tryz.prog Tryz.f106 [[2,3],[2,3,19],[4,5],[2,3,6],[2,6,7],[2,6,7,8],[2,6,7,8,25],[2,6,7,8,9],[2,6,7,8,9,11],[2,6,7,8,9,11,41],[2,6,7,8,9,11,12],[2,6,7,8,9,11,12,49],[2,6,7,8,9,11,12,13],[2,6,7,8,9,11,12,13,57],[2,6,7,8,9,11,12,13,14],[2,6,7,8,9,11,12,13,14,16],[2,6,7,8,9,11,12,13,14,74],[2,6,7,8,9,11,12,13],[2,6,7,8,9,11,12,13],[2,6,7,8,9,11,12],[2,6,7,8,9,11],[2,6,7,8],[4,5]]=some f199:=by kernel_rfl
theorem ZJ:aJ Tryz.prog Tryz.f107 [[0,3],[0,3,5],[0,3,5,20],[0,3,5],[0,3,5,33],[4],[0,3,5,6],[0,5,6],[4]]=some f200:=by kernel_rfl
theorem ZK:aJ Tryz.prog Tryz.f77 [[1,2,4,7],[1,2,7,22],[8],[1,2,7,9],[1,2,7,9,26],[1,2,7,9,10],[1,2,7,9,54],[8],[1,2,7,9],[8]]=some f208:=by kernel_rfl
theorem ZQ:aJ Tryz.prog Tryz.f159 [[2,3,4],[2,4],[4]]=some f221:=by kernel_rfl
theorem ZR:aJ Tryz.prog Tryz.f171 [[1,2,4],[1,2,4],[1,2,4,5],[1,2,4,5,13],[1,2,4,5],[1,2,4,5],[4]]=some f222:=by kernel_rfl
theorem ZS:aJ Tryz.prog Tryz.f157 [[0],[2]]=some f223:=by kernel_rfl
theorem ZT:aJ Tryz.prog Tryz.f158 [[1,2,3,4,8],[8]]=some f224:=by kernel_rfl
theorem ZU:aJ Tryz.prog Tryz.f111 [[1],[2]]=some f225:=by kernel_rfl
theorem ZZ:aJ Tryz.prog Tryz.f133 [[1],[1,3],[1,3,4],[1,3,4,8],[1,3,4,5],[1,3,4],[1,3,4],[2]]=some f258:=by kernel_rfl
theorem Z0:aJ Tryz.prog Tryz.f136 [[2,3],[2,3,5],[2,3,5,7],[2,3,5,16],[4],[2,3,5,23],[4],[2,3,5],[4]]=some f259:=by kernel_rfl
theorem Z1:aJ Tryz.prog Tryz.f173 [[1,2,4],[2,4,5],[2,4,5,6],[4],[2,4,5,16],[4],[2,4,5,27],[4],[2,4,5,37],[4],[2,4,47],[4],[4]]=some f267:=by kernel_rfl
theorem Z5:aJ Tryz.prog Tryz.f156 [[1,2],[1,2,3,4],[1,2,3,13],[2],[2,5],[2]]=some f316:=by kernel_rfl
noncomputable def Pg:Tr:=(.node (.node (.node (.node (.node (.node (.node .nil 3 f4 .nil) 4 f25 (.node .nil 5 f26 .nil)) 6 (.mb pSd) (.node (.node .nil 7 f27 .nil) 8 f28 (.node .nil 9 f29 .nil))) 10 f30 (.node (.node (.node .nil 11 f84 .nil) 18 f22 (.node .nil 23 f96 .nil)) 24 f97 (.node (.node .nil 25 f98 .nil) 26 f99 (.node .nil 27 f100 .nil)))) 28 f94 (.node (.node (.node (.node .nil 29 f101 .nil) 30 f102 (.node .nil 31 f103 .nil)) 32 f104 (.node (.node .nil 33 f105 .nil) 34 f106 (.node .nil 35 f107 .nil))) 36 f108 (.node (.node (.node .nil 37 f109 .nil) 38 f110 (.node .nil 39 f111 .nil)) 40 f112 (.node (.node .nil 41 f113 .nil) 42 f114 .nil)))) 43 f115 (.node (.node (.node (.node (.node .nil 44 f116 .nil) 45 f117 (.node .nil 46 f170 .nil)) 49 f35 (.node (.node .nil 50 f123 .nil) 51 f124 (.node .nil 54 f89 .nil))) 55 f90 (.node (.node (.node .nil 56 f34 .nil) 57 f91 (.node .nil 58 f92 .nil)) 59 f128 (.node (.node .nil 60 f141 .nil) 61 f201 .nil))) 62 f202 (.node (.node (.node (.node .nil 63 f203 .nil) 64 f204 (.node .nil 65 f149 .nil)) 66 f31 (.node (.node .nil 67 f93 .nil) 68 f53 (.node .nil 69 f198 .nil))) 70 f95 (.node (.node (.node .nil 71 f205 .nil) 72 f206 (.node .nil 73 f143 .nil)) 74 f207 (.node (.node .nil 75 f147 .nil) 76 f118 .nil))))) 77 f208 (.node (.node (.node (.node (.node (.node .nil 78 f52 .nil) 79 f171 (.node .nil 86 f174 .nil)) 87 f121 (.node (.node .nil 88 f213 .nil) 89 f214 (.node .nil 90 f126 .nil))) 91 f127 (.node (.node (.node .nil 92 f120 .nil) 93 f188 (.node .nil 94 f72 .nil)) 95 (.mb (qZ 126 96)) (.node (.node .nil 98 f192 .nil) 99 f193 (.node .nil 100 f194 .nil)))) 101 f195 (.node (.node (.node (.node .nil 102 f196 .nil) 103 f197 (.node .nil 104 f62 .nil)) 105 f140 (.node (.node .nil 106 f199 .nil) 107 f200 (.node .nil 108 f260 .nil))) 109 f226 (.node (.node (.node .nil 110 f228 .nil) 111 f225 (.node .nil 116 f264 .nil)) 117 f265 (.node (.node .nil 118 f266 .nil) 119 f215 .nil)))) 120 f209 (.node (.node (.node (.node (.node .nil 121 f210 .nil) 122 f211 (.node .nil 123 f212 .nil)) 124 f254 (.node (.node .nil 125 f167 .nil) 130 f257 (.node .nil 131 f155 .nil))) 132 f156 (.node (.node (.node .nil 133 f258 .nil) 134 f138 (.node .nil 135 f139 .nil)) 136 f259 (.node (.node .nil 140 f261 .nil) 141 f262 .nil))) 142 f263 (.node (.node (.node (.node .nil 154 f231 .nil) 155 f137 (.node .nil 156 f316 .nil)) 157 f223 (.node (.node .nil 158 f224 .nil) 159 f221 (.node .nil 160 f317 .nil))) 161 f318 (.node (.node (.node .nil 162 f319 .nil) 163 f320 (.node .nil 164 f321 .nil)) 165 f322 (.node (.node .nil 171 f222 .nil) 173 f267 .nil))))))
noncomputable def T4:Nat->Option an:=Pg.get
abbrev zq1:=@Tr.all_nil
theorem YR:Pg.all (Entry Tryz.prog):=by
 unfold Pg;exact(Tr.aa (Tr.aa (Tr.aa (Tr.aa (Tr.aa (Tr.aa (Tr.aa zq1 (.of Tryz.func3 c4) zq1) (.of Tryz.func4 c25) (Tr.aa zq1 (.of Tryz.func5 c26) zq1)) aam (Tr.aa (Tr.aa zq1 (.of Tryz.func7 c27) zq1) (.of Tryz.func8 c28) (Tr.aa zq1 (.of Tryz.func9 c29) zq1))) (.of Tryz.func10 c30) (Tr.aa (Tr.aa (Tr.aa zq1 (.of Tryz.func11 c84) zq1) (.of Tryz.func18 c22) (Tr.aa zq1 (.of Tryz.func23 c96) zq1)) (.of Tryz.func24 c97) (Tr.aa (Tr.aa zq1 (.of Tryz.func25 c98) zq1) (.of Tryz.func26 c99) (Tr.aa zq1 (.of Tryz.func27 Zb) zq1)))) (.of Tryz.func28 c94) (Tr.aa (Tr.aa (Tr.aa (Tr.aa zq1 (.of Tryz.func29 Zc) zq1) (.of Tryz.func30 Zd) (Tr.aa zq1 (.of Tryz.func31 Ze) zq1)) (.of Tryz.func32 Wa) (Tr.aa (Tr.aa zq1 (.of Tryz.func33 Wb) zq1) (.of Tryz.func34 Wc) (Tr.aa zq1 (.of Tryz.func35 Wd) zq1))) (.of Tryz.func36 We) (Tr.aa (Tr.aa (Tr.aa zq1 (.of Tryz.func37 Wf) zq1) (.of Tryz.func38 Zf) (Tr.aa zq1 (.of Tryz.func39 Zg) zq1)) (.of Tryz.func40 Zh) (Tr.aa (Tr.aa zq1 (.of Tryz.func41 Zi) zq1) (.of Tryz.func42 Zj) zq1)))) (.of Tryz.func43 Zk) (Tr.aa (Tr.aa (Tr.aa (Tr.aa (Tr.aa zq1 (.of Tryz.func44 Zl) zq1) (.of Tryz.func45 Zm) (Tr.aa zq1 (.of Tryz.func46 ZC) zq1)) (.of Tryz.func49 c35) (Tr.aa (Tr.aa zq1 (.of Tryz.func50 Wj) zq1) (.of Tryz.func51 Wk) (Tr.aa zq1 (.of Tryz.func54 c89) zq1))) (.of Tryz.func55 c90) (Tr.aa (Tr.aa (Tr.aa zq1 (.of Tryz.func56 c34) zq1) (.of Tryz.func57 c91) (Tr.aa zq1 (.of Tryz.func58 c92) zq1)) (.of Tryz.func59 Wn) (Tr.aa (Tr.aa zq1 (.of Tryz.func60 Wo) zq1) (.of Tryz.func61 WR) zq1))) (.of Tryz.func62 WS) (Tr.aa (Tr.aa (Tr.aa (Tr.aa zq1 (.of Tryz.func63 WT) zq1) (.of Tryz.func64 WU) (Tr.aa zq1 (.of Tryz.func65 Wu) zq1)) (.of Tryz.func66 c31) (Tr.aa (Tr.aa zq1 (.of Tryz.func67 c93) zq1) (.of Tryz.func68 c53) (Tr.aa zq1 (.of Tryz.func69 ZH) zq1))) (.of Tryz.func70 c95) (Tr.aa (Tr.aa (Tr.aa zq1 (.of Tryz.func71 WV) zq1) (.of Tryz.func72 WW) (Tr.aa zq1 (.of Tryz.func73 Wq) zq1)) (.of Tryz.func74 WX) (Tr.aa (Tr.aa zq1 (.of Tryz.func75 Wt) zq1) (.of Tryz.func76 Zn) zq1))))) (.of Tryz.func77 ZK) (Tr.aa (Tr.aa (Tr.aa (Tr.aa (Tr.aa (Tr.aa zq1 (.of Tryz.func78 c52) zq1) (.of Tryz.func79 ZD) (Tr.aa zq1 (.of Tryz.func86 Wy) zq1)) (.of Tryz.func87 Wi) (Tr.aa (Tr.aa zq1 (.of Tryz.func88 W9) zq1) (.of Tryz.func89 Xa) (Tr.aa zq1 (.of Tryz.func90 Wl) zq1))) (.of Tryz.func91 Wm) (Tr.aa (Tr.aa (Tr.aa zq1 (.of Tryz.func92 Wg) zq1) (.of Tryz.func93 Wz) (Tr.aa zq1 (.of Tryz.func94 c72) zq1)) X8 (Tr.aa (Tr.aa zq1 (.of Tryz.func98 WA) zq1) (.of Tryz.func99 WH) (Tr.aa zq1 (.of Tryz.func100 WI) zq1)))) (.of Tryz.func101 WJ) (Tr.aa (Tr.aa (Tr.aa (Tr.aa zq1 (.of Tryz.func102 WN) zq1) (.of Tryz.func103 WQ) (Tr.aa zq1 (.of Tryz.func104 c62) zq1)) (.of Tryz.func105 ZA) (Tr.aa (Tr.aa zq1 (.of Tryz.func106 ZI) zq1) (.of Tryz.func107 ZJ) (Tr.aa zq1 (.of Tryz.func108 Xh) zq1))) (.of Tryz.func109 Xc) (Tr.aa (Tr.aa (Tr.aa zq1 (.of Tryz.func110 Xd) zq1) (.of Tryz.func111 ZU) (Tr.aa zq1 (.of Tryz.func116 Xl) zq1)) (.of Tryz.func117 Xm) (Tr.aa (Tr.aa zq1 (.of Tryz.func118 Xn) zq1) (.of Tryz.func119 Xb) zq1)))) (.of Tryz.func120 WY) (Tr.aa (Tr.aa (Tr.aa (Tr.aa (Tr.aa zq1 (.of Tryz.func121 WZ) zq1) (.of Tryz.func122 W0) (Tr.aa zq1 (.of Tryz.func123 W8) zq1)) (.of Tryz.func124 Xf) (Tr.aa (Tr.aa zq1 (.of Tryz.func125 Wx) zq1) (.of Tryz.func130 Xg) (Tr.aa zq1 (.of Tryz.func131 Wv) zq1))) (.of Tryz.func132 Ww) (Tr.aa (Tr.aa (Tr.aa zq1 (.of Tryz.func133 ZZ) zq1) (.of Tryz.func134 Zy) (Tr.aa zq1 (.of Tryz.func135 Zz) zq1)) (.of Tryz.func136 Z0) (Tr.aa (Tr.aa zq1 (.of Tryz.func140 Xi) zq1) (.of Tryz.func141 Xj) zq1))) (.of Tryz.func142 Xk) (Tr.aa (Tr.aa (Tr.aa (Tr.aa zq1 (.of Tryz.func154 Xe) zq1) (.of Tryz.func155 Zx) (Tr.aa zq1 (.of Tryz.func156 Z5) zq1)) (.of Tryz.func157 ZS) (Tr.aa (Tr.aa zq1 (.of Tryz.func158 ZT) zq1) (.of Tryz.func159 ZQ) (Tr.aa zq1 (.of Tryz.func160 Xo) zq1))) (.of Tryz.func161 Xp) (Tr.aa (Tr.aa (Tr.aa zq1 (.of Tryz.func162 Xq) zq1) (.of Tryz.func163 Xr) (Tr.aa zq1 (.of Tryz.func164 Xt) zq1)) (.of Tryz.func165 Xu) (Tr.aa (Tr.aa zq1 (.of Tryz.func171 ZR) zq1) (.of Tryz.func173 Z1) zq1))))))
theorem dH:eV Tryz.prog T4:=sq (by kernel_rfl) YR
theorem iA0:Td T4:=⟨dH.aM,rfl,rfl⟩
theorem iA1:Hs T4:=⟨iA0,rfl⟩
theorem iA2:Ta T4:=⟨dH.aM,iA1,rfl,rfl⟩
theorem iA3:Tm T4:=⟨dH.aM,rfl⟩
theorem iA4:Ht T4:=⟨dH.aM,rfl,rfl,rfl,rfl,rfl,rfl⟩
theorem iA5:xm T4:=⟨iA4,rfl,rfl,rfl,rfl⟩
theorem iA6:Du T4:=⟨iA5,rfl,rfl,rfl⟩
theorem iA7:KC T4:=⟨iA6,rfl⟩
theorem iA8:VZ T4:=⟨iA5,rfl⟩
theorem iA9:Hr T4:=⟨dH.aM,rfl,rfl,rfl,rfl,rfl,rfl⟩
theorem iB0:tU T4:=⟨dH.aM,rfl,rfl,rfl,rfl,rfl,rfl,rfl⟩
theorem iB1:Dr T4:=⟨iA9,iB0,rfl,rfl,rfl,rfl,rfl,rfl⟩
theorem iB2:S8 T4:=⟨iA9,rfl⟩
theorem iB3:Tf T4:=⟨dH.aM,rfl⟩
theorem iB4:S9 T4:=⟨dH.aM,rfl,rfl⟩
theorem iB5:Tc T4:=⟨iB1,iB2,iB3,iB4,rfl,rfl,rfl⟩
theorem iB6:Tb T4:=⟨iB5,rfl,rfl⟩
theorem iB7:KK T4:=⟨iB6,rfl,rfl,rfl,rfl⟩
theorem iB8:Ds T4:=⟨iB7,rfl,rfl,rfl,rfl,rfl,rfl,rfl,rfl,rfl,rfl⟩
theorem iB9:KH T4:=⟨iB8,rfl,rfl,rfl,rfl⟩
theorem iC0:Ho T4:=⟨dH.aM,rfl,rfl,rfl,rfl,rfl,rfl⟩
theorem iC1:S7 T4:=⟨iB9,iC0,rfl⟩
theorem iC2:Tg T4:=⟨iB8,rfl⟩
theorem iC3:KJ T4:=⟨iA8,iC1,iC2,rfl⟩
theorem iC4:Hq T4:=⟨iA7,iC3,rfl,rfl,rfl,rfl⟩
theorem iC5:xk T4:=⟨dH.aM,rfl,rfl,rfl,rfl,rfl,rfl⟩
theorem iC6:KE T4:=⟨iA5,rfl⟩
theorem iC7:KA T4:=⟨iC5,iC6,iC3,rfl,rfl⟩
theorem iC8:Dt T4:=⟨dH.aM,rfl,rfl,rfl,rfl,rfl,rfl,rfl,rfl⟩
theorem iC9:Bw T4:=⟨iA1,rfl,rfl,rfl,rfl,rfl,rfl,rfl⟩
theorem iD0:Ti T4:=⟨iC9,rfl,rfl,rfl,rfl,rfl⟩
theorem iD1:Th T4:=⟨dH.aM,rfl,rfl⟩
theorem iD2:KF T4:=⟨iD0,iD1,rfl,rfl⟩
theorem iD3:Tk T4:=⟨iD2,rfl⟩
theorem iD4:Tj T4:=⟨iD3,rfl⟩
theorem iD5:Tl T4:=⟨iD0,rfl,rfl⟩
theorem iD6:KG T4:=⟨iD4,iD5,rfl,rfl⟩
theorem iD7:KN T4:=⟨iC8,iD6,rfl,rfl⟩
theorem iD8:KP T4:=⟨iD7,rfl,rfl⟩
theorem iD9:KQ T4:=⟨dH.aM,rfl⟩
theorem iE0:Hu T4:=⟨iD8,iD9,rfl,rfl⟩
theorem iE1:KL T4:=⟨iE0,rfl⟩
theorem iE2:KI T4:=⟨iD9,rfl,rfl⟩
theorem iE3:KM T4:=⟨iE0,iE2,rfl⟩
theorem aaa:Te T4:=⟨iA2,iA3,iC4,iC7,iE1,iE3,rfl,rfl⟩
open Go.RowKit in
theorem BI{W:World}(V:As W){w:List Nat×List Nat}(hw:IsW w){f g i j:Value}{l:List Pb}(h1:To W f l){os:List (List Nat)}(I:V5 W g os){s:List Fk}(O:S6 W i s){d:List Sta}(J:jw W j d){cost:Int}(y: -9223372036854775808<=cost/\cost<9223372036854775808):Calls Tryz.prog 3 #[wV w,f,g,i,j, zc cost] W λe H=>e= .returned (.bool true)/\Below W.heap.size W H:=by
 obtain⟨h,μ,u,z,p,Y,x,⟨L,n1,B,r,S⟩,⟨M,n2,C,t,T⟩,⟨N,n3,D,A,U⟩,u4,E,K,v⟩:=QI V.gl h1.1 I.1 O J;have k:∀{sz n:Nat} {a:Option Addr} {c:Nat} {cs:List Value},aK h sz (.slice a n c) n cs->c<=UNK-1->n<4611686018427387904:=λhs Q=>by
  rcases aK.inv hs with⟨_,_,h0,_⟩|⟨b,o,cap,F,_,Q⟩
  ·rw[h0];decide
  ·cases F;unfold UNK at*;omega
 obtain⟨r',h',⟨m,X⟩,rfl,rfl⟩:=aaj aaa p (x 0 _ bx) (by omega) hw ⟨r,h1.2⟩ (k r (by unfold UNK at*;omega)) ⟨t,I.2⟩ (k t (by unfold UNK at*;omega)) (s:=s) A K (by unfold UNK at v;omega) J.lt y;have q:=X m (bl _);have P:LR μ [wV w, .slice L l.length n1, .slice M os.length n2, .slice N s.length n3,u4, zc cost] [wV w,f,g,i,j, zc cost]:= .cons (VR.cO (Nx w)).1 (.cons B (.cons C (.cons D (.cons E (.cons (.int _ _) .nil)))));refine(mX dH q p.log (by kernel_rfl) u P).mono λe H Z=> ?_;obtain⟨μ',G,q2,q3⟩:=Z;cases e with
 |returned v'=>
  have F:VR μ' (.bool true) v':=G;cases F;exact⟨rfl,St.below q3 z⟩
 |panicked _=>exact G.elim
 |outgrown=>exact G.elim
end Go.A.Pk
end
