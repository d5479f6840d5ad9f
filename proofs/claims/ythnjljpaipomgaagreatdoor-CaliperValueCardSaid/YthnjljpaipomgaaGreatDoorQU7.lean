/- Walks of functions, plain laws, the table. -/
import Derived.Test.YthnjljpaipomgaaGreatDoorQU6
import Derived.Test.YthnjljpaipomgaaGreatDoorQU3
import Derived.Test.YthnjljpaipomgaaGreatDoorQU0
import Derived.Test.YthnjljpaipomgaaGreatDoorQU5
import Derived.Test.YthnjljpaipomgaaGreatDoorQH
import Derived.Test.YthnjljpaipomgaaGreatDoorQT
import Derived.KernelRfl
import Derived.Test.YthnjljpaipomgaaGreatDoorQD
set_option linter.all false
set_option maxRecDepth 100000
section
namespace Go.A.Pk
open Go Go.Proofs Go.Joins Go.ChangeShapes Go.WideShapes Go.RowKit Go.Deep

section
variable {H:Type} {enc:TypeId×Value->H} {W:World} {base:Nat} {spare:Nat->Bool} {held:Bool}
theorem N4:Tryz.prog.cellsOf 26=16:=by kernel_rfl
theorem FA{a:Nat}{cs:List Value}{x:DataW H×List MemPlace}(h:DataW.trod enc Tryz.prog W base spare held a 26 cs=some x):∃w:List Nat×List Nat,IsW w/\cs=wL w:=by
 obtain⟨m,n,_,o,b,c,d⟩:=DataW.trod_struct Tryz.underlying26 h;rw[N4]at b
 match cs,b with
 |[c0,c1,c2,c3,c4,c5,c6,c7,c8,c9,c10,c11,c12,c13,c14,c15],_=>
  match m,c with
  |[yq0,yq1],_=>
   have i:DataW.trod enc Tryz.prog W base spare held n 24 [c0,c1,c2,c3,c4,c5,c6,c7]=some yq0:=by have:=d 0 _ rfl;simpa[sO]using this
   have j:DataW.trod enc Tryz.prog W base spare held n 24 [c8,c9,c10,c11,c12,c13,c14,c15]=some yq1:=by have:=d 1 _ rfl;simpa[sO]using this
   obtain⟨s0,k,f⟩:=mW i;obtain⟨e,l,g⟩:=mW j;refine⟨(s0,e),⟨k,l⟩,?_⟩;show _=us s0++us e;rw[←f,←g];rfl
theorem Ik{v:Value}{d:DataW H}{p:List MemPlace}(g:Value.okWide Tryz.prog W .any base 26 v)(h:DataW.Trod enc Tryz.prog W 0 spare held 26 v d p):∃w:List Nat×List Nat,IsW w/\v=wV w:=by
 obtain⟨b,rfl,_⟩:=okWide_struct Tryz.underlying26 g;obtain⟨a,f⟩:=h;have f:DataW.trod enc Tryz.prog W 0 spare held a 26 b.toList=some (d,p):=by simpa[Value.cells]using f
 obtain⟨w,i,e⟩:=FA f;refine⟨w,i,?_⟩;have c:b=b.toList.toArray:=by simp
 rw[c,e];rfl
end
theorem CI{α:Type}{cL:α->List Value}{k:Nat}:∀{l:List α},(∀a∈l,(cL a).length=k)->(l.flatMap cL).length=l.length*k
 |[],_=>by simp
 |a::l,h=>by
  rw[List.flatMap_cons,ec,h a b6,CI λx hx=>h x (bz _ hx),pm,sx];omega
theorem CH{α:Type}{cL:α->List Value}{k:Nat}:∀{l:List α} {i j:Nat} {a:α},(∀a∈l,(cL a).length=k)->l[i]? =some a->j<k->(l.flatMap cL)[i*k+j]? =(cL a)[j]?
 |[],i,j,a,_,h,_=>by simp at h
 |b::l,0,j,a,hl,h,hj=>by
  simp at h;subst h;rw[List.flatMap_cons,vx,hX,hG (by rw[hl b b6];exact hj)]
 |b::l,i+1,j,a,hl,h,hj=>by
  have hb:=hl b b6;rw[List.flatMap_cons,gK (by rw[hb,sx];omega),hb,show(i+1)*k+j-k=i*k+j by rw[sx];omega];exact CH (λx c=>hl x (bz _ c)) (by simpa using h) hj
section
variable {H:Type} {enc:TypeId×Value->H} {W:World} {base:Nat} {held:Bool}
variable{v:Value}{d:DataW H}{p:List MemPlace}
theorem rY{α:Type}[Inhabited α]{st M k q:Nat}(K:Tryz.prog.underlying st=some (.slice M))(hk:Tryz.prog.cellsOf M=k)(w:0<k)(T:Tryz.prog.bytesOf M=q)(S:0<q)(ok:α->Prop)(cL:α->List Value)(z:∀a,ok a->(cL a).length=k)(X:∀a,∀v∈cL a,cE v=true)
 (U:∀{s:Nat} {cs:List Value} {x:DataW H×List MemPlace},DataW.trod enc Tryz.prog W 0 (λ_=>true) held s M cs=some x->∃a,ok a/\cs=cL a)
 (O:Value.okWide Tryz.prog W .any base st v)(h:DataW.Trod enc Tryz.prog W 0 (λ_=>true) held st v d p)(hz:∀n∈d.weights Tryz.prog st,n<=reachBytes):∃l:List α,gV W k v l.length (l.flatMap cL)/\∀a∈l,ok a:=by
 have t:Cell.okWide Tryz.prog W .any base st v:=by
  simpa only[Value.okWide,K]using O
 obtain⟨a0,e,F,rfl⟩:=okWide_slice K O;obtain⟨s,E⟩:=h;have E:DataW.trod enc Tryz.prog W 0 (λ_=>true) held s st [.slice a0 e F]=some (d,p):=by simpa[Value.cells]using E
 rcases open_slice K E with⟨h2,_⟩|⟨a,len,cap,m,n',D,Pl,h2,_,hl,hcap,hm,hy,C⟩
 ·cases h2;exact⟨[], .nil,λx C=>by cases C⟩
 ·cases h2;simp only[Cell.okWide,Cell.ok,K,World.has]at t;obtain⟨_,_,_,u,row,P,y,_⟩:=t;obtain⟨b,o,sp⟩:=a;simp only at u y;subst u;rw[if_pos rfl]at hm;subst hm;have A:m*q<=reachBytes:=by
   refine hz (m*q) ?_;cases hy;simp only[DataW.weights,K,T,po,List.length_range,show e+(m-e)=m by omega];simp
  have J:m<UNK:=by
   have:m*1<=m*q:=sT _ S;unfold reachBytes at A;unfold UNK;omega
  obtain⟨c,L,N,g⟩:∃c L N,W.heap[b]? =some (.cells c L N):=by
   unfold World.shape? at y;split at y
   ·rename_i c L N he;exact⟨c,L,N,he⟩
   ·cases y
  obtain⟨f,E⟩:=choose_lt (α:=α) (n:=e) (p:=λi x=>ok x/\∀j,j<k->c[o+(i*k+j)]? =(cL x)[j]?) (λi hi=>by
   obtain⟨ae,hc,ht⟩:=C i (by omega);obtain⟨x,Y,Z⟩:=U ht;subst Z;refine⟨x,Y,λj V=> ?_⟩;rw[hk]at hc;obtain⟨_,_,Q⟩:=World.cells?_some hc;have:=Q j V;rw[add_eq,add_eq]at this;rw[←this,te];unfold World.cell?;simp only[g];rfl)
  by_cases h0:e=0
  ·subst h0;exact⟨[], .empty g J,λx C=>by cases C⟩
  ·have I:((List.range e).map f).length=e:=by simp
   have B:∀r∈(List.range e).map f,ok r:=λx C=>by
    obtain⟨i,hi,rfl⟩:=List.mem_map.1 C;exact(E i (List.mem_range.1 hi)).1
   refine⟨(List.range e).map f,?_,B⟩;rw[I];refine .full g h0 (by rw[CI λa G=>z a (B a G),I]) w hl J (λj V=> ?_) (λv O=> ?_)
   ·have h5:j / k<e:=by rw[Nat.div_lt_iff_lt_mul w];exact V
    have e1:j=j / k*k+j % k:=(Nat.div_add_mod' j k).symm;have g1:=(E (j / k) h5).2 (j % k) (Nat.mod_lt _ w);have g2:=CH (cL:=cL) (k:=k) (l:=(List.range e).map f) (i:=j / k) (j:=j % k) (a:=f (j / k)) (λa G=>z a (B a G)) (by simp[h5]) (Nat.mod_lt _ w);rw[←e1]at g1 g2;rw[g1,g2]
   ·obtain⟨a,_,G⟩:=List.mem_flatMap.1 O;exact X a v G
theorem FV:Tryz.prog.cellsOf 91=9:=by kernel_rfl
theorem DE{b:Nat}{cs:List Value}{a:Nat->Bool}{x:DataW H×List MemPlace}(h:DataW.trod enc Tryz.prog W base a held b 91 cs=some x):∃p:Pb,IsS p.cells/\cs=pbL p:=by
 obtain⟨o,n,_,q,c,d,e⟩:=DataW.trod_struct Tryz.underlying91 h;rw[FV]at c
 match cs,c with
 |[c0,c1,c2,c3,c4,c5,c6,c7,c8],_=>
  match o,d with
  |[y0,y1],_=>
   have i:DataW.trod enc Tryz.prog W base a held n 24 [c0,c1,c2,c3,c4,c5,c6,c7]=some y0:=by have:=e 0 _ rfl;simpa[sO]using this
   have j:DataW.trod enc Tryz.prog W base a held n 3 [c8]=some y1:=by have:=e 1 _ rfl;simpa[vZ]using this
   obtain⟨f,m,k⟩:=mW i;obtain⟨g,l,_⟩:=DataW.trod_int Tryz.underlying3 j;cases l;refine⟨⟨f,g⟩,m,?_⟩;show _=us f++[_];rw[←k];rfl
theorem Di(s:List Nat):∀v∈us s,cE v=true:=λv a=>by
 obtain⟨n,_,rfl⟩:=List.mem_map.1 a;rfl
theorem HS(p:Pb):∀v∈pbL p,cE v=true:=λv a=>by
 rcases List.mem_append.1 a with q|q
 ·exact Di _ v q
 ·rw[List.mem_singleton.1 q];rfl
instance:Inhabited Pb:=⟨⟨[],0⟩⟩
def Q9(W:World)(v:Value)(l:List Pb):Prop:=gV W 9 v l.length (Be l)/\∀p∈l,IsS p.cells
theorem Ds(a:Value.okWide Tryz.prog W .any base 27 v)(h:DataW.Trod enc Tryz.prog W 0 (λ_=>true) held 27 v d p)(b:∀n∈d.weights Tryz.prog 27,n<=reachBytes):∃l,Q9 W v l:=
 rY (α:=Pb) Tryz.underlying27 FV (by decide) (show Tryz.prog.bytesOf 91=72 by kernel_rfl) (by decide) (λp=>IsS p.cells) pbL (λp h=>kr h) HS (λh=>DE h) a h b
def TV(W:World)(v:Value)(l:List (List Nat)):Prop:=gV W 8 v l.length (ssL l)/\∀s∈l,IsS s
theorem Dt(a:Value.okWide Tryz.prog W .any base 28 v)(h:DataW.Trod enc Tryz.prog W 0 (λ_=>true) held 28 v d p)(b:∀n∈d.weights Tryz.prog 28,n<=reachBytes):∃l,TV W v l:=
 rY (α:=List Nat) Tryz.underlying28 sO (by decide) (show Tryz.prog.bytesOf 24=64 by kernel_rfl) (by decide) IsS us (λp h=>by rw[aK,h.len]) Di (λh=>mW h) a h b
end
variable{G:Gl}
theorem gV.Sc{W:World}(m:rA W G){sz n:Nat}{w:Value}{cs:List Value}(s:gV W sz w n cs):∃ob:List Ob,(∀μ,∀o∈ob,GS W μ o)/\∃f:Nat->Value,∀(L:List Ob) (i:Nat),(∀o,ob[0]? =some o->L[i]? =some o)->VR (obM G L) (f i) w/\aJ (obH G L) sz (f i) n cs:=by
 cases s with
 |nil=>exact⟨[],(λ_ o h=>by cases h),λ_=> .slice none 0 0,λL i _=>⟨.iT _ _, .nil⟩⟩
 | @empty b o cap c el fz hW hc=>
   refine⟨[⟨[],sz,b,0,0⟩],λμ x h=> ?_,λi=> .slice (some ⟨1000+i,o,none⟩) 0 cap,λL i p=> ?_⟩
   ·rw[List.mem_singleton.1 h];exact⟨c,el,fz,hW,bl _,md _,λi a=>by cases a⟩
   ·have a:=p _ rfl;have q:(obH G L).get (1000+i)=some (.cells [] false sz):=by rw[qD m _ _ (by omega),show 1000+i-1000=i by omega,a];rfl
    have t:obM G L (1000+i)=some ⟨b,0,0,sz⟩:=by rw[oF m _ _ (by omega),show 1000+i-1000=i by omega,a];rfl
    have r:=(List.getElem?_eq_some_iff.1 a).1;refine⟨?_, .mem ⟨by show 1000+i<1000+L.length;omega,⟨[],false,sz,q,?_⟩,by simp⟩ (md _)⟩
    ·have:=VR.slice (μ:=obM G L) (b:=1000+i) (o:=o) (l:=0) (c:=cap) (k:=⟨b,0,0,sz⟩) t hc (md _);simpa using this
    ·rw[aW,List.drop_nil];cases 0*sz<;>rfl
 | @full b o cap _ c el fz _ hW hne hlen hsz hl hc hat hno=>
   have v:0<n*sz:=Nat.mul_pos (tx hne) hsz;have d:o+n*sz<=c.size:=by
    have u:=hat (n*sz-1) (by omega);have j:cs[n*sz-1]? =some (cs[n*sz-1]'(by omega)):=bx _;rw[j]at u;have:=(Array.getElem?_eq_some_iff.1 u).1;omega
   refine⟨[⟨cs,sz,b,o,o+n*sz⟩],λμ x h=> ?_,λi=> .slice (some ⟨1000+i,0,none⟩) n cap,λL i p=> ?_⟩
   ·rw[List.mem_singleton.1 h];refine⟨c,el,fz,hW,by show o+cs.length<=o+n*sz;omega,d,λi a=> ?_⟩;have g:i<cs.length:=a;have j:cs[i]? =some (cs[i]'g):=bx _;refine⟨_,(hat i (by omega)).trans j,?_⟩;have e:gv cs i=cs[i]'g:=by unfold gv;rw[cH,j];rfl
    show VR μ (gv cs i) _;rw[e];exact(VR.cE (hno _ (sm _))).1
   ·have a:=p _ rfl;have q:(obH G L).get (1000+i)=some (.cells cs false sz):=by rw[qD m _ _ (by omega),show 1000+i-1000=i by omega,a];rfl
    have t:obM G L (1000+i)=some ⟨b,o,o+n*sz,sz⟩:=by rw[oF m _ _ (by omega),show 1000+i-1000=i by omega,a];rfl
    have r:=(List.getElem?_eq_some_iff.1 a).1;refine⟨?_, .mem ⟨by show 1000+i<1000+L.length;omega,⟨cs,false,sz,q,?_⟩,hlen⟩ hl⟩
    ·have:=VR.slice (μ:=obM G L) (b:=1000+i) (o:=0) (l:=n) (c:=cap) (k:=⟨b,o,o+n*sz,sz⟩) t hc hl;simpa using this
    ·rw[bQ,aW,py,gk (by omega)]
inductive yQ (W:World):Value->List Nat->Prop
 |cells {v r}:gV W 1 v r.length (fL r)->yQ W v r
 |AO {b o s}:yQ W (.slice (some ⟨b,o,s⟩) 0 0) []
theorem yQ.Sc{W:World}{G:Gl}(j:rA W G){d:Value}{r:List Nat}(s:yQ W d r):∃a:List Ob,(∀μ,∀o∈a,GS W μ o)/\∃f:Nat->Value,∀(L:List Ob) (i:Nat),(∀k o,a[k]? =some o->L[i+k]? =some o)->VR (obM G L) (f i) d/\SlJ (obH G L) (f i) r:=by
 cases s with
 |cells h=>
  obtain⟨a,e,f,g⟩:=h.Sc j;refine⟨a,e,f,λL i l=> ?_⟩;obtain⟨m,n⟩:=g L i λo c=>l 0 o c;exact⟨m, .inl n⟩
 | @AO b o s=>exact⟨[],(λ_ o c=>by cases c),λ_=> .slice (some ⟨b,o,some (Af s)⟩) 0 0,λL i _=>⟨.kC s, .inr ⟨rfl,_,_,_,rfl⟩⟩⟩
theorem Cm{W:World}{G:Gl}(l:rA W G):∀{d:List Sta} {xs:List Value},xs.length=d.length->(∀(j:Nat) (r:Sta) (x:Value),d[j]? =some r->xs[j]? =some x->yQ W x r.found)→
 ∃ob:List Ob,(∀μ,∀o∈ob,GS W μ o)/\∃F:Nat->List Value,(∀i,(F i).length=d.length)/\∀(L:List Ob) (i:Nat),(∀k o,ob[k]? =some o->L[i+k]? =some o)→
  ∀(j:Nat) (r:Sta) (x:Value),d[j]? =some r->xs[j]? =some x->∃u,(F i)[j]? =some u/\VR (obM G L) u x/\SlJ (obH G L) u r.found
 |[],[],_,_=>⟨[],(λ_ o a=>by cases a),λ_=>[],λ_=>rfl,λL i _ j r x hj=>by cases hj⟩
 |[],_::_,h,_=>by simp at h
 |_::_,[],h,_=>by simp at h
 |r::rows,x::xs,h,H=>by
  obtain⟨o1,k1,f,q1⟩:=(H 0 r x rfl rfl).Sc l;obtain⟨s,p,F,n,t⟩:=Cm l (d:=rows) (xs:=xs) (by simpa using h) λj r x e g=>H (j+1) r x (by simpa using e) (by simpa using g);refine⟨o1++s,λμ o a=> ?_,λi=>f i::F (i+o1.length),λi=>by simp[n],λL i m=> ?_⟩
  ·rcases List.mem_append.1 a with q|q
   ·exact k1 μ o q
   ·exact p μ o q
  ·have e:=q1 L i λk o a=>m k o (by rw[hG ((List.getElem?_eq_some_iff.1 a).1)];exact a);have g:=t L (i+o1.length) λk o a=>by
    have:=m (o1.length+k) o (by rw[gK (by omega),sb];exact a);rw[te];exact this
   intro j v w b c;cases j with
   |zero=>
    simp only[List.getElem?_cons_zero,Option.some.injEq]at b c;subst b c;exact⟨_,rfl,e⟩
   |succ j=>
    rw[zB]at b c;exact g j v w b c
inductive kP (W:World):Value->List Sta->Prop
 |nil:kP W (.slice none 0 0) []
 |empty {b o cap c el fz}:W.heap[b]? =some (.cells c el fz)->cap<UNK->kP W (.slice (some ⟨b,o,none⟩) 0 cap) []
 |full {b o cap c el fz d}:W.heap[b]? =some (.cells c el fz)->d≠[]->d.length<=cap->cap<UNK->(∀j r,d[j]? =some r->∃x,c[o+j*2]? =some x/\c[o+j*2+1]? =some (.int .i64 r.cost)/\yQ W x r.found)->kP W (.slice (some ⟨b,o,none⟩) d.length cap) d
theorem GG:∀{c:List Value} {s:List Sta},c.length=s.length->(stL c s).length=s.length*2
 |[],[],_=>rfl
 |[],_::_,h=>by simp at h
 |_::_,[],h=>by simp at h
 |a::c,b::s,h=>by
  have e:stL (a::c) (b::s)=[a, .int .i64 b.cost]++stL c s:=rfl;rw[e,ec,GG (by simpa using h)];simp;omega
variable{i:Nat}
theorem P5{a:List Value}{s:List Sta}{u:Value}{x:Sta}(h1:a[i]? =some u)(b:s[i]? =some x):(stL a s)[i*2]? =some u/\(stL a s)[i*2+1]? =some (.int .i64 x.cost):=by
 have h:=Fq h1 b;constructor
 ·have:(((stL a s).drop (i*2)).take 2)[0]? =some u:=by rw[h];rfl
  rw[gS (by omega),me]at this;exact this
 ·have:(((stL a s).drop (i*2)).take 2)[1]? =some (.int .i64 x.cost):=by rw[h];rfl
  rw[gS (by omega),me]at this;exact this
theorem Sa{W:World}(w:rA W G){lv:Value}{d:List Sta}(a:List Ob)(k1:∀μ,∀o∈a,GS W μ o)(J:kP W lv d):∃L:List Ob,(∀(k:Nat) (o:Ob),a[k]? =some o->L[k]? =some o)/\R Tryz.prog (obM G L) (obH G L) W/\∃v,VR (obM G L) v lv/\mZ (obH G L) v d/\d.length<UNK:=by
 cases J with
 |nil=>exact⟨a,λk o m=>m,R.obs w λo m=>k1 _ o m, .slice none 0 0, .iT _ _,⟨[],rfl, .nil,λi u x h=>by simp at h⟩,by decide⟩
 | @empty b o cap c el fz hW hc=>
   have E:(a++[(⟨[],2,b,0,0⟩:Ob)])[a.length]? =some ⟨[],2,b,0,0⟩:=by rw[gK (bl _),ul];rfl
   refine⟨a++[⟨[],2,b,0,0⟩],λk x m=> ?_,R.obs w λN m=> ?_, .slice (some ⟨1000+a.length,o,none⟩) 0 cap,?_,?_,by decide⟩
   ·rw[hG ((List.getElem?_eq_some_iff.1 m).1)];exact m
   ·rcases List.mem_append.1 m with q|q
    ·exact k1 _ N q
    ·rw[List.mem_singleton.1 q];exact⟨c,el,fz,hW,bl _,md _,λi E=>by cases E⟩
   ·have V:obM G (a++[⟨[],2,b,0,0⟩]) (1000+a.length)=some ⟨b,0,0,2⟩:=by rw[oF w _ _ (by omega),show 1000+a.length-1000=a.length by omega,E];rfl
    have:=VR.slice (μ:=obM G (a++[⟨[],2,b,0,0⟩])) (b:=1000+a.length) (o:=o) (l:=0) (c:=cap) (k:=⟨b,0,0,2⟩) V hc (md _);simpa using this
   ·have A:(obH G (a++[⟨[],2,b,0,0⟩])).get (1000+a.length)=some (.cells [] false 2):=by rw[qD w _ _ (by omega),show 1000+a.length-1000=a.length by omega,E];rfl
    exact⟨[],rfl, .mem ⟨by show 1000+a.length<1000+(a++[_]).length;simp,⟨[],false,2,A,by rw[aW,List.drop_nil];rfl⟩,rfl⟩ (md _),λi u x h=>by simp at h⟩
 | @full b o cap c el fz _ hW hne hl hc hat=>
   obtain⟨P,aw,D⟩:∃P:List Value,P.length=d.length/\∀j,j<d.length->∃x,P[j]? =some x/\c[o+j*2]? =some x:=by
    obtain⟨g,hg⟩:=choose_lt (α:=Value) (n:=d.length) (p:=λj x=>c[o+j*2]? =some x) (λj M=>by
     obtain⟨x,s,_⟩:=hat j _ (bx M);exact⟨x,s⟩)
    exact⟨(List.range d.length).map g,by simp,λj M=>⟨g j,by simp[M],hg j M⟩⟩
   have I:∀(j:Nat) (r:Sta) (x:Value),d[j]? =some r->P[j]? =some x->yQ W x r.found:=λj r x H s=>by
    obtain⟨x1,p1,p2⟩:=D j (List.getElem?_eq_some_iff.1 H).1;obtain⟨x2,p3,_,p4⟩:=hat j r H;rw[s]at p1;cases p1;rw[p2]at p3;cases p3;exact p4
   obtain⟨f,k2,F,hF,q2⟩:=Cm w aw I;have ba:0<d.length:=List.length_pos_iff.2 hne;have C:o+d.length*2<=c.size:=by
    obtain⟨x,_,s,_⟩:=hat (d.length-1) _ (bx (by omega));have:=(Array.getElem?_eq_some_iff.1 s).1;omega
   have X:(stL (F a.length) d).length=d.length*2:=GG (hF _);obtain⟨O,B⟩:∃O:Ob,O=⟨stL (F a.length) d,2,b,o,o+d.length*2⟩:=⟨_,rfl⟩;obtain⟨L,K⟩:∃L,L=a++(f++[O]):=⟨_,rfl⟩;have S:∀k x,a[k]? =some x->L[k]? =some x:=λk x s=>by rw[K,hG ((List.getElem?_eq_some_iff.1 s).1)];exact s
   have T:∀k x,f[k]? =some x->L[a.length+k]? =some x:=λk x s=>by rw[K,gK (by omega),sb,hG ((List.getElem?_eq_some_iff.1 s).1)];exact s
   have z:L[a.length+f.length]? =some O:=by rw[K,gK (by omega),sb,gK (by omega),ul];rfl
   have Q:=q2 L a.length T;have bi:=(List.getElem?_eq_some_iff.1 z).1;refine⟨L,S,R.obs w λN m=> ?_, .slice (some ⟨1000+(a.length+f.length),0,none⟩) d.length cap,?_,?_,by omega⟩
   ·rw[K]at m;rcases List.mem_append.1 m with q|q
    ·exact k1 _ N q
    ·rcases List.mem_append.1 q with q|q
     ·exact k2 _ N q
     ·rw[List.mem_singleton.1 q,B];refine⟨c,el,fz,hW,by show o+(stL (F a.length) d).length<=o+d.length*2;omega,C,λi E=> ?_⟩;have be:i<d.length*2:=by have:i<(stL (F a.length) d).length:=E;omega
      obtain⟨r,H⟩:∃r,d[i / 2]? =some r:=⟨d[i / 2]'(by omega),bx _⟩;obtain⟨x,ae,ar⟩:=D (i / 2) (by omega);obtain⟨u,t,Y,_⟩:=Q (i / 2) r x H ae;obtain⟨g1,g2⟩:=P5 t H;obtain⟨_,_,U,_⟩:=hat (i / 2) r H;rcases(by omega:i=i / 2*2∨i=i / 2*2+1)with e|e
      ·refine⟨x,by show c[o+i]? =some x;rw[e];exact ar,?_⟩;have:gv (stL (F a.length) d) i=u:=by unfold gv;rw[cH,e,g1];rfl
       show VR _ (gv (stL (F a.length) d) i) x;rw[this];exact Y
      ·refine⟨.int .i64 r.cost,by show c[o+i]? =_;rw[e,←Nat.add_assoc];exact U,?_⟩;have:gv (stL (F a.length) d) i= .int .i64 r.cost:=by unfold gv;rw[cH,e,g2];rfl
       show VR _ (gv (stL (F a.length) d) i) _;rw[this];exact .int _ _
   ·have V:obM G L (1000+(a.length+f.length))=some ⟨b,o,o+d.length*2,2⟩:=by rw[oF w _ _ (by omega),show 1000+(a.length+f.length)-1000=a.length+f.length by omega,z,B];rfl
    have:=VR.slice (μ:=obM G L) (b:=1000+(a.length+f.length)) (o:=0) (l:=d.length) (c:=cap) (k:=⟨b,o,o+d.length*2,2⟩) V hc hl;simpa using this
   ·have A:(obH G L).get (1000+(a.length+f.length))=some (.cells (stL (F a.length) d) false 2):=by rw[qD w _ _ (by omega),show 1000+(a.length+f.length)-1000=a.length+f.length by omega,z,B];rfl
    refine⟨F a.length,hF _, .mem ⟨by show 1000+(a.length+f.length)<1000+L.length;omega,⟨_,_,_,A,by rw[bQ,aW,py,gk (by omega)]⟩,X⟩ hl,λi u x h1 J=> ?_⟩;obtain⟨y,aE,_⟩:=D i (List.getElem?_eq_some_iff.1 J).1;obtain⟨u',t,_,Z⟩:=Q i x y J aE;rw[h1]at t;cases t;exact Z
theorem OD{W:World}(f:rA W G){z1 n1 z2 z3 j:Nat}{q r s t:Value}{c1 c2 n:List Value}{d:List Sta}(h1:gV W z1 q n1 c1)(u:gV W z2 r i c2)(w:gV W z3 s j n)(x:kP W t d):
 ∃(h:Heap) (μ:Mu),R Tryz.prog μ h W/\(∀b o,h.get b=some o->o.ro=true∨o.live=false)/\Rdy h/\1000<=h.next/\(∀g m,(g,m)∈G->h.get g=some (.cells m false 1))∧
 (∃a c,VR μ (.slice a n1 c) q/\aJ h z1 (.slice a n1 c) n1 c1/\c<UNK)/\(∃a c,VR μ (.slice a i c) r/\aJ h z2 (.slice a i c) i c2/\c<UNK)/\(∃a c,VR μ (.slice a j c) s/\aJ h z3 (.slice a j c) j n/\c<UNK)/\∃v,VR μ v t/\mZ h v d/\d.length<UNK:=by
 obtain⟨l,z,D⟩:=h1.lay f;obtain⟨p,A,E⟩:=u.lay f;obtain⟨C,B,F⟩:=w.lay f;obtain⟨L,k,y,Q⟩:=Sa f (l++(p++C)) (λμ o e=>(List.mem_append.1 e).elim (z μ o) λe=>(List.mem_append.1 e).elim (A μ o) (B μ o)) x;refine⟨obH G L,obM G L,y,SJ f,O9 f _,qt _ _,λg m h=>SI f _ h,D L 0 λo e=> ?_,E L l.length λo e=> ?_,F L (l.length+p.length) λo e=> ?_,Q⟩
 ·exact k 0 o (by rw[hG ((List.getElem?_eq_some_iff.1 e).1)];exact e)
 ·exact k _ o (by rw[gK (bl _),ul,hG ((List.getElem?_eq_some_iff.1 e).1)];exact e)
 ·exact k _ o (by rw[gK (by omega),sb,gK (bl _),ul];exact e)
section
variable {H:Type} {enc:TypeId×Value->H} {W:World} {base:Nat} {held:Bool}
theorem Cp:Tryz.prog.cellsOf 66=3:=by kernel_rfl
theorem Cq:Tryz.prog.cellsOf 49=2:=by kernel_rfl
theorem N6:Tryz.prog.cellsOf 47=1:=by kernel_rfl
theorem N5:Tryz.prog.cellsOf 5=1:=by kernel_rfl
variable{cs:List Value}{x:DataW H×List MemPlace}
theorem Es{b:Nat}{a:Nat->Bool}(h:DataW.trod enc Tryz.prog W base a held b 66 cs=some x):∃p:Fk,cs=fkL p:=by
 obtain⟨r,n,_,s,c,d,e⟩:=DataW.trod_struct Tryz.underlying66 h;rw[Cp]at c
 match cs,c with
 |[c0,c1,c2],_=>
  match r,d with
  |[y0,y1,y2],_=>
   have j:DataW.trod enc Tryz.prog W base a held n 3 [c0]=some y0:=by have:=e 0 _ rfl;simpa[vZ]using this
   have k:DataW.trod enc Tryz.prog W base a held n 3 [c1]=some y1:=by have:=e 1 _ rfl;simpa[vZ]using this
   have l:DataW.trod enc Tryz.prog W base a held n 3 [c2]=some y2:=by have:=e 2 _ rfl;simpa[vZ]using this
   obtain⟨f,m,_⟩:=DataW.trod_int Tryz.underlying3 j;obtain⟨g,o,_⟩:=DataW.trod_int Tryz.underlying3 k;obtain⟨i,q,_⟩:=DataW.trod_int Tryz.underlying3 l;cases m;cases o;cases q;exact⟨⟨f,g,i⟩,rfl⟩
instance:Inhabited Fk:=⟨⟨0,0,0⟩⟩
instance:Inhabited Sta:=⟨⟨[],0⟩⟩
def QL(W:World)(v:Value)(l:List Fk):Prop:=gV W 3 v l.length (jB l)
variable{v:Value}{d:DataW H}{p:List MemPlace}
theorem EU(b:Value.okWide Tryz.prog W .any base 29 v)(h:DataW.Trod enc Tryz.prog W 0 (λ_=>true) held 29 v d p)(f:∀n∈d.weights Tryz.prog 29,n<=reachBytes):∃l,QL W v l:=by
 obtain⟨l,c,_⟩:=rY (α:=Fk) Tryz.underlying29 Cp (by decide) (show Tryz.prog.bytesOf 66=24 by kernel_rfl) (by decide) (λ_=>True) fkL (λ_ _=>rfl) (λa v b=>by
  simp only[fkL,ui,xr,or_false]at b;rcases b with rfl|rfl|rfl<;>rfl) (λh=>by
  obtain⟨p,e⟩:=Es h;exact⟨p,trivial,e⟩) b h f
 exact⟨l,c⟩
theorem oU{P:Program}{e:TypeId}:∀{l:List (DataW H)} {d:DataW H},d∈l->∀n∈d.weights P e,n∈DataW.weightsAll P e l
 |x::l,d,hd,n,hn=>by
  simp only[DataW.weightsAll,wp];rcases List.mem_cons.1 hd with rfl|hd
  ·exact .inl hn
  ·exact .inr (oU hd n hn)
theorem NZ{t:Nat}(h:DataW.trod enc Tryz.prog W 0 (λ_=>true) held t 47 [v]=some x)(P:∀n∈x.1.weights Tryz.prog 47,n<=reachBytes):∃r,yQ W v r:=by
 rcases open_slice Tryz.underlying47 h with⟨h2,_⟩|⟨a,len,cap,m,n',D,Pl,h2,_,hl,_,hm,hy,G⟩
 ·cases h2;exact⟨[], .cells .nil⟩
 ·cases h2;rw[if_pos rfl]at hm;subst hm;have e:m<UNK:=by
   have M:Tryz.prog.bytesOf 5=1:=by kernel_rfl
   have:=P (m*1) (by
    rw[hy];simp only[DataW.weights,Tryz.underlying47,M,po,List.length_range,show len+(m-len)=m by omega];simp)
   unfold reachBytes at this;unfold UNK;omega
  obtain⟨b,o,l⟩:=a;by_cases h0:m=0
  ·subst h0;obtain rfl:len=0:=by omega
   exact⟨[], .AO⟩
  ·have u:∀i,i<m->∃k:Nat,W.cell? ((Addr.mk b o l).add (i*1))=some (.int .u8 (k:Nat)):=λi J=>by
    obtain⟨A,I,O⟩:=G i J;rw[N5]at I;obtain⟨g,_,C⟩:=World.cells?_some I
    match A,g with
    |[y],_=>
     obtain⟨k,q,_,w0⟩:=DataW.trod_int Tryz.underlying5 O;cases q;simp only[Lit.wf,ed,decide_eq_true_eq]at w0;have L:IntKind.u8.min=0:=rfl;rw[L]at w0;obtain⟨k,rfl⟩:=rp w0.1;refine⟨k,?_⟩;have:=C 0 (by omega);have K:((Addr.mk b o l).add (i*1)).add 0=(Addr.mk b o l).add (i*1):=rfl;rw[K]at this;rw[this];rfl
   obtain⟨Q,hc0⟩:=u 0 (by omega);have B:(Addr.mk b o l).add (0*1)=⟨b,o,l⟩:=rfl;rw[B]at hc0;unfold World.cell? at hc0;simp only at hc0;obtain⟨c,w,z,d⟩:∃c w z,W.heap[b]? =some (.cells c w z):=by
    split at hc0
    ·rename_i c w z he;exact⟨c,w,z,he⟩
    ·cases hc0
   have F:l=none:=by
    rw[d]at hc0;cases l with
    |none=>rfl
    |some s=>simp at hc0
   subst F;by_cases hl0:len=0
   ·subst hl0;exact⟨[], .cells (.empty d e)⟩
   ·obtain⟨f,N⟩:=choose_lt (α:=Nat) (n:=len) (p:=λi k=>c[o+i]? =some (.int .u8 (k:Nat))) (λi J=>by
     obtain⟨k,q⟩:=u i (by omega);refine⟨k,?_⟩;rw[add_eq,rt]at q;unfold World.cell? at q;simp only[d]at q;exact q)
    have g:((List.range len).map f).length=len:=by simp
    refine⟨(List.range len).map f, .cells ?_⟩;rw[g];refine .full d hl0 (by simp[fL]) (by omega) hl e (λj E=> ?_) (λx G=>by
     obtain⟨y,_,rfl⟩:=List.mem_map.1 G;rfl)
    rw[rt]at E;rw[N j E];simp[fL,E]
theorem DV{a:Nat}(h:DataW.trod enc Tryz.prog W 0 (λ_=>true) held a 49 cs=some x)(o:∀n∈x.1.weights Tryz.prog 49,n<=reachBytes):∃(u:Value) (r:Sta),cs=[u, .int .i64 r.cost]/\yQ W u r.found:=by
 obtain⟨p,n,_,m,b,c,d⟩:=DataW.trod_struct Tryz.underlying49 h;rw[Cq]at b
 match cs,b with
 |[c0,c1],_=>
  match p,c with
  |[y0,y1],_=>
   have f:DataW.trod enc Tryz.prog W 0 (λ_=>true) held n 47 [c0]=some y0:=by have:=d 0 _ rfl;simpa[N6]using this
   have g:DataW.trod enc Tryz.prog W 0 (λ_=>true) held n 3 [c1]=some y1:=by have:=d 1 _ rfl;simpa[vZ]using this
   obtain⟨e,i,_⟩:=DataW.trod_int Tryz.underlying3 g;cases i;obtain⟨r,l⟩:=NZ f λk j=>o k (by
    rw[m];simp only[DataW.weights,Tryz.underlying49,pD,List.map_nil,DataW.weightsEach,wp];exact .inl j)
   exact⟨c0,⟨r,e⟩,rfl,l⟩
theorem Du(P:Value.okWide Tryz.prog W .any base 30 v)(h:DataW.Trod enc Tryz.prog W 0 (λ_=>true) held 30 v d p)(Y:∀n∈d.weights Tryz.prog 30,n<=reachBytes):∃l,kP W v l:=by
 have t:Cell.okWide Tryz.prog W .any base 30 v:=by
  simpa only[Value.okWide,Tryz.underlying30]using P
 obtain⟨S,g,z,rfl⟩:=okWide_slice Tryz.underlying30 P;obtain⟨A,C⟩:=h;have C:DataW.trod enc Tryz.prog W 0 (λ_=>true) held A 30 [.slice S g z]=some (d,p):=by simpa[Value.cells]using C
 rcases open_slice Tryz.underlying30 C with⟨h2,_⟩|⟨a,len,cap,m,n',D,Pl,h2,_,hl,hcap,hm,hy,hx⟩
 ·cases h2;exact⟨[], .nil⟩
 ·cases h2;simp only[Cell.okWide,Cell.ok,Tryz.underlying30,World.has]at t;obtain⟨_,_,_,w,row,K,y,_⟩:=t;obtain⟨b,o,Z⟩:=a;simp only at w y;subst w;rw[if_pos rfl]at hm;subst hm;have U:d=(.slice ((List.range g).map D) ((List.range (m-g)).map λj=>D (g+j))):=congrArg Prod.fst hy;have L:Tryz.prog.bytesOf 49=32:=by kernel_rfl
  have Q:∀n,n=m*32∨n∈DataW.weightsAll Tryz.prog 49 ((List.range g).map D)->n<=reachBytes:=λn N=>by
   refine Y n ?_;rw[U];simp only[DataW.weights,Tryz.underlying30,L,po,List.length_range,show g+(m-g)=m by omega,ui,wp];exact N.imp id .inl
  have s:m<UNK:=by
   have:=Q (m*32) (.inl rfl);unfold reachBytes at this;unfold UNK;omega
  obtain⟨c,E,F,k⟩:∃c E F,W.heap[b]? =some (.cells c E F):=by
   unfold World.shape? at y;split at y
   ·rename_i c E F he;exact⟨c,E,F,he⟩
   ·cases y
  by_cases h0:g=0
  ·subst h0;exact⟨[], .empty k s⟩
  ·obtain⟨f,C⟩:=choose_lt (α:=Sta) (n:=g) (p:=λi r=>∃x,c[o+i*2]? =some x/\c[o+i*2+1]? =some (.int .i64 r.cost)/\yQ W x r.found) (λi V=>by
    obtain⟨T,O,X⟩:=hx i (by omega);obtain⟨u,r,rfl,J⟩:=DV X λn N=>Q n (.inr (oU (List.mem_map.2 ⟨i,List.mem_range.2 V,rfl⟩) n N));rw[Cq]at O;obtain⟨_,_,B⟩:=World.cells?_some O;have G:=B 0 (by omega);have I:=B 1 (by omega);rw[add_eq,add_eq]at G I;unfold World.cell? at G I;simp only[k]at G I;exact⟨r,u,G,I,J⟩)
   have q:((List.range g).map f).length=g:=by simp
   refine⟨(List.range g).map f,?_⟩;have:=kP.full (W:=W) (o:=o) (cap:=m) (d:=(List.range g).map f) k (by intro e;rw[e]at q;simp at q;omega) (by omega) s (λj r J=>by
    have M:=(List.getElem?_eq_some_iff.1 J).1;rw[q]at M;have e:r=f j:=by simpa[M]using J.symm
    rw[e];exact C j M)
   rw[q]at this;exact this
end
end Go.A.Pk
end
section
namespace Go.A.Pk
open Go Go.Proofs
theorem Vm:oe.h0=HZ 0 (Cu.map λn=> .int .u8 (n:Nat)) 1000:=by kernel_rfl
theorem XT:Entry Tryz.prog 6 (.lD pSd):= .lD (Mi sound (g:=0) (n:=1000) (vs:=Cu.map λn=> .int .u8 (n:Nat)) Tryz.func6 (of_decide_eq_true (by kernel_rfl)) (by kernel_rfl) nI (by decide) (by kernel_rfl) (by kernel_rfl) λc v h e b=>by
 unfold pSd at b;split at b
 ·split at b
  ·rename_i hT;cases b;refine⟨rfl,hT,λa d=>(nomatch d),rfl,?_⟩;rw[←Vm];exact oe.run
  ·cases b
 ·cases b)
theorem c13:aM Tryz.prog Tryz.f3 [[1,2,3,4,5,6,7],[1,2,3,4,5,6,7,42],[14],[1,2,3,4,5,6,7,15,16],[1,2,4,5,6,7,15,16,17,18],[1,2,5,6,7,15,16,17,18,19,20],[1,2,5,6,7,15,16,17,18,19,20,21,22],[1,2,5,6,7,15,16,17,18,19,20,21,22,77],[1,2,5,6,7,15,16,17,18,19,20,21,22,23,24],[1,2,5,6,7,15,16,17,18,19,20,21,22,24,25,26],[1,2,5,6,7,15,16,17,18,19,20,21,22,24,25,26,27,28],[1,2,5,6,7,16,17,18,19,20,21,22,148],[14],[1,2,5,6,7,17,18,19,20,21,22,150],[1,2,5,6,7,17,18,19,20,21,22,29],[5,6,17,18,19,20,22,30,31],[5,6,17,18,19,20,177],[14],[14]]=some f13:=by kernel_rfl
theorem c25:aM Tryz.prog Tryz.f4 [[1,2,3],[6]]=some f25:=by kernel_rfl
theorem c26:aM Tryz.prog Tryz.f5 [[0,1],[0,1,5],[0,1,5,13],[0,1,5,22],[4],[0,1,5],[4]]=some f26:=by kernel_rfl
theorem c35:aM Tryz.prog Tryz.f46 [[2,3],[4]]=some f35:=by kernel_rfl
theorem c58:aM Tryz.prog Tryz.f11 [[1,2,3],[8,9],[8,9,21],[6,7],[8,10],[8,10,28],[6,7],[8,10,11],[8,10,11,12],[11,12],[11],[6,7]]=some f58:=by kernel_rfl
theorem c59:aM Tryz.prog Tryz.f10 [[1,2,3],[1,8,9],[1,8,9,27],[6,7],[1,8,10],[1,8,10,30,31,32],[1,8,10,30,31,32,33],[1,8,10,12,30,31,32],[1,8,10,30,31,32],[1,8,10,30,31,32],[6,7]]=some f59:=by kernel_rfl
theorem c84:aM Tryz.prog Tryz.f12 [[1],[2]]=some f84:=by kernel_rfl
theorem W0:aM Tryz.prog Tryz.f36 [[1,2,3,4,5],[1,2,3,4,5,18],[6],[1,2,3,4,5,7],[1,2,3,4,5,7,21],[7,8],[],[3,4,5,7,9],[3,4,5,10],[3,4,5,10,12],[3,4,5,10,12],[3,4,5,10,12,13],[3,12,13,14],[12],[6]]=some f146:=by kernel_rfl
theorem Xa:aM Tryz.prog Tryz.f38 [[0,1,2,3],[5]]=some f148:=by kernel_rfl
theorem Xb:aM Tryz.prog Tryz.f40 [[0,1],[0,1,6],[0,1,6,9,10,11],[0,1,6,9,10,11,12],[0,1,6,7,8,9,10,11],[0,1,6,8,9,10,11,24],[0,1,6,9,10,11],[0,1,6,9,10,11],[4,5]]=some f150:=by kernel_rfl
theorem Xc:aM Tryz.prog Tryz.f41 [[0,1,2],[5]]=some f151:=by kernel_rfl
theorem Xd:aM Tryz.prog Tryz.f42 [[0,1],[0,1,5],[0,1,5,6],[0,1,6,11],[12],[4],[4],[0,1,13],[4],[0,1,16],[4],[19],[4],[4]]=some f152:=by kernel_rfl
theorem Xe:aM Tryz.prog Tryz.f34 [[1],[1,3],[1,3,4],[3,4],[3],[2]]=some f153:=by kernel_rfl
theorem Xf:aM Tryz.prog Tryz.f35 [[0],[0,4],[2],[2]]=some f154:=by kernel_rfl
theorem Xh:aM Tryz.prog Tryz.f43 [[1],[1,3],[1,3,4],[1,3,4,9],[1,3,4,5],[1,3,4,5,13],[1,3,4,5,6],[1,3,4,5,6,17],[1,3,4,5,6,7],[1,3,4,5,6,7,26],[1,3,4,5,6],[1,3,4,5,6],[1,3,4,5],[1,3,4],[2]]=some f170:=by kernel_rfl
theorem Xi:aM Tryz.prog Tryz.f68 [[2,3],[4]]=some f171:=by kernel_rfl
theorem Xr:aM Tryz.prog Tryz.f96 [[1],[2]]=some f225:=by kernel_rfl
theorem Xt:aM Tryz.prog Tryz.f67 [[0],[2]]=some f229:=by kernel_rfl
theorem Xu:aM Tryz.prog Tryz.f65 [[1,2,3,4,5],[1,2,3,4,5,17],[3,5,8],[3,5,24],[],[1,4,5,29,30],[1,4,5,29,30,31],[1,4,5,10,29,30],[1,4,5,29,30],[1,4,5,29,30]]=some f230:=by kernel_rfl
noncomputable def Fx:Tr:=(.node (.node (.node (.node (.node (.node (.node .nil 3 f13 .nil) 4 f25 (.node .nil 5 f26 .nil)) 6 (.lD pSd) (.node (.node .nil 7 f39 .nil) 8 f27 .nil)) 9 f29 (.node (.node (.node .nil 10 f59 .nil) 11 f58 .nil) 12 f84 (.node (.node .nil 19 f22 .nil) 23 f96 .nil))) 24 f128 (.node (.node (.node (.node .nil 25 f97 .nil) 26 f98 .nil) 27 f99 (.node (.node .nil 28 f104 .nil) 29 f105 .nil)) 30 f106 (.node (.node (.node .nil 31 f107 .nil) 32 f108 .nil) 33 f109 (.node (.node .nil 34 f153 .nil) 35 f154 .nil)))) 36 f146 (.node (.node (.node (.node (.node .nil 37 f147 .nil) 38 f148 .nil) 39 f149 (.node (.node .nil 40 f150 .nil) 41 f151 .nil)) 42 f152 (.node (.node (.node .nil 43 f170 .nil) 46 f35 .nil) 47 f123 (.node (.node .nil 48 f124 .nil) 51 f89 .nil))) 52 f90 (.node (.node (.node (.node .nil 53 f34 .nil) 54 f91 .nil) 55 f92 (.node (.node .nil 56 f141 .nil) 57 f201 .nil)) 58 f202 (.node (.node (.node .nil 59 f203 .nil) 60 f204 .nil) 61 f205 (.node (.node .nil 62 f206 .nil) 63 f143 .nil))))) 64 f207 (.node (.node (.node (.node (.node (.node .nil 65 f230 .nil) 66 f228 .nil) 67 f229 (.node (.node .nil 68 f171 .nil) 75 f174 .nil)) 76 f121 (.node (.node (.node .nil 77 f213 .nil) 78 f214 .nil) 79 f126 (.node (.node .nil 80 f127 .nil) 81 f120 .nil))) 82 f188 (.node (.node (.node (.node .nil 83 f72 .nil) 84 (.lD (pX 111 85)) .nil) 87 f192 (.node (.node .nil 88 f193 .nil) 89 f194 .nil)) 90 f195 (.node (.node (.node .nil 91 f196 .nil) 92 f197 .nil) 93 f62 (.node (.node .nil 94 f260 .nil) 95 f226 .nil)))) 96 f225 (.node (.node (.node (.node (.node .nil 101 f264 .nil) 102 f265 .nil) 103 f266 (.node (.node .nil 104 f215 .nil) 105 f209 .nil)) 106 f210 (.node (.node (.node .nil 107 f211 .nil) 108 f212 .nil) 109 f254 (.node (.node .nil 110 f167 .nil) 115 f257 .nil))) 116 f155 (.node (.node (.node (.node .nil 117 f156 .nil) 121 f261 .nil) 122 f262 (.node (.node .nil 123 f263 .nil) 135 f231 .nil)) 136 f317 (.node (.node (.node .nil 137 f318 .nil) 138 f319 .nil) 139 f320 (.node (.node .nil 140 f321 .nil) 141 f322 .nil))))))
noncomputable def T13:Nat->Option aq:=Fx.get
abbrev zq1:=@Tr.all_nil
theorem T1:Fx.all (Entry Tryz.prog):=by
 unfold Fx;exact(Tr.aa (Tr.aa (Tr.aa (Tr.aa (Tr.aa (Tr.aa (Tr.aa zq1 (.of Tryz.func3 c13) zq1) (.of Tryz.func4 c25) (Tr.aa zq1 (.of Tryz.func5 c26) zq1)) XT (Tr.aa (Tr.aa zq1 (.of Tryz.func7 c39) zq1) (.of Tryz.func8 c27) zq1)) (.of Tryz.func9 c29) (Tr.aa (Tr.aa (Tr.aa zq1 (.of Tryz.func10 c59) zq1) (.of Tryz.func11 c58) zq1) (.of Tryz.func12 c84) (Tr.aa (Tr.aa zq1 (.of Tryz.func19 c22) zq1) (.of Tryz.func23 c96) zq1))) (.of Tryz.func24 Ug) (Tr.aa (Tr.aa (Tr.aa (Tr.aa zq1 (.of Tryz.func25 c97) zq1) (.of Tryz.func26 c98) zq1) (.of Tryz.func27 c99) (Tr.aa (Tr.aa zq1 (.of Tryz.func28 T4) zq1) (.of Tryz.func29 T5) zq1)) (.of Tryz.func30 T6) (Tr.aa (Tr.aa (Tr.aa zq1 (.of Tryz.func31 T7) zq1) (.of Tryz.func32 T8) zq1) (.of Tryz.func33 T9) (Tr.aa (Tr.aa zq1 (.of Tryz.func34 Xe) zq1) (.of Tryz.func35 Xf) zq1)))) (.of Tryz.func36 W0) (Tr.aa (Tr.aa (Tr.aa (Tr.aa (Tr.aa zq1 (.of Tryz.func37 Uj) zq1) (.of Tryz.func38 Xa) zq1) (.of Tryz.func39 Uk) (Tr.aa (Tr.aa zq1 (.of Tryz.func40 Xb) zq1) (.of Tryz.func41 Xc) zq1)) (.of Tryz.func42 Xd) (Tr.aa (Tr.aa (Tr.aa zq1 (.of Tryz.func43 Xh) zq1) (.of Tryz.func46 c35) zq1) (.of Tryz.func47 Uc) (Tr.aa (Tr.aa zq1 (.of Tryz.func48 Ud) zq1) (.of Tryz.func51 c89) zq1))) (.of Tryz.func52 c90) (Tr.aa (Tr.aa (Tr.aa (Tr.aa zq1 (.of Tryz.func53 c34) zq1) (.of Tryz.func54 c91) zq1) (.of Tryz.func55 c92) (Tr.aa (Tr.aa zq1 (.of Tryz.func56 Uh) zq1) (.of Tryz.func57 Uw) zq1)) (.of Tryz.func58 Ux) (Tr.aa (Tr.aa (Tr.aa zq1 (.of Tryz.func59 Uy) zq1) (.of Tryz.func60 Uz) zq1) (.of Tryz.func61 UA) (Tr.aa (Tr.aa zq1 (.of Tryz.func62 UB) zq1) (.of Tryz.func63 Ui) zq1))))) (.of Tryz.func64 UC) (Tr.aa (Tr.aa (Tr.aa (Tr.aa (Tr.aa (Tr.aa zq1 (.of Tryz.func65 Xu) zq1) (.of Tryz.func66 UL) zq1) (.of Tryz.func67 Xt) (Tr.aa (Tr.aa zq1 (.of Tryz.func68 Xi) zq1) (.of Tryz.func75 Uo) zq1)) (.of Tryz.func76 Ub) (Tr.aa (Tr.aa (Tr.aa zq1 (.of Tryz.func77 UH) zq1) (.of Tryz.func78 UI) zq1) (.of Tryz.func79 Ue) (Tr.aa (Tr.aa zq1 (.of Tryz.func80 Uf) zq1) (.of Tryz.func81 Ua) zq1))) (.of Tryz.func82 Up) (Tr.aa (Tr.aa (Tr.aa (Tr.aa zq1 (.of Tryz.func83 c72) zq1) VJ zq1) (.of Tryz.func87 Uq) (Tr.aa (Tr.aa zq1 (.of Tryz.func88 Ur) zq1) (.of Tryz.func89 Us) zq1)) (.of Tryz.func90 Ut) (Tr.aa (Tr.aa (Tr.aa zq1 (.of Tryz.func91 Uu) zq1) (.of Tryz.func92 Uv) zq1) (.of Tryz.func93 c62) (Tr.aa (Tr.aa zq1 (.of Tryz.func94 UP) zq1) (.of Tryz.func95 UK) zq1)))) (.of Tryz.func96 Xr) (Tr.aa (Tr.aa (Tr.aa (Tr.aa (Tr.aa zq1 (.of Tryz.func101 UT) zq1) (.of Tryz.func102 UU) zq1) (.of Tryz.func103 UW) (Tr.aa (Tr.aa zq1 (.of Tryz.func104 UJ) zq1) (.of Tryz.func105 UD) zq1)) (.of Tryz.func106 UE) (Tr.aa (Tr.aa (Tr.aa zq1 (.of Tryz.func107 UF) zq1) (.of Tryz.func108 UG) zq1) (.of Tryz.func109 UN) (Tr.aa (Tr.aa zq1 (.of Tryz.func110 Un) zq1) (.of Tryz.func115 UO) zq1))) (.of Tryz.func116 Ul) (Tr.aa (Tr.aa (Tr.aa (Tr.aa zq1 (.of Tryz.func117 Um) zq1) (.of Tryz.func121 UQ) zq1) (.of Tryz.func122 UR) (Tr.aa (Tr.aa zq1 (.of Tryz.func123 US) zq1) (.of Tryz.func135 UM) zq1)) (.of Tryz.func136 UX) (Tr.aa (Tr.aa (Tr.aa zq1 (.of Tryz.func137 UY) zq1) (.of Tryz.func138 UZ) zq1) (.of Tryz.func139 U0) (Tr.aa (Tr.aa zq1 (.of Tryz.func140 U1) zq1) (.of Tryz.func141 U2) zq1))))))
theorem aX:ez Tryz.prog T13:=qR (by kernel_rfl) T1
theorem Vh:Je T13:={co:={od:={va:={op:={qu:={p:=aX.aF,f35:=by kernel_rfl,f121:=by kernel_rfl,f143:=by kernel_rfl,f174:=by kernel_rfl,f207:=by kernel_rfl,f226:=by kernel_rfl},f108:=by kernel_rfl,f147:=by kernel_rfl,f149:=by kernel_rfl,f228:=by kernel_rfl},f128:=by kernel_rfl},ak:={ne:={nd:={pl:={fi:={ft:={mp:={cp:={p:=aX.aF,f123:=by kernel_rfl,f213:=by kernel_rfl,f214:=by kernel_rfl,f264:=by kernel_rfl,f265:=by kernel_rfl,f266:=by kernel_rfl},tu:={p:=aX.aF,f263:=by kernel_rfl,f317:=by kernel_rfl,f318:=by kernel_rfl,f319:=by kernel_rfl,f320:=by kernel_rfl,f321:=by kernel_rfl,f322:=by kernel_rfl},f126:=by kernel_rfl,f127:=by kernel_rfl,f211:=by kernel_rfl,f215:=by kernel_rfl,f261:=by kernel_rfl,f262:=by kernel_rfl},bd:={cp:={p:=aX.aF,f123:=by kernel_rfl,f213:=by kernel_rfl,f214:=by kernel_rfl,f264:=by kernel_rfl,f265:=by kernel_rfl,f266:=by kernel_rfl},f210:=by kernel_rfl},li:={p:=aX.aF,f212:=by kernel_rfl},co:={p:=aX.aF,f188:=by kernel_rfl,f254:=by kernel_rfl},f35:=by kernel_rfl,f121:=by kernel_rfl,f209:=by kernel_rfl},f34:=by kernel_rfl,f120:=by kernel_rfl},f72:=by kernel_rfl,f167:=by kernel_rfl,f189:=by kernel_rfl,f192:=by kernel_rfl},f35:=by kernel_rfl,f92:=by kernel_rfl,f121:=by kernel_rfl,f124:=by kernel_rfl,f193:=by kernel_rfl,f194:=by kernel_rfl,f195:=by kernel_rfl,f196:=by kernel_rfl,f197:=by kernel_rfl,f257:=by kernel_rfl},f22:=by kernel_rfl,f89:=by kernel_rfl,f90:=by kernel_rfl,f91:=by kernel_rfl},cp:={p:=aX.aF,f62:=by kernel_rfl,f90:=by kernel_rfl,f106:=by kernel_rfl,f155:=by kernel_rfl,f156:=by kernel_rfl,f231:=by kernel_rfl},f141:=by kernel_rfl},lk:={nd:={pl:={fi:={ft:={mp:={cp:={p:=aX.aF,f123:=by kernel_rfl,f213:=by kernel_rfl,f214:=by kernel_rfl,f264:=by kernel_rfl,f265:=by kernel_rfl,f266:=by kernel_rfl},tu:={p:=aX.aF,f263:=by kernel_rfl,f317:=by kernel_rfl,f318:=by kernel_rfl,f319:=by kernel_rfl,f320:=by kernel_rfl,f321:=by kernel_rfl,f322:=by kernel_rfl},f126:=by kernel_rfl,f127:=by kernel_rfl,f211:=by kernel_rfl,f215:=by kernel_rfl,f261:=by kernel_rfl,f262:=by kernel_rfl},bd:={cp:={p:=aX.aF,f123:=by kernel_rfl,f213:=by kernel_rfl,f214:=by kernel_rfl,f264:=by kernel_rfl,f265:=by kernel_rfl,f266:=by kernel_rfl},f210:=by kernel_rfl},li:={p:=aX.aF,f212:=by kernel_rfl},co:={p:=aX.aF,f188:=by kernel_rfl,f254:=by kernel_rfl},f35:=by kernel_rfl,f121:=by kernel_rfl,f209:=by kernel_rfl},f34:=by kernel_rfl,f120:=by kernel_rfl},f72:=by kernel_rfl,f167:=by kernel_rfl,f189:=by kernel_rfl,f192:=by kernel_rfl},f35:=by kernel_rfl,f92:=by kernel_rfl,f121:=by kernel_rfl,f124:=by kernel_rfl,f193:=by kernel_rfl,f194:=by kernel_rfl,f195:=by kernel_rfl,f196:=by kernel_rfl,f197:=by kernel_rfl,f257:=by kernel_rfl},f201:=by kernel_rfl},f96:=by kernel_rfl},f39:=by kernel_rfl},fe:={p:=aX.aF,cr:={hr:={p:=aX.aF,f171:=by kernel_rfl,f225:=by kernel_rfl},f170:=by kernel_rfl},f25:=by kernel_rfl,f84:=by kernel_rfl},sg:={p:=aX.aF,f26:=by kernel_rfl},ck:={cs:={vi:={op:={qu:={p:=aX.aF,f35:=by kernel_rfl,f121:=by kernel_rfl,f143:=by kernel_rfl,f174:=by kernel_rfl,f207:=by kernel_rfl,f226:=by kernel_rfl},f108:=by kernel_rfl,f147:=by kernel_rfl,f149:=by kernel_rfl,f228:=by kernel_rfl},f106:=by kernel_rfl,f203:=by kernel_rfl,f204:=by kernel_rfl},f99:=by kernel_rfl},od:={va:={op:={qu:={p:=aX.aF,f35:=by kernel_rfl,f121:=by kernel_rfl,f143:=by kernel_rfl,f174:=by kernel_rfl,f207:=by kernel_rfl,f226:=by kernel_rfl},f108:=by kernel_rfl,f147:=by kernel_rfl,f149:=by kernel_rfl,f228:=by kernel_rfl},f128:=by kernel_rfl},ak:={ne:={nd:={pl:={fi:={ft:={mp:={cp:={p:=aX.aF,f123:=by kernel_rfl,f213:=by kernel_rfl,f214:=by kernel_rfl,f264:=by kernel_rfl,f265:=by kernel_rfl,f266:=by kernel_rfl},tu:={p:=aX.aF,f263:=by kernel_rfl,f317:=by kernel_rfl,f318:=by kernel_rfl,f319:=by kernel_rfl,f320:=by kernel_rfl,f321:=by kernel_rfl,f322:=by kernel_rfl},f126:=by kernel_rfl,f127:=by kernel_rfl,f211:=by kernel_rfl,f215:=by kernel_rfl,f261:=by kernel_rfl,f262:=by kernel_rfl},bd:={cp:={p:=aX.aF,f123:=by kernel_rfl,f213:=by kernel_rfl,f214:=by kernel_rfl,f264:=by kernel_rfl,f265:=by kernel_rfl,f266:=by kernel_rfl},f210:=by kernel_rfl},li:={p:=aX.aF,f212:=by kernel_rfl},co:={p:=aX.aF,f188:=by kernel_rfl,f254:=by kernel_rfl},f35:=by kernel_rfl,f121:=by kernel_rfl,f209:=by kernel_rfl},f34:=by kernel_rfl,f120:=by kernel_rfl},f72:=by kernel_rfl,f167:=by kernel_rfl,f189:=by kernel_rfl,f192:=by kernel_rfl},f35:=by kernel_rfl,f92:=by kernel_rfl,f121:=by kernel_rfl,f124:=by kernel_rfl,f193:=by kernel_rfl,f194:=by kernel_rfl,f195:=by kernel_rfl,f196:=by kernel_rfl,f197:=by kernel_rfl,f257:=by kernel_rfl},f22:=by kernel_rfl,f89:=by kernel_rfl,f90:=by kernel_rfl,f91:=by kernel_rfl},cp:={p:=aX.aF,f62:=by kernel_rfl,f90:=by kernel_rfl,f106:=by kernel_rfl,f155:=by kernel_rfl,f156:=by kernel_rfl,f231:=by kernel_rfl},f141:=by kernel_rfl},lk:={nd:={pl:={fi:={ft:={mp:={cp:={p:=aX.aF,f123:=by kernel_rfl,f213:=by kernel_rfl,f214:=by kernel_rfl,f264:=by kernel_rfl,f265:=by kernel_rfl,f266:=by kernel_rfl},tu:={p:=aX.aF,f263:=by kernel_rfl,f317:=by kernel_rfl,f318:=by kernel_rfl,f319:=by kernel_rfl,f320:=by kernel_rfl,f321:=by kernel_rfl,f322:=by kernel_rfl},f126:=by kernel_rfl,f127:=by kernel_rfl,f211:=by kernel_rfl,f215:=by kernel_rfl,f261:=by kernel_rfl,f262:=by kernel_rfl},bd:={cp:={p:=aX.aF,f123:=by kernel_rfl,f213:=by kernel_rfl,f214:=by kernel_rfl,f264:=by kernel_rfl,f265:=by kernel_rfl,f266:=by kernel_rfl},f210:=by kernel_rfl},li:={p:=aX.aF,f212:=by kernel_rfl},co:={p:=aX.aF,f188:=by kernel_rfl,f254:=by kernel_rfl},f35:=by kernel_rfl,f121:=by kernel_rfl,f209:=by kernel_rfl},f34:=by kernel_rfl,f120:=by kernel_rfl},f72:=by kernel_rfl,f167:=by kernel_rfl,f189:=by kernel_rfl,f192:=by kernel_rfl},f35:=by kernel_rfl,f92:=by kernel_rfl,f121:=by kernel_rfl,f124:=by kernel_rfl,f193:=by kernel_rfl,f194:=by kernel_rfl,f195:=by kernel_rfl,f196:=by kernel_rfl,f197:=by kernel_rfl,f257:=by kernel_rfl},f201:=by kernel_rfl},f96:=by kernel_rfl},f27:=by kernel_rfl,f97:=by kernel_rfl,f98:=by kernel_rfl,f202:=by kernel_rfl},ca:={by':={p:=aX.aF,f104:=by kernel_rfl,f105:=by kernel_rfl,f107:=by kernel_rfl,f205:=by kernel_rfl,f206:=by kernel_rfl,f260:=by kernel_rfl},ho:={op:={qu:={p:=aX.aF,f35:=by kernel_rfl,f121:=by kernel_rfl,f143:=by kernel_rfl,f174:=by kernel_rfl,f207:=by kernel_rfl,f226:=by kernel_rfl},f108:=by kernel_rfl,f147:=by kernel_rfl,f149:=by kernel_rfl,f228:=by kernel_rfl},f109:=by kernel_rfl},od:={va:={op:={qu:={p:=aX.aF,f35:=by kernel_rfl,f121:=by kernel_rfl,f143:=by kernel_rfl,f174:=by kernel_rfl,f207:=by kernel_rfl,f226:=by kernel_rfl},f108:=by kernel_rfl,f147:=by kernel_rfl,f149:=by kernel_rfl,f228:=by kernel_rfl},f128:=by kernel_rfl},ak:={ne:={nd:={pl:={fi:={ft:={mp:={cp:={p:=aX.aF,f123:=by kernel_rfl,f213:=by kernel_rfl,f214:=by kernel_rfl,f264:=by kernel_rfl,f265:=by kernel_rfl,f266:=by kernel_rfl},tu:={p:=aX.aF,f263:=by kernel_rfl,f317:=by kernel_rfl,f318:=by kernel_rfl,f319:=by kernel_rfl,f320:=by kernel_rfl,f321:=by kernel_rfl,f322:=by kernel_rfl},f126:=by kernel_rfl,f127:=by kernel_rfl,f211:=by kernel_rfl,f215:=by kernel_rfl,f261:=by kernel_rfl,f262:=by kernel_rfl},bd:={cp:={p:=aX.aF,f123:=by kernel_rfl,f213:=by kernel_rfl,f214:=by kernel_rfl,f264:=by kernel_rfl,f265:=by kernel_rfl,f266:=by kernel_rfl},f210:=by kernel_rfl},li:={p:=aX.aF,f212:=by kernel_rfl},co:={p:=aX.aF,f188:=by kernel_rfl,f254:=by kernel_rfl},f35:=by kernel_rfl,f121:=by kernel_rfl,f209:=by kernel_rfl},f34:=by kernel_rfl,f120:=by kernel_rfl},f72:=by kernel_rfl,f167:=by kernel_rfl,f189:=by kernel_rfl,f192:=by kernel_rfl},f35:=by kernel_rfl,f92:=by kernel_rfl,f121:=by kernel_rfl,f124:=by kernel_rfl,f193:=by kernel_rfl,f194:=by kernel_rfl,f195:=by kernel_rfl,f196:=by kernel_rfl,f197:=by kernel_rfl,f257:=by kernel_rfl},f22:=by kernel_rfl,f89:=by kernel_rfl,f90:=by kernel_rfl,f91:=by kernel_rfl},cp:={p:=aX.aF,f62:=by kernel_rfl,f90:=by kernel_rfl,f106:=by kernel_rfl,f155:=by kernel_rfl,f156:=by kernel_rfl,f231:=by kernel_rfl},f141:=by kernel_rfl},lk:={nd:={pl:={fi:={ft:={mp:={cp:={p:=aX.aF,f123:=by kernel_rfl,f213:=by kernel_rfl,f214:=by kernel_rfl,f264:=by kernel_rfl,f265:=by kernel_rfl,f266:=by kernel_rfl},tu:={p:=aX.aF,f263:=by kernel_rfl,f317:=by kernel_rfl,f318:=by kernel_rfl,f319:=by kernel_rfl,f320:=by kernel_rfl,f321:=by kernel_rfl,f322:=by kernel_rfl},f126:=by kernel_rfl,f127:=by kernel_rfl,f211:=by kernel_rfl,f215:=by kernel_rfl,f261:=by kernel_rfl,f262:=by kernel_rfl},bd:={cp:={p:=aX.aF,f123:=by kernel_rfl,f213:=by kernel_rfl,f214:=by kernel_rfl,f264:=by kernel_rfl,f265:=by kernel_rfl,f266:=by kernel_rfl},f210:=by kernel_rfl},li:={p:=aX.aF,f212:=by kernel_rfl},co:={p:=aX.aF,f188:=by kernel_rfl,f254:=by kernel_rfl},f35:=by kernel_rfl,f121:=by kernel_rfl,f209:=by kernel_rfl},f34:=by kernel_rfl,f120:=by kernel_rfl},f72:=by kernel_rfl,f167:=by kernel_rfl,f189:=by kernel_rfl,f192:=by kernel_rfl},f35:=by kernel_rfl,f92:=by kernel_rfl,f121:=by kernel_rfl,f124:=by kernel_rfl,f193:=by kernel_rfl,f194:=by kernel_rfl,f195:=by kernel_rfl,f196:=by kernel_rfl,f197:=by kernel_rfl,f257:=by kernel_rfl},f201:=by kernel_rfl},f96:=by kernel_rfl},f29:=by kernel_rfl,f106:=by kernel_rfl},av:={od:={va:={op:={qu:={p:=aX.aF,f35:=by kernel_rfl,f121:=by kernel_rfl,f143:=by kernel_rfl,f174:=by kernel_rfl,f207:=by kernel_rfl,f226:=by kernel_rfl},f108:=by kernel_rfl,f147:=by kernel_rfl,f149:=by kernel_rfl,f228:=by kernel_rfl},f128:=by kernel_rfl},ak:={ne:={nd:={pl:={fi:={ft:={mp:={cp:={p:=aX.aF,f123:=by kernel_rfl,f213:=by kernel_rfl,f214:=by kernel_rfl,f264:=by kernel_rfl,f265:=by kernel_rfl,f266:=by kernel_rfl},tu:={p:=aX.aF,f263:=by kernel_rfl,f317:=by kernel_rfl,f318:=by kernel_rfl,f319:=by kernel_rfl,f320:=by kernel_rfl,f321:=by kernel_rfl,f322:=by kernel_rfl},f126:=by kernel_rfl,f127:=by kernel_rfl,f211:=by kernel_rfl,f215:=by kernel_rfl,f261:=by kernel_rfl,f262:=by kernel_rfl},bd:={cp:={p:=aX.aF,f123:=by kernel_rfl,f213:=by kernel_rfl,f214:=by kernel_rfl,f264:=by kernel_rfl,f265:=by kernel_rfl,f266:=by kernel_rfl},f210:=by kernel_rfl},li:={p:=aX.aF,f212:=by kernel_rfl},co:={p:=aX.aF,f188:=by kernel_rfl,f254:=by kernel_rfl},f35:=by kernel_rfl,f121:=by kernel_rfl,f209:=by kernel_rfl},f34:=by kernel_rfl,f120:=by kernel_rfl},f72:=by kernel_rfl,f167:=by kernel_rfl,f189:=by kernel_rfl,f192:=by kernel_rfl},f35:=by kernel_rfl,f92:=by kernel_rfl,f121:=by kernel_rfl,f124:=by kernel_rfl,f193:=by kernel_rfl,f194:=by kernel_rfl,f195:=by kernel_rfl,f196:=by kernel_rfl,f197:=by kernel_rfl,f257:=by kernel_rfl},f22:=by kernel_rfl,f89:=by kernel_rfl,f90:=by kernel_rfl,f91:=by kernel_rfl},cp:={p:=aX.aF,f62:=by kernel_rfl,f90:=by kernel_rfl,f106:=by kernel_rfl,f155:=by kernel_rfl,f156:=by kernel_rfl,f231:=by kernel_rfl},f141:=by kernel_rfl},lk:={nd:={pl:={fi:={ft:={mp:={cp:={p:=aX.aF,f123:=by kernel_rfl,f213:=by kernel_rfl,f214:=by kernel_rfl,f264:=by kernel_rfl,f265:=by kernel_rfl,f266:=by kernel_rfl},tu:={p:=aX.aF,f263:=by kernel_rfl,f317:=by kernel_rfl,f318:=by kernel_rfl,f319:=by kernel_rfl,f320:=by kernel_rfl,f321:=by kernel_rfl,f322:=by kernel_rfl},f126:=by kernel_rfl,f127:=by kernel_rfl,f211:=by kernel_rfl,f215:=by kernel_rfl,f261:=by kernel_rfl,f262:=by kernel_rfl},bd:={cp:={p:=aX.aF,f123:=by kernel_rfl,f213:=by kernel_rfl,f214:=by kernel_rfl,f264:=by kernel_rfl,f265:=by kernel_rfl,f266:=by kernel_rfl},f210:=by kernel_rfl},li:={p:=aX.aF,f212:=by kernel_rfl},co:={p:=aX.aF,f188:=by kernel_rfl,f254:=by kernel_rfl},f35:=by kernel_rfl,f121:=by kernel_rfl,f209:=by kernel_rfl},f34:=by kernel_rfl,f120:=by kernel_rfl},f72:=by kernel_rfl,f167:=by kernel_rfl,f189:=by kernel_rfl,f192:=by kernel_rfl},f35:=by kernel_rfl,f92:=by kernel_rfl,f121:=by kernel_rfl,f124:=by kernel_rfl,f193:=by kernel_rfl,f194:=by kernel_rfl,f195:=by kernel_rfl,f196:=by kernel_rfl,f197:=by kernel_rfl,f257:=by kernel_rfl},f201:=by kernel_rfl},f96:=by kernel_rfl},ss:={op:={qu:={p:=aX.aF,f35:=by kernel_rfl,f121:=by kernel_rfl,f143:=by kernel_rfl,f174:=by kernel_rfl,f207:=by kernel_rfl,f226:=by kernel_rfl},f108:=by kernel_rfl,f147:=by kernel_rfl,f149:=by kernel_rfl,f228:=by kernel_rfl},f153:=by kernel_rfl,f230:=by kernel_rfl},f59:=by kernel_rfl,f154:=by kernel_rfl},st:={bd:={bu:={va:={op:={qu:={p:=aX.aF,f35:=by kernel_rfl,f121:=by kernel_rfl,f143:=by kernel_rfl,f174:=by kernel_rfl,f207:=by kernel_rfl,f226:=by kernel_rfl},f108:=by kernel_rfl,f147:=by kernel_rfl,f149:=by kernel_rfl,f228:=by kernel_rfl},f128:=by kernel_rfl},f148:=by kernel_rfl,f150:=by kernel_rfl,f151:=by kernel_rfl,f152:=by kernel_rfl,f229:=by kernel_rfl},f146:=by kernel_rfl},od:={va:={op:={qu:={p:=aX.aF,f35:=by kernel_rfl,f121:=by kernel_rfl,f143:=by kernel_rfl,f174:=by kernel_rfl,f207:=by kernel_rfl,f226:=by kernel_rfl},f108:=by kernel_rfl,f147:=by kernel_rfl,f149:=by kernel_rfl,f228:=by kernel_rfl},f128:=by kernel_rfl},ak:={ne:={nd:={pl:={fi:={ft:={mp:={cp:={p:=aX.aF,f123:=by kernel_rfl,f213:=by kernel_rfl,f214:=by kernel_rfl,f264:=by kernel_rfl,f265:=by kernel_rfl,f266:=by kernel_rfl},tu:={p:=aX.aF,f263:=by kernel_rfl,f317:=by kernel_rfl,f318:=by kernel_rfl,f319:=by kernel_rfl,f320:=by kernel_rfl,f321:=by kernel_rfl,f322:=by kernel_rfl},f126:=by kernel_rfl,f127:=by kernel_rfl,f211:=by kernel_rfl,f215:=by kernel_rfl,f261:=by kernel_rfl,f262:=by kernel_rfl},bd:={cp:={p:=aX.aF,f123:=by kernel_rfl,f213:=by kernel_rfl,f214:=by kernel_rfl,f264:=by kernel_rfl,f265:=by kernel_rfl,f266:=by kernel_rfl},f210:=by kernel_rfl},li:={p:=aX.aF,f212:=by kernel_rfl},co:={p:=aX.aF,f188:=by kernel_rfl,f254:=by kernel_rfl},f35:=by kernel_rfl,f121:=by kernel_rfl,f209:=by kernel_rfl},f34:=by kernel_rfl,f120:=by kernel_rfl},f72:=by kernel_rfl,f167:=by kernel_rfl,f189:=by kernel_rfl,f192:=by kernel_rfl},f35:=by kernel_rfl,f92:=by kernel_rfl,f121:=by kernel_rfl,f124:=by kernel_rfl,f193:=by kernel_rfl,f194:=by kernel_rfl,f195:=by kernel_rfl,f196:=by kernel_rfl,f197:=by kernel_rfl,f257:=by kernel_rfl},f22:=by kernel_rfl,f89:=by kernel_rfl,f90:=by kernel_rfl,f91:=by kernel_rfl},cp:={p:=aX.aF,f62:=by kernel_rfl,f90:=by kernel_rfl,f106:=by kernel_rfl,f155:=by kernel_rfl,f156:=by kernel_rfl,f231:=by kernel_rfl},f141:=by kernel_rfl},lk:={nd:={pl:={fi:={ft:={mp:={cp:={p:=aX.aF,f123:=by kernel_rfl,f213:=by kernel_rfl,f214:=by kernel_rfl,f264:=by kernel_rfl,f265:=by kernel_rfl,f266:=by kernel_rfl},tu:={p:=aX.aF,f263:=by kernel_rfl,f317:=by kernel_rfl,f318:=by kernel_rfl,f319:=by kernel_rfl,f320:=by kernel_rfl,f321:=by kernel_rfl,f322:=by kernel_rfl},f126:=by kernel_rfl,f127:=by kernel_rfl,f211:=by kernel_rfl,f215:=by kernel_rfl,f261:=by kernel_rfl,f262:=by kernel_rfl},bd:={cp:={p:=aX.aF,f123:=by kernel_rfl,f213:=by kernel_rfl,f214:=by kernel_rfl,f264:=by kernel_rfl,f265:=by kernel_rfl,f266:=by kernel_rfl},f210:=by kernel_rfl},li:={p:=aX.aF,f212:=by kernel_rfl},co:={p:=aX.aF,f188:=by kernel_rfl,f254:=by kernel_rfl},f35:=by kernel_rfl,f121:=by kernel_rfl,f209:=by kernel_rfl},f34:=by kernel_rfl,f120:=by kernel_rfl},f72:=by kernel_rfl,f167:=by kernel_rfl,f189:=by kernel_rfl,f192:=by kernel_rfl},f35:=by kernel_rfl,f92:=by kernel_rfl,f121:=by kernel_rfl,f124:=by kernel_rfl,f193:=by kernel_rfl,f194:=by kernel_rfl,f195:=by kernel_rfl,f196:=by kernel_rfl,f197:=by kernel_rfl,f257:=by kernel_rfl},f201:=by kernel_rfl},f96:=by kernel_rfl},f58:=by kernel_rfl},f13:=by kernel_rfl,f21:=by kernel_rfl}
open Go.RowKit in
theorem D6{W:World}(V:zi W){w:List Nat×List Nat}(hw:IsW w){g i j k:Value}{l:List Pb}(h1:Q9 W g l){os:List (List Nat)}(J:TV W i os){s:List Fk}(O:QL W j s){d:List Sta}(P:kP W k d)(cost:Int){f:Int}(z: -9223372036854775808<=f/\f<9223372036854775808):Calls Tryz.prog 3 #[wV w,g,i,j,k, .int .i64 cost, .int .i64 f] W λe I=>e= .returned (.bool true)/\Below W.heap.size W I:=by
 obtain⟨h,μ,v,A,q,Z,y,⟨L,n1,C,t,T⟩,⟨M,n2,D,u,U⟩,⟨N,n3,E,B,X⟩,u4,F,K,x⟩:=OD V.gl h1.1 J.1 O P;have p:∀{sz n:Nat} {a:Option Addr} {c:Nat} {cs:List Value},aJ h sz (.slice a n c) n cs->c<=UNK-1->n<4611686018427387904:=λhs S=>by
  rcases aJ.inv hs with⟨_,_,h0,_⟩|⟨b,o,cap,G,_,S⟩
  ·rw[h0];decide
  ·cases G;unfold UNK at*;omega
 obtain⟨r',h',⟨m,Y⟩,rfl,rfl⟩:=Vv Vh q (y 0 _ b6) (by omega) hw ⟨t,h1.2⟩ (p t (by unfold UNK at*;omega)) ⟨u,J.2⟩ (p u (by unfold UNK at*;omega)) (s:=s) B K (by unfold UNK at x;omega) (cost:=cost) z;have r:=Y m (bl _);have Q:LR μ [wV w, .slice L l.length n1, .slice M os.length n2, .slice N s.length n3,u4, .int .i64 cost, .int .i64 f] [wV w,g,i,j,k, .int .i64 cost, .int .i64 f]:= .cons (VR.cE (Lw w)).1 (.cons C (.cons D (.cons E (.cons F (.cons (.int _ _) (.cons (.int _ _) .nil))))));refine(mM aX r q.log (by kernel_rfl) v Q).mono λe I hq=> ?_;obtain⟨μ',H,q2,q3⟩:=hq;cases e with
 |returned v'=>
  have G:VR μ' (.bool true) v':=H;cases G;exact⟨rfl,St.below q3 A⟩
 |panicked _=>exact H.elim
 |outgrown=>exact H.elim
end Go.A.Pk
end
