/- Walks of functions, plain laws, the table. -/
import Derived.Test.YtppgkemkfdkobaaGreatDoorGF
import Derived.Test.YtppgkemkfdkobaaGreatDoorGV
import Derived.Test.YtppgkemkfdkobaaGreatDoorGD
import Derived.Carry
import Derived.Lib.SmallJoins
import Derived.Deep.Slices
import Derived.Deep.Fields
import Derived.Test.YtppgkemkfdkobaaGreatDoorGH
import Derived.SizedLaws
import Derived.KernelRfl
import Derived.Lib.LaidTab
set_option linter.all false
set_option maxRecDepth 100000
section
namespace Go.A.Pk
variable {T:Nat->Option aq}
structure Rd where
 id:Int
 known:Int
 kind:Nat
 cells:List Nat
 of:Int
 deriving DecidableEq
structure IsR (r:Rd):Prop where
 cells:IsS r.cells
 kind:r.kind<256
def rdL(r:Rd):List Value:= zc r.id:: zc r.known:: .int .u8 (r.kind:Nat)::(us r.cells++[zc r.of])
def nT:∀{a b:List Value},eN a=true->eN b=true->eN (a++b)=true
 |[],_,_,h=>h
 |v::a,b,h1,h2=>by
  rw[SW];cases v<;>first|(simp only[eN]at h1;cases h1;done)|(simp only[eN]at h1⊢;exact nT h1 h2)
def tZ{k:IntKind}{a:Nat}{b:Int}{c:Nat}(hb:b=(c:Int)):af .eql (.int k (a:Nat)) (.int k b)=some (.bool (decide (a=c))):=by
 subst hb;rw[xh];by_cases h:a=c
 ·subst h;simp
 ·rw[decide_eq_false h];have:((a:Int)==(c:Int))=false:=by simp;omega
  rw[this]
def rsL(l:List Rd):List Value:=l.flatMap rdL
structure abL (vs:List Value) (o:Nat) (r:Rd):Prop where
 all:cm 12 (bQ o vs)=rdL r
 id:bN vs (o+0)=some (zc r.id)
 known:bN vs (o+1)=some (zc r.known)
 kind:bN vs (o+2)=some (.int .u8 (r.kind:Nat))
 cells:cm 8 (bQ (o+3) vs)=us r.cells
 of:bN vs (o+11)=some (zc r.of)
structure RdS (h:Heap) (v:Value) (l:List Rd):Prop where
 sl:aH h 12 v l.length (rsL l)
 ok:∀r∈l,IsR r
def PI:∀pl:List Nat,∀t:List Value,j7 t t=true->j7 (us pl++t) (us pl++t)=true
 |[],t,h=>h
 |a::pl,t,h=>cD (eT _ _) (PI pl t h)
open Classical in
noncomputable def pSd:List Value->Heap->Option (Value×Heap)
 |[],h=>if Tab h then some (.bool true,h)else none
 |_,_=>none
def Zd{h:Heap}(a:T 5=some (.mW pSd))(b:Tab h):Pu T 5 [] h (.bool true):=by
 refine⟨_,_,⟨1,λn c=> ?_⟩,rfl,rfl⟩;obtain⟨k,rfl⟩:∃k,n=k+1:=⟨n-1,ω⟩;simp only[jM,a,pSd,if_pos b]
end Go.A.Pk
end
section
namespace Go.A
open Go.ChangeShapes Go.WideShapes Go.ChangeAt Go.RowKit
section
variable {H:Type} {enc:TypeId×Value->H} {P:Program}
def ud(i:laidOutB P=true){W f:World}(hb:Below W.heap.size W f):∀{ts:List TypeId} {vs:List Value} {c:List (DataW H)} {ps:List MemPlace},(∀t∈ts,P.readableRec t=true/\t<P.types.size)->DataW.TrodAll enc P W 0 (λ_=>true) true ts vs c ps→
 (∀x∈ps,x.block<W.heap.size)->DataW.TrodAll enc P f 0 (λb=>decide (b<W.heap.size)) true ts vs c ps
 |[],vs,c,ps,_,h,_=>by
  obtain⟨rfl,rfl,rfl⟩:=trodAll_nil h;exact trodAll_mk0
 |t::ts,vs,c,ps,hr,h,hlt=>by
  obtain⟨v,m,d,j,p,q,rfl,rfl,rfl,k,a⟩:=trodAll_cons h;have g:=hr t (b7 ..);exact⟨p,q,Below.trod i g.1 g.2 k hb λx e=>hlt x (GT _ e),ud i hb (λt l=>hr t (bz _ l)) a λx e=>hlt x (IR _ e),rfl⟩
def Nz{f:Func}{s:ChangeSpec}{W k:World}{args:Array Value}{a gs:List (DataW H)}{before:List MemPlace}{o:TypeId}(m:DataW.Whole enc P f.params.toList s.vars false W args.toList a gs before)(n:s.vars=[])
 (e:(s.fn H a).results=[.lit (.bool true)]/\(s.fn H a).args=a/\(s.fn H a).vars=[])(y:laidOutB P=true)(hr:∀t∈f.params.toList,P.readableRec t=true/\t<P.types.size)(c:f.resultTypes= #[o])(j:P.underlying o=some .bool)(hb:Below W.heap.size W k):
 s.post enc P f false true false false W args (.bool true) k:=by
 have b:=m;obtain⟨p,q,w,l,i,B,A⟩:=m;rw[n]at l;obtain⟨rfl,rfl⟩:=trodVars_none l;have d:before=p:=by simpa using i
 subst d;obtain⟨r,u,v⟩:=e;have g:∀x∈before,x.block<W.heap.size:=λx z=>by simpa using b.lt x z
 refine⟨a,[],before,[],before,[],b,?_,?_,?_,hb.frame _,λh=>by cases h⟩
 ·rw[wl,r,c];exact trodAll_cons_mk (shut_bool j _) trodAll_mk0
 ·rw[wl,u];exact ud y hb hr w g
 ·rw[wl,v,n];rfl
end
end Go.A
end
section
namespace Go.A.Pk
open Go Go.Proofs Go.Joins Go.ChangeShapes Go.WideShapes Go.RowKit Go.Deep
inductive kr (W:World) (sz:Nat):Value->Nat->List Value->Prop
 |nil:kr W sz (.slice none 0 0) 0 []
 |empty {b o cap c el fz}:W.heap[b]? =some (.cells c el fz)->cap<UNK->kr W sz (.slice (some ⟨b,o,none⟩) 0 cap) 0 []
 |full {b o cap n c el fz} {cs:List Value}:W.heap[b]? =some (.cells c el fz)->n≠0->cs.length=n*sz->0<sz->n<=cap->cap<UNK->(∀j,j<n*sz->c[o+j]? =cs[j]?)->(∀x∈cs,dA x=true)->kr W sz (.slice (some ⟨b,o,none⟩) n cap) n cs
structure Ob where
 vs:List Value
 sz:Nat
 b:Nat
 d:Nat
 e:Nat
def qB:Nat->List Ob->List (Nat×bT)
 |_,[]=>[]
 |n,o::l=>(n, .cells o.vs false o.sz)::qB (n+1) l
abbrev Gl:=List (Nat×List Value)
def glL(G:Gl)(l:List (Nat×bT)):List (Nat×bT):=match G with
 |[]=>l
 |(g,vs)::G=>(g, .cells vs false 1)::glL G l
def glM(G:Gl)(f:Mu):Mu:=match G with
 |[]=>f
 |(g,vs)::G=>λx=>if x=g then some ⟨g,0,vs.length,1⟩else glM G f x
def obH(G:Gl)(l:List Ob):Heap:=⟨glL G (qB 1000 l),1000+l.length,[]⟩
def obM(G:Gl)(l:List Ob):Mu:=glM G λx=>if 1000<=x then(l[x-1000]?).map λo=>⟨o.b,o.d,o.e,o.sz⟩else none
structure Xo (W:World) (μ:Mu) (o:Ob):Prop where
 ok:∃c el fz,W.heap[o.b]? =some (.cells c el fz)/\o.d+o.vs.length<=o.e/\o.e<=c.size/\∀i,i<o.vs.length->∃v',c[o.d+i]? =some v'∧VR μ (gv o.vs i) v'
def zR:∀(l:List Ob) (n x:Nat),fT (qB n l) x=if n<=x then(l[x-n]?).map λo=> .cells o.vs false o.sz else none
 |[],n,x=>by simp[qB,fT]
 |o::l,n,x=>by
  simp only[qB,fT,cond_eq_ite,beq_eq,decide_eq_true_eq];by_cases hx:n=x
  ·subst hx;rw[if_pos rfl,if_pos (bl _),J0];rfl
  ·rw[if_neg hx,zR l (n+1) x];by_cases h1:n<=x
   ·rw[if_pos h1,if_pos ω,show x-n=(x-(n+1))+1 by omega,List.getElem?_cons_succ]
   ·rw[if_neg h1,if_neg ω]
structure yh (W:World) (G:Gl):Prop where
 ok:∀q∈G,q.1<Tryz.prog.globals.size/\(∃t fz,W.heap[q.1]? =some (.cells q.2.toArray t fz))/\∀v∈q.2,dA v=true
 nd:(G.map (·.1)).Nodup
def CE(G:Gl)(l:List (Nat×bT))(x:Nat):(∃a,(x,a)∈G/\fT (glL G l) x=some (.cells a false 1))∨((∀a,(x,a) ∉ G)/\fT (glL G l) x=fT l x):=by
 induction G with
 |nil=>exact .inr ⟨λa h=>(nomatch h),rfl⟩
 |cons q G ih=>
  obtain⟨g,a⟩:=q;by_cases hx:x=g
  ·subst hx;refine .inl ⟨a,b7,?_⟩;simp[glL,fT]
  ·have e:fT (glL ((g,a)::G) l) x=fT (glL G l) x:=by
    simp only[glL,fT,cond_eq_ite,beq_eq,decide_eq_true_eq,if_neg (Ne.symm hx)]
   rw[e];rcases ih with⟨us,h1,h2⟩|⟨h1,h2⟩
   ·exact .inl ⟨us,bz _ h1,h2⟩
   ·exact .inr ⟨λus h=>by
     rcases List.mem_cons.1 h with h|h
     ·cases h;exact hx rfl
     ·exact h1 us h,h2⟩
variable{G:Gl}
def vg(b:(G.map (·.1)).Nodup)(f:Mu)(x:Nat):(∀a,(x,a)∈G->glM G f x=some ⟨x,0,a.length,1⟩)/\((∀a,(x,a) ∉ G)->glM G f x=f x):=by
 induction G with
 |nil=>exact⟨λa h=>by(cases h),λ_=>rfl⟩
 |cons q G ih=>
  obtain⟨g,us⟩:=q;rw[xP,Ys]at b;obtain⟨d,i⟩:=ih b.2;refine⟨λa h=> ?_,λh=> ?_⟩
  ·rcases List.mem_cons.1 h with h|h
   ·cases h;simp[glM]
   ·have:x≠g:=λe=>b.1 (List.mem_map.2 ⟨(x,a),h,e⟩);simp only[glM,if_neg this];exact d a h
  ·have:x≠g:=λe=>h us (by rw[e];exact b7);simp only[glM,if_neg this];exact i λa c=>h a (bz _ c)
def nN{n:Nat}(h:n<Tryz.prog.globals.size):n<1000:=by
 have:=pM;omega
def Ja{W:World}(a:yh W G)(l:List Ob)(x:Nat)(h:1000<=x):(obH G l).get x=(l[x-1000]?).map λo=> .cells o.vs false o.sz:=by
 show fT (glL G (qB 1000 l)) x=_;rcases CE G (qB 1000 l) x with⟨vs,h1,_⟩|⟨_,h2⟩
 ·have:=nN (a.ok _ h1).1;simp only at this;omega
 ·rw[h2,zR,if_pos h]
def Db{W:World}(a:yh W G)(l:List Ob)(x:Nat)(h:1000<=x):obM G l x=(l[x-1000]?).map λo=>⟨o.b,o.d,o.e,o.sz⟩:=by
 unfold obM;rw[(vg a.nd _ x).2 λf c=>by have:=nN (a.ok _ c).1;simp only at this;omega,if_pos h]
def VN{W:World}(b:yh W G)(l:List Ob){g:Nat}{vs:List Value}(h:(g,vs)∈G):(obH G l).get g=some (.cells vs false 1):=by
 show fT (glL G (qB 1000 l)) g=_;rcases CE G (qB 1000 l) g with⟨us,h1,h2⟩|⟨h1,_⟩
 ·rw[h2];have e:us=vs:=by
   have c:=(vg b.nd (λ_=>none) g).1 _ h;clear h2;have a:=b.nd;clear b c;induction G with
   |nil=>cases h
   |cons q G ih=>
    rw[xP,Ys]at a;rcases List.mem_cons.1 h with e1|e1
    ·rcases List.mem_cons.1 h1 with e2|e2
     ·rw[←e1]at e2;exact(Prod.mk.inj e2).2
     ·exact(a.1 (List.mem_map.2 ⟨_,e2,by rw[←e1]⟩)).elim
    ·rcases List.mem_cons.1 h1 with e2|e2
     ·exact(a.1 (List.mem_map.2 ⟨_,e1,by rw[←e2]⟩)).elim
     ·exact ih e1 e2 a.2
  rw[e]
 ·exact(h1 vs h).elim
variable{l:List Ob}{x:Nat}
def pW{W:World}(f:yh W G){a:bT}(h:(obH G l).get x=some a):(∃vs,(x,vs)∈G/\a= .cells vs false 1/\obM G l x=some ⟨x,0,vs.length,1⟩)∨(1000<=x/\∃o,l[x-1000]? =some o/\a= .cells o.vs false o.sz/\obM G l x=some ⟨o.b,o.d,o.e,o.sz⟩):=by
 have c:fT (glL G (qB 1000 l)) x=some a:=h;rcases CE G (qB 1000 l) x with⟨vs,h1,h2⟩|⟨h1,h2⟩
 ·rw[h2]at c;cases c;exact .inl ⟨vs,h1,rfl,(vg f.nd _ x).1 vs h1⟩
 ·rw[h2,zR]at c;split at c
  ·rename_i h8;cases hl:l[x-1000]? with
   |none=>rw[hl]at c;cases c
   |some o=>
    rw[hl]at c;cases c;exact .inr ⟨h8,o,rfl,rfl,by rw[Db f l x h8,hl];rfl⟩
  ·cases c
def OD{W:World}(f:yh W G){k:Blk}(h:obM G l x=some k):(∃a,(x,a)∈G/\k=⟨x,0,a.length,1⟩)∨(1000<=x/\∃o,l[x-1000]? =some o/\k=⟨o.b,o.d,o.e,o.sz⟩):=by
 by_cases hg:∃a,(x,a)∈G
 ·obtain⟨a,c⟩:=hg;have:=(vg f.nd (λx=>if 1000<=x then(l[x-1000]?).map λo=>(⟨o.b,o.d,o.e,o.sz⟩:Blk)else none) x).1 a c;exact .inl ⟨a,c,(Option.some.inj (this.symm.trans h)).symm⟩
 ·have:=(vg f.nd (λx=>if 1000<=x then(l[x-1000]?).map λo=>(⟨o.b,o.d,o.e,o.sz⟩:Blk)else none) x).2 λa c=>hg ⟨a,c⟩;have h:=this.symm.trans h;split at h
  ·rename_i h8;cases hl:l[x-1000]? with
   |none=>rw[hl]at h;cases h
   |some o=>rw[hl]at h;cases h;exact .inr ⟨h8,o,rfl,rfl⟩
  ·cases h
def R.obs{W:World}(b:yh W G)(H:∀o∈l,Xo W (obM G l) o):R Tryz.prog (obM G l) (obH G l) W:=by
 refine⟨gy pM (xp _ _),λg o q f=> ?_,λx o f=> ?_,λx o f=> ?_,λx k d=> ?_,λx y o I k F B f D _ _ d A _=> ?_⟩
 ·rcases pW b f with⟨vs,a,rfl,h3⟩|⟨h8,_⟩
  ·obtain⟨_,⟨t,j,n⟩,_⟩:=b.ok _ a;refine⟨_,h3,rfl,rfl,λ_ _ E J w m=> ?_⟩;rw[n]at m;cases m;show vs.length=vs.toArray.size;simp
  ·have:=nN q;omega
 ·rcases pW b f with⟨vs,a,rfl,h3⟩|⟨h8,ob,hl,rfl,h3⟩
  ·obtain⟨_,⟨t,j,n⟩,v⟩:=b.ok _ a;intro k d;rw[h3]at d;cases d;refine⟨rfl,vs.toArray,t,j,n,by show 0+vs.length<=vs.length;omega,by simp,λi r=> ?_,λh=>by cases h⟩;refine⟨vs[i],by show vs.toArray[0+i]? =_;rw[hF,List.getElem?_toArray,bx r],?_⟩;have e:gv vs i=vs[i]'r:=by unfold gv;rw[cC,bx r];rfl
   rw[e];exact(VR.dA (v _ (CS _))).1
  ·intro k d;rw[h3]at d;cases d;obtain⟨c,u,j,p,a,z,C⟩:=(H ob (ci hl)).ok;exact⟨rfl,c,u,j,p,a,z,C,λh=>by cases h⟩
 ·rcases pW b f with⟨vs,a,rfl,h3⟩|⟨h8,ob,hl,rfl,h3⟩
  ·have:=nN (b.ok _ a).1;show x<1000+l.length;simp only at this;omega
  ·have:=(List.getElem?_eq_some_iff.1 hl).1;show x<1000+l.length;omega
 ·rcases OD b d with⟨vs,a,rfl⟩|⟨h8,ob,hl,rfl⟩
  ·obtain⟨s,⟨t,j,n⟩,v⟩:=b.ok _ a;have:=nN s;exact⟨by show x<1000+l.length;simp only at this;omega,(Array.getElem?_eq_some_iff.1 n).1⟩
  ·have:=(List.getElem?_eq_some_iff.1 hl).1;obtain⟨c,u,j,p,_⟩:=(H ob (ci hl)).ok;exact⟨by show x<1000+l.length;omega,(Array.getElem?_eq_some_iff.1 p).1⟩
 ·rcases pW b f with⟨vs,a,rfl,h3⟩|⟨h8,ob,hl,rfl,h3⟩<;>rcases pW b D with⟨vs',h1',rfl,h3'⟩|⟨h8',ob',hl',rfl,h3'⟩<;>exact⟨rfl,rfl⟩
def VO{W:World}(a:yh W G):∀b o,(obH G l).get b=some o->o.ro=true∨o.live=false:=λb o c=>by
 rcases pW a c with⟨vs,h1,rfl,h3⟩|⟨h8,ob,hl,rfl,h3⟩<;>exact .inl rfl
def tI:∀(l:List Ob) (n:Nat),((qB n l).map (·.1)).Nodup/\∀b∈(qB n l).map (·.1),n<=b/\b<n+l.length
 |[],n=>⟨by simp[qB],λb a=>by simp[qB]at a⟩
 |o::l,n=>by
  obtain⟨h1,h2⟩:=tI l (n+1);refine⟨?_,λb a=> ?_⟩
  ·simp only[qB,xP,Ys];exact⟨λq=>by have:=(h2 n q).1;omega,h1⟩
  ·simp only[qB,xP,Ps]at a;rcases a with rfl|a
   ·simp
   ·have:=h2 b a;simp only[tb];omega
def zm:∀{G:Gl} {l:List (Nat×bT)},(glL G l).map (·.1)=G.map (·.1)++l.map (·.1)
 |[],l=>rfl
 |(g,vs)::G,l=>by
  show g::(glL G l).map (·.1)=_;rw[zm];rfl
def Su{W:World}(d:yh W G)(l:List Ob):Rdy (obH G l):=by
 refine⟨⟨?_,λb f=> ?_⟩,rfl⟩
 ·show((glL G (qB 1000 l)).map (·.1)).Nodup;rw[zm,List.nodup_append];refine⟨d.nd,(tI l 1000).1,λa i b f e=> ?_⟩;obtain⟨q,g,rfl⟩:=List.mem_map.1 i;have h:=nN (d.ok _ g).1;have j:=((tI l 1000).2 b f).1;omega
 ·have c:b∈(glL G (qB 1000 l)).map (·.1):=f;rw[zm]at c;show b<1000+l.length;rcases List.mem_append.1 c with q|q
  ·obtain⟨q,g,rfl⟩:=List.mem_map.1 q;have h:=nN (d.ok _ g).1;omega
  ·exact((tI l 1000).2 b q).2
def kr.lay{W:World}(m:yh W G){sz n:Nat}{w:Value}{cs:List Value}(s:kr W sz w n cs):∃ob:List Ob,(∀μ,∀o∈ob,Xo W μ o)/\∀(L:List Ob) (i:Nat),(∀o,ob[0]? =some o->L[i]? =some o)->∃a c,VR (obM G L) (.slice a n c) w/\aH (obH G L) sz (.slice a n c) n cs/\c<UNK:=by
 cases s with
 |nil=>exact⟨[],(λ_ o h=>by cases h),λL i _=>⟨none,0, .kV _ _, .nil,by unfold UNK;omega⟩⟩
 | @empty b o cap c el fz hW hc=>
   refine⟨[⟨[],sz,b,0,0⟩],λμ x h=> ?_,λL i p=> ?_⟩
   ·rw[List.mem_singleton.1 h];exact⟨c,el,fz,hW,bl _,hK _,λi d=>by cases d⟩
   ·have d:=p _ rfl;have q:(obH G L).get (1000+i)=some (.cells [] false sz):=by rw[Ja m _ _ ω,show 1000+i-1000=i by omega,d];rfl
    have t:obM G L (1000+i)=some ⟨b,0,0,sz⟩:=by rw[Db m _ _ ω,show 1000+i-1000=i by omega,d];rfl
    have r:=(List.getElem?_eq_some_iff.1 d).1;refine⟨some ⟨1000+i,o,none⟩,cap,?_, .mem ⟨by show 1000+i<1000+L.length;omega,⟨[],false,sz,q,?_⟩,by simp⟩ (hK _),hc⟩
    ·have:=VR.slice (μ:=obM G L) (b:=1000+i) (o:=o) (l:=0) (c:=cap) (k:=⟨b,0,0,sz⟩) t hc (hK _);simpa using this
    ·rw[aT,List.drop_nil];cases 0*sz<;>rfl
 | @full b o cap _ c el fz _ hW hne hlen hsz hl hc hat hno=>
   have v:0<n*sz:=Nat.mul_pos (AC hne) hsz;have f:o+n*sz<=c.size:=by
    have u:=hat (n*sz-1) ω;have j:cs[n*sz-1]? =some (cs[n*sz-1]' ω):=bx _;rw[j]at u;have:=(Array.getElem?_eq_some_iff.1 u).1;omega
   refine⟨[⟨cs,sz,b,o,o+n*sz⟩],λμ x h=> ?_,λL i p=> ?_⟩
   ·rw[List.mem_singleton.1 h];refine⟨c,el,fz,hW,by show o+cs.length<=o+n*sz;omega,f,λi d=> ?_⟩;have g:i<cs.length:=d;have j:cs[i]? =some (cs[i]'g):=bx _;refine⟨_,(hat i ω).trans j,?_⟩;have e:gv cs i=cs[i]'g:=by unfold gv;rw[cC,j];rfl
    show VR μ (gv cs i) _;rw[e];exact(VR.dA (hno _ (CS _))).1
   ·have d:=p _ rfl;have q:(obH G L).get (1000+i)=some (.cells cs false sz):=by rw[Ja m _ _ ω,show 1000+i-1000=i by omega,d];rfl
    have t:obM G L (1000+i)=some ⟨b,o,o+n*sz,sz⟩:=by rw[Db m _ _ ω,show 1000+i-1000=i by omega,d];rfl
    have r:=(List.getElem?_eq_some_iff.1 d).1;refine⟨some ⟨1000+i,0,none⟩,cap,?_, .mem ⟨by show 1000+i<1000+L.length;omega,⟨cs,false,sz,q,?_⟩,hlen⟩ hl,hc⟩
    ·have:=VR.slice (μ:=obM G L) (b:=1000+i) (o:=0) (l:=n) (c:=cap) (k:=⟨b,o,o+n*sz,sz⟩) t hc hl;simpa using this
    ·rw[bw,aT,ww,go ω]
def St.below{μ μ':Mu}{h h':Heap}{W c:World}(s:St μ h W μ' h' c)(a:∀b o,h.get b=some o->o.ro=true∨o.live=false):Below W.heap.size W c:=
 ⟨s.same.os,s.same.tape,s.same.out,s.le,λr g=>s.keep r g λ⟨b,o,k,f,d,e,_⟩=>by
  rcases a b o f with q|q
  ·rw[q]at e;cases e
  ·rw[q]at d;cases d⟩
section
variable {H:Type} {enc:TypeId×Value->H} {W:World} {base:Nat} {spare:Nat->Bool} {held:Bool}
def UZ:Tryz.prog.cellsOf 3=1:=by kernel_rfl
def Rn:Tryz.prog.cellsOf 22=1:=by kernel_rfl
def uS:Tryz.prog.cellsOf 24=8:=by kernel_rfl
def oI{a:Nat}{cs:List Value}{x:DataW H×List MemPlace}(h:DataW.trod enc Tryz.prog W base spare held a 24 cs=some x):∃pl,IsS pl/\cs=us pl:=by
 obtain⟨p,m,_,_,l,s,b⟩:=DataW.trod_array Tryz.underlying24 h;rw[uS]at l;have g:∀i,i<8->∃n:Nat,n<U64/\cs[i]? =some (.int .u64 (n:Int)):=λi c=>by
  have b:=b i c;rw[Rn]at b;have j:p[i]? =some p[i]:=bx ω;rw[j]at b;obtain⟨z,u,_,r⟩:=DataW.trod_int Tryz.underlying22 b;have q:0<=z/\z<=18446744073709551615:=by
   simpa[Lit.wf,IntKind.min,IntKind.max,IntKind.signed,IntKind.bits]using r
  obtain⟨n,rfl⟩:=Nm q.1;refine⟨n,by unfold U64;omega,?_⟩;have k:(cs.drop (i*1)).take 1=[Value.int .u64 (n:Int)]:=u;have e:((cs.drop (i*1)).take 1)[0]? =some (.int .u64 (n:Int)):=by rw[k];rfl
  rw[wi ω,wn]at e;simpa using e
 let f:Value->Nat:=λv=>match v with| .int _ n=>n.toNat|_=>0
 refine⟨cs.map f,⟨by simpa using l,λx j=> ?_⟩,?_⟩
 ·obtain⟨y,t,rfl⟩:=List.mem_map.1 j;obtain⟨i,c,rfl⟩:=List.mem_iff_getElem.1 t;obtain⟨n,o,d⟩:=g i ω;rw[bx c,Option.some.injEq]at d;rw[d];exact o
 ·apply wy;intro i;by_cases c:i<8
  ·obtain⟨n,o,d⟩:=g i c;rw[d];simp only[us,wt,d,z7];rfl
  ·rw[kz ω,kz (by rw[aF,j3];omega)]
def add_eq(b o n:Nat):(Addr.mk b o none).add n=⟨b,o+n,none⟩:=by
 unfold Addr.add;by_cases h:n=0
 ·rw[if_pos h,h,R0]
 ·rw[if_neg h]
def Jq:∀(pl:List Nat) (t:List Value),dQ t=true->dQ (us pl++t)=true
 |[],t,h=>h
 |x::pl,t,h=>Jq pl t h
instance:Inhabited Rd:=⟨⟨0,0,0,[],0⟩⟩
end
def Qd:List Value:=EL.map λn=> .int .u8 (n:Nat)
abbrev A4(W:World):Prop:=∃t fz,W.heap[0]? =some (.cells Qd.toArray t fz)
def A4.gl{W:World}(h:A4 W):yh W [(0,Qd)]:=by
 refine⟨λq b=> ?_,by simp⟩;rw[List.mem_singleton.1 b];refine⟨of_decide_eq_true (by kernel_rfl),h,λv a=> ?_⟩;simp only[Qd,List.mem_map]at a;obtain⟨n,_,rfl⟩:=a;rfl
def BZ:Tryz.prog.globalNamed "math/bits.deBruijn64tab" =some 0:=by kernel_rfl
def Qf:(Tryz.prog.globals[0]?).map (·.type)=some 198:=by kernel_rfl
def Qe:∃e,Tryz.prog.underlying 198=some (.array 64 e)/\Tryz.prog.underlying e=some (.int .u8)/\Tryz.prog.cellsOf e=1/\Tryz.prog.cellsOf 198=64:=⟨_,Tryz.underlying198,by kernel_rfl,by kernel_rfl,by kernel_rfl⟩
def WU{W:World}{d:DataW Unit}{b:List (String×DataW Unit)}(k:d=Lib.tabData .u8 (EL.map fun n:Nat=>(n:Int)))(h:laidMet Tryz.prog (("math/bits.deBruijn64tab",d)::b) W):A4 W:=by
 subst k;obtain⟨e,f,g,i,j⟩:=Qe;have a:=Lib.tabIs_of_head BZ Qf f g i j h;unfold Lib.TabIs World.var? at a;rw[BZ]at a;simp only[Option.bind_some]at a;split at a
 ·rename_i c t fz he;refine⟨t,fz,he.trans ?_⟩;have:c=Qd.toArray:=by
   rw[Option.some.inj a];simp[Qd,List.map_map,Function.comp_def]
  rw[this]
 ·cases a
end Go.A.Pk
end
section
namespace Go.A.Pk
variable {T:Nat->Option aq}
def wL(w:List Nat×List Nat):List Value:=us w.1++us w.2
def wV(w:List Nat×List Nat):Value:= .agg (wL w).toArray
structure IsW (w:List Nat×List Nat):Prop where
 a:IsS w.1
 b:IsS w.2
variable{w:List Nat×List Nat}
def jB(h:IsW w):(wL w).length=16:=by
 simp[wL,aF,h.a.len,h.b.len]
def D8(h:IsW w):cm 8 (bQ (0+0) (wL w))=us w.1:=by
 rw[bw,aT,hF,ww];show(us w.1++us w.2).take 8=_;rw[q9 (by rw[aF,h.a.len];omega),go (by rw[aF,h.a.len];omega)]
def D9(h:IsW w):cm 8 (bQ (0+8) (wL w))=us w.2:=by
 rw[bw,aT,hF];show((us w.1++us w.2).drop 8).take 8=_;rw[Ej (by rw[aF,h.a.len];omega),xi (by rw[aF,h.a.len];omega),D4,go (by rw[aF,h.b.len];omega)]
def ja(h:IsW w):cm 16 (bQ 0 (wL w))=wL w:=by
 rw[bw,aT,ww,go (by rw[jB h];omega)]
def gu(h:IsW w):Nat.beq (bS (wL w)) 16=true:=by rw[cK,jB h];rfl
def Om(w:List Nat×List Nat):dA (wV w)=true:=by
 show flat (.agg (wL w).toArray)=true;simp only[flat];exact Jq w.1 (us w.2) (rq _)
def w0:List Nat×List Nat:=(s0,s0)
variable{h:Heap}{base:Nat}
def ff(hb:base<=h.next)(o o':bT):Ext h ((h.push o).wr base h.next o'):=⟨Hm _,Heap.aA hb,λb hb=>by
 rw[z5 ω,z4 hb],λw=>(w.push _).as (AS.wr base _ _ _)⟩
def iW(vs ws:List Value):((h.push (qt vs)).wr base h.next (qt ws)).get h.next=some (qt ws):=by rw[z6,z3];rfl
end Go.A.Pk
end
