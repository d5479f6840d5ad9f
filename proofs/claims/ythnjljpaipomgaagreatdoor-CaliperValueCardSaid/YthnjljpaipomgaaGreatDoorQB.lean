/- What relates the machine to the model; its operations are sound. -/
import Derived.Test.YthnjljpaipomgaaGreatDoorQA
import Derived.Laws.Sem
import Derived.Laws.StructEq
import Derived.ChangeKeysEq
import Derived.Laws.Tables
import Derived.Laws.MakeOwn
import Derived.Laws.IdiomStrings
import Derived.Laws.Slices
set_option linter.all false
section
namespace Go.A
structure Blk where
 r:Nat
 d:Nat
 e:Nat
 sz:Nat
abbrev Mu:=Nat->Option Blk
def gv(l:List Value)(i:Nat):Value:=(bK l i).getD undef
inductive FnR (μ:Mu):Fn->Fn->Prop
 |func f:FnR μ (.func f) (.func f)
 |yield {l k}:μ l=some k->FnR μ (.yield l) (.yield k.r)
def Af:Option Nat->Nat
 |none=>0
 |some s=>s+1
theorem IB{a b:Option Nat}(h:Af a=Af b):a=b:=by
 cases a<;>cases b<;>simp[Af]at h⊢
 exact h
inductive VR (μ:Mu):Value->Value->Prop
 |bool b:VR μ (.bool b) (.bool b)
 |int k n:VR μ (.int k n) (.int k n)
 |float k n:VR μ (.float k n) (.float k n)
 |complex k n m:VR μ (.complex k n m) (.complex k n m)
 |string s:VR μ (.string s) (.string s)
 |Pv:VR μ (.pointer none) (.pointer none)
 |ptr {b o k}:μ b=some k->VR μ (.pointer (some ⟨b,o,none⟩)) (.pointer (some ⟨k.r,k.d+o,none⟩))
 |iT l c:VR μ (.slice none l c) (.slice none l c)
 |slice {b o l c k}:μ b=some k->c<UNK->l<=c->VR μ (.slice (some ⟨b,o,none⟩) l c) (.slice (some ⟨k.r,k.d+o,none⟩) l c)
 |eT {b o l c k}:μ b=some k->k.d+o+c*k.sz=k.e->0<k.sz->l<=c->VR μ (.slice (some ⟨b,o,none⟩) l UNK) (.slice (some ⟨k.r,k.d+o,none⟩) l c)
 |kC {b o:Nat} (s:Option Nat):VR μ (.slice (some ⟨b,o,some (Af s)⟩) 0 0) (.slice (some ⟨b,o,s⟩) 0 0)
 |OP:VR μ (.map none) (.map none)
 |map {b k}:μ b=some k->VR μ (.map (some b)) (.map (some k.r))
 |FY:VR μ (.chan none) (.chan none)
 |func {f f':Fn} {a a' c c':Array Value}:FnR μ f f'→a.toList.length=a'.toList.length->(∀i,i<a.toList.length->VR μ (gv a.toList i) (gv a'.toList i))→
  c.toList.length=c'.toList.length->(∀i,i<c.toList.length->VR μ (gv c.toList i) (gv c'.toList i))->VR μ (.func f a c) (.func f' a' c')
 |nilFunc:VR μ .nilFunc .nilFunc
 |nilIface:VR μ .nilIface .nilIface
 |iface {t v v'}:VR μ v v'→VR μ (.iface t v) (.iface t v')
 |agg {c c':Array Value}:c.toList.length=c'.toList.length->(∀i,i<c.toList.length->VR μ (gv c.toList i) (gv c'.toList i))->VR μ (.agg c) (.agg c')
 |tuple {c c':Array Value}:c.toList.length=c'.toList.length->(∀i,i<c.toList.length->VR μ (gv c.toList i) (gv c'.toList i))->VR μ (.tuple c) (.tuple c')
inductive LR (μ:Mu):List Value->List Value->Prop
 |nil:LR μ [] []
 |cons {x y xs ys}:VR μ x y->LR μ xs ys->LR μ (x::xs) (y::ys)
theorem LR.length{μ}{a b}(h:LR μ a b):a.length=b.length:=by
 induction h with
 |nil=>rfl
 |cons _ _ ih=>simp[ih]
theorem LR.gv{μ}{a b}(h:LR μ a b):∀i,i<a.length->VR μ (gv a i) (gv b i):=by
 induction h with
 |nil=>intro i c;simp at c
 |cons h1 _ ih=>
  intro i c;cases i with
  |zero=>exact h1
  |succ i=>exact ih i (by simpa using c)
theorem LR.zQ{μ}:∀{a b:List Value},a.length=b.length->(∀i,i<a.length->VR μ (A.gv a i) (A.gv b i))->LR μ a b
 |[],[],_,_=> .nil
 |[],_::_,h,_=>by simp at h
 |_::_,[],h,_=>by simp at h
 |x::xs,y::ys,h,hv=> .cons (hv 0 (by simp)) (LR.zQ (by simpa using h) λi hi=>hv (i+1) (by simpa using hi))
theorem LR.vD{μ}{x}(h:LR μ [] x):x=[]:=by cases h;rfl
variable{c':Array Value}
theorem VR.Jp{μ}{c:Array Value}(h:LR μ c.toList c'.toList):VR μ (.agg c) (.agg c'):= .agg h.length h.gv
theorem VR.lI{μ}{c:Array Value}(h:LR μ c.toList c'.toList):VR μ (.tuple c) (.tuple c'):= .tuple h.length h.gv
theorem VR.Ki{μ}{f d:Fn}{a b c:Array Value}(e:FnR μ f d)(h:LR μ a.toList b.toList)(h':LR μ c.toList c'.toList):VR μ (.func f a c) (.func d b c'):=
 .func e h.length h.gv h'.length h'.gv
theorem VR.qq{μ}{c:Array Value}{v}(h:VR μ (.agg c) v):∃c',v= .agg c'∧LR μ c.toList c'.toList:=by
 cases h with
 |agg h1 h2=>exact⟨_,rfl, .zQ h1 h2⟩
theorem VR.Ai{μ}{c:Array Value}{v}(h:VR μ (.tuple c) v):∃c',v= .tuple c'∧LR μ c.toList c'.toList:=by
 cases h with
 |tuple h1 h2=>exact⟨_,rfl, .zQ h1 h2⟩
theorem VR.pH{μ}{f:Fn}{a c:Array Value}{v}(h:VR μ (.func f a c) v):∃f' a' c',v= .func f' a' c'∧FnR μ f f'∧LR μ a.toList a'.toList/\LR μ c.toList c'.toList:=by
 cases h with
 |func hf h1 h2 h3 h4=>exact⟨_,_,_,rfl,hf, .zQ h1 h2, .zQ h3 h4⟩
theorem FnR.mono{μ μ':Mu}(a:∀b k,μ b=some k->μ' b=some k){f f'}(h:FnR μ f f'):FnR μ' f f':=by
 cases h with
 |func f=>exact .func f
 |yield h=>exact .yield (a _ _ h)
theorem VR.mono{μ μ':Mu}(a:∀b k,μ b=some k->μ' b=some k){v v'}(h:VR μ v v'):VR μ' v v':=by
 induction h with
 |bool b=>exact .bool b
 |int k n=>exact .int k n
 |float k n=>exact .float k n
 |complex k n m=>exact .complex k n m
 |string s=>exact .string s
 |Pv=>exact .Pv
 |ptr h=>exact .ptr (a _ _ h)
 |iT l c=>exact .iT l c
 |slice h hc hl=>exact .slice (a _ _ h) hc hl
 |eT h h1 h2 h3=>exact .eT (a _ _ h) h1 h2 h3
 |kC s=>exact .kC s
 |OP=>exact .OP
 |map h=>exact .map (a _ _ h)
 |FY=>exact .FY
 |func hf h1 _ h3 _ i1 i2=>exact .func (hf.mono a) h1 i1 h3 i2
 |nilFunc=>exact .nilFunc
 |nilIface=>exact .nilIface
 |iface _ ih=>exact .iface ih
 |agg h1 _ ih=>exact .agg h1 ih
 |tuple h1 _ ih=>exact .tuple h1 ih
theorem LR.mono{μ μ':Mu}(a:∀b k,μ b=some k->μ' b=some k){v v'}(h:LR μ v v'):LR μ' v v':=by
 induction h with
 |nil=>exact .nil
 |cons h1 _ ih=>exact .cons (h1.mono a) ih
theorem FnR.inj{μ μ':Mu}(a:∀b k,μ b=some k->μ' b=some k){f x y}(h:FnR μ f x)(h':FnR μ' f y):x=y:=by
 cases h with
 |func f=>cases h';rfl
 |yield h=>cases h' with|yield h'=>rw[a _ _ h]at h';cases h';rfl
theorem wE:∀{a b:List Value},a.length=b.length->(∀i,i<a.length->gv a i=gv b i)->a=b
 |[],[],_,_=>rfl
 |[],_::_,h,_=>by simp at h
 |_::_,[],h,_=>by simp at h
 |x::xs,y::ys,h,hv=>by
  have h0:x=y:=hv 0 (by simp);rw[h0,wE (a:=xs) (b:=ys) (by simpa using h) λi c=>hv (i+1) (by simpa using c)]
theorem eD{a b:Array Value}(h:a.toList=b.toList):a=b:=by
 cases a;cases b;simp at h;rw[h]
theorem VR.inj{μ μ':Mu}(d:∀b k,μ b=some k->μ' b=some k){v x y}(h:VR μ v x)(h':VR μ' v y):x=y:=by
 induction h generalizing y with
 |bool b=>cases h';rfl
 |int k n=>cases h';rfl
 |float k n=>cases h';rfl
 |complex k n m=>cases h';rfl
 |string s=>cases h';rfl
 |Pv=>cases h';rfl
 |ptr h=>cases h' with|ptr h'=>rw[d _ _ h]at h';cases h';rfl
 |iT l c=>cases h';rfl
 |slice h hc hl=>
  cases h' with
  |slice h' _ _=>rw[d _ _ h]at h';cases h';rfl
  |eT _ _ _ _=>exact absurd hc (pp _)
 |eT h h1 h2 h3=>
  cases h' with
  |slice _ hc _=>exact absurd hc (pp _)
  |eT h' g1 g2 g3=>
   rw[d _ _ h]at h';cases h';have:=Nat.eq_of_mul_eq_mul_right h2 (Nat.add_left_cancel (h1.trans g1.symm));rw[this]
 |kC s=>
  generalize hs:Af s=t at h';cases h' with
  |kC s'=>rw[IB hs]
 |OP=>cases h';rfl
 |map h=>cases h' with|map h'=>rw[d _ _ h]at h';cases h';rfl
 |FY=>cases h';rfl
 |func hf h1 _ h3 _ i1 i2=>
  cases h' with
  |func hf' g1 g2 g3 g4=>
   rw[hf.inj d hf',eD (wE (h1.symm.trans g1) λi a=>i1 i (h1▸a) (g2 i (h1▸a))),eD (wE (h3.symm.trans g3) λi a=>i2 i (h3▸a) (g4 i (h3▸a)))]
 |nilFunc=>cases h';rfl
 |nilIface=>cases h';rfl
 |iface _ ih=>cases h' with|iface h'=>rw[ih h']
 |agg h1 _ ih=>cases h' with|agg g1 g2=>rw[eD (wE (h1.symm.trans g1) λi a=>ih i (h1▸a) (g2 i (h1▸a)))]
 |tuple h1 _ ih=>cases h' with|tuple g1 g2=>rw[eD (wE (h1.symm.trans g1) λi a=>ih i (h1▸a) (g2 i (h1▸a)))]
theorem VR.jY{μ}:∀{v:Value},jY v=true->VR μ v v/\∀x,VR μ v x->x=v:=by
 intro v h;cases v with
 |bool b=>exact⟨.bool b,λx h=>by cases h;rfl⟩
 |int k n=>exact⟨.int k n,λx h=>by cases h;rfl⟩
 |float k n=>exact⟨.float k n,λx h=>by cases h;rfl⟩
 |complex k n m=>exact⟨.complex k n m,λx h=>by cases h;rfl⟩
 |string s=>exact⟨.string s,λx h=>by cases h;rfl⟩
 |pointer a=>cases a with
  |none=>exact⟨.Pv,λx h=>by cases h;rfl⟩
  |some a=>simp[A.jY]at h
 |slice a l c=>cases a with
  |none=>exact⟨.iT l c,λx h=>by cases h;rfl⟩
  |some a=>simp[A.jY]at h
 |map r=>cases r with
  |none=>exact⟨.OP,λx h=>by cases h;rfl⟩
  |some a=>simp[A.jY]at h
 |chan r=>cases r with
  |none=>exact⟨.FY,λx h=>by cases h;rfl⟩
  |some a=>simp[A.jY]at h
 |func f a c=>
  cases f<;>simp[A.jY]at h
  rename_i f;obtain⟨d,e⟩:=h;subst d e;refine⟨.Ki (.func f) .nil .nil,λx h=> ?_⟩;obtain⟨q,g,i,rfl,p,d,e⟩:=h.pH;cases p;have j:g= #[]:=eD (LR.vD d);have o:i= #[]:=eD (LR.vD e);rw[j,o]
 |nilFunc=>exact⟨.nilFunc,λx h=>by cases h;rfl⟩
 |nilIface=>exact⟨.nilIface,λx h=>by cases h;rfl⟩
 |iface t v=>simp[A.jY]at h
 |agg c=>simp[A.jY]at h
 |tuple c=>simp[A.jY]at h
theorem VR.mL{μ}{v:Value}(h:mL v=true):VR μ v v/\∀x,VR μ v x->x=v:=by
 cases v with
 |iface t v=>
  have:=VR.jY (μ:=μ) (v:=v) (by simpa[A.mL]using h);exact⟨.iface this.1,λx h=>by cases h with|iface h=>rw[this.2 _ h]⟩
 |_=>exact VR.jY (by simpa[A.mL]using h)
theorem LR.cZ{μ}:∀{l:List Value},cZ l=true->LR μ l l/\∀x,LR μ l x->x=l
 |[],_=>⟨.nil,λx h=>by cases h;rfl⟩
 |v::l,h=>by
  simp only[A.cZ,cond_eq_ite]at h;split at h
  ·rename_i h1;have a:=VR.mL (μ:=μ) h1;have b:=LR.cZ (μ:=μ) h;exact⟨.cons a.1 b.1,λx h=>by cases h with|cons h1 h2=>rw[a.2 _ h1,b.2 _ h2]⟩
  ·simp at h
theorem VR.flat{μ}{v:Value}(h:flat v=true):VR μ v v/\∀x,VR μ v x->x=v:=by
 have agg:∀c:Array Value,A.cZ c.toList=true->VR μ (.agg c) (.agg c)/\∀x,VR μ (.agg c) x->x= .agg c:=λc h=>by
  have a:=LR.cZ (μ:=μ) h;refine⟨.Jp a.1,λx h=> ?_⟩;obtain⟨d,rfl,b⟩:=h.qq;rw[eD (a.2 _ b)]
 cases v with
 |agg c=>exact agg c (by simpa[A.flat]using h)
 |iface t v=>
  cases v with
  |agg c=>
   have:=agg c (by simpa[A.flat]using h);exact⟨.iface this.1,λx h=>by cases h with|iface h=>rw[this.2 _ h]⟩
  |_=>exact VR.mL (by simpa[A.flat]using h)
 |_=>exact VR.mL (by simpa[A.flat]using h)
theorem LR.jf{μ}:∀{l:List Value},jf l=true->LR μ l l/\∀x,LR μ l x->x=l
 |[],_=>⟨.nil,λx h=>by cases h;rfl⟩
 |v::l,h=>by
  simp only[A.jf,cond_eq_ite]at h;split at h
  ·rename_i h1;have a:=VR.flat (μ:=μ) h1;have b:=LR.jf (μ:=μ) h;exact⟨.cons a.1 b.1,λx h=>by cases h with|cons h1 h2=>rw[a.2 _ h1,b.2 _ h2]⟩
  ·simp at h
theorem VR.cE{μ}{v:Value}(h:cE v=true):VR μ v v/\∀x,VR μ v x->x=v:=by
 cases v with
 |tuple c=>
  have a:=LR.jf (μ:=μ) (l:=c.toList) (by simpa[A.cE]using h);refine⟨.lI a.1,λx h=> ?_⟩;obtain⟨d,rfl,b⟩:=h.Ai;rw[eD (a.2 _ b)]
 |_=>exact VR.flat (by simpa[A.cE]using h)
def cK(μ:Mu)(e:Env)(tmps:Array Value):Prop:=∀t v,geT e t=some v->∃v',tmps[t]? =some v'∧VR μ v v'
def gJ(P:Program)(nt:Nat)(c:Code)(ac:aN):Prop:=∃ks ks',comp P nt c ks=some (ac,ks')
inductive MR (μ:Mu):List (Value×Value)->List MapEntry->Prop
 |nil:MR μ [] []
 |cons {k v es m ms}:VR μ k m.key->VR μ v m.val->MR μ es ms->MR μ ((k,v)::es) (m::ms)
def qU(l:List MapEntry)(cl:Nat):Prop:=(l.map (·.born)).Nodup/\∀n∈l.map (·.born),n<cl
def JR:bk->Option Code->Prop
 | .normal,j=>j=none
 | .exit i,j=>j=some (.exit i)
 | .ret,j=>j=some .ret
 | .panic _,_=>False
def StR(st:Nat)(iN:bk)(L:Loop):Prop:=
 (st=0/\L.state= .ready/\L.pending=none/\iN= .normal)∨(st=1/\L.state= .busy)∨(st=2/\L.state= .done/\JR iN L.pending)
def bM.live:bM->Bool
 | .dead=>false
 | .cells vs own _=>own|| !vs.isEmpty
 |_=>true
def bM.ro:bM->Bool
 | .cells _ false _=>true
 | .qX _=>true
 |_=>false
def OR(P:Program)(μ:Mu)(w:World)(b:Nat):bM->Prop
 | .cells vs own sz=>∀k,μ b=some k->k.sz=sz/\∃c el fz,w.heap[k.r]? =some (.cells c el fz)/\k.d+vs.length<=k.e/\k.e<=c.size∧
  (∀i,i<vs.length->∃v',c[k.d+i]? =some v'∧VR μ (gv vs i) v')/\(own=true->k.d=0/\k.e=c.size/\∀j,j<c.size->¬ (fz.1<=j/\j<fz.2))
 | .map es=>∀k,μ b=some k->∃ents clock,w.heap[k.r]? =some (.map ents clock)/\MR μ es ents.toList/\qU ents.toList clock
 | .qX es=>∀k,μ b=some k->∃ents clock,w.heap[k.r]? =some (.map ents clock)/\MR μ es ents.toList/\qU ents.toList clock
 | .loop e ps asg body st iN=>∀k,μ b=some k->∃L,w.heap[k.r]? =some (.loop L)/\cK μ e L.tmps/\L.params.toList=ps/\(∃nt,nt<=L.tmps.size/\(∀t∈ps,t<nt)/\gJ P nt L.assign asg/\gJ P nt L.body body)/\StR st iN L
 | .lN s pos=>∀k,μ b=some k->k.d=0/\w.heap[k.r]? =some (.stringIter s pos)
 | .dead=>True
def bM.len:bM->Nat
 | .cells vs _ _=>vs.length
 |_=>0
def FL(w:World)(o:bM)(k:Blk):Prop:=o.ro=true->o.live=true->∀c t fz,w.heap[k.r]? =some (.cells c t fz)->o.len=c.size
theorem FL.get{w w':World}{o:bM}{k:Blk}(x:FL w o k)(h:w'.heap[k.r]? =w.heap[k.r]?):FL w' o k:=λb d c t a e=>x b d c t a (h▸e)
structure R (P:Program) (μ:Mu) (h:Heap) (w:World):Prop where
 big:P.globals.size<=h.next
 lR:∀g o,g<P.globals.size->h.get g=some o->∃k,μ g=some k/\k.r=g/\k.d=0/\FL w o k
 obj:∀b o,h.get b=some o->OR P μ w b o
 lt:∀b o,h.get b=some o->b<h.next
 dom:∀b k,μ b=some k->b<h.next/\k.r<w.heap.size
 kT:∀b b' o o' k k',b≠b'→h.get b=some o->h.get b'=some o'→o.live=true->o'.live=true->μ b=some k->μ b'=some k'→k.r=k'.r->o.ro=true/\o'.ro=true
def Wr(μ:Mu)(h:Heap)(r:Nat):Prop:=∃b o k,h.get b=some o/\o.live=true/\o.ro=false/\μ b=some k/\k.r=r
structure ir (L L':Loop):Prop where
 fn:L'.fn=L.fn
 tmps:L'.tmps=L.tmps
 params:L'.params=L.params
 assign:L'.assign=L.assign
 body:L'.body=L.body
 defers:L'.defers=L.defers
theorem ir.refl(L:Loop):ir L L:=⟨rfl,rfl,rfl,rfl,rfl,rfl⟩
theorem ir.trans{a b c:Loop}(h:ir a b)(g:ir b c):ir a c:=
 ⟨g.fn.trans h.fn,g.tmps.trans h.tmps,g.params.trans h.params,g.assign.trans h.assign,g.body.trans h.body,g.defers.trans h.defers⟩
structure Same (w w':World):Prop where
 os:w'.os=w.os
 tape:w'.tape=w.tape
 out:w'.output=w.output
 drawn:w.drawn<=w'.drawn
theorem Same.refl(w:World):Same w w:=⟨rfl,rfl,rfl,bl _⟩
theorem Same.trans{a b c:World}(h:Same a b)(g:Same b c):Same a c:=⟨g.os.trans h.os,g.tape.trans h.tape,g.out.trans h.out,gd h.drawn g.drawn⟩
structure St (μ:Mu) (h:Heap) (w:World) (μ':Mu) (h':Heap) (w':World):Prop where
 ext:∀b,b<h.next->μ' b=μ b
 le:w.heap.size<=w'.heap.size
 keep:∀r,r<w.heap.size->¬Wr μ h r->w'.heap[r]? =w.heap[r]?
 wr:∀r,r<w.heap.size->Wr μ' h' r->Wr μ h r
 loops:∀(r:Nat) (L:Loop),w.heap[r]? =some (Obj.loop L)->∃L':Loop,w'.heap[r]? =some (Obj.loop L')/\ir L L'
 same:Same w w'
def dA(a:Nat):Nat->List Nat
 |0=>[]
 |n+1=>(a+n)::dA a n
structure AS (base:Nat) (h h':Heap):Prop where
 next:h.next<=h'.next
 keys:h'.cm.map (·.1)=dA h.next (h'.next-h.next)++h.cm.map (·.1)
 mono:∀b,b<base->fF h.log b=true->fF h'.log b=true
 same:∀b,b<base->b<h.next->fF h'.log b=false->h'.get b=h.get b
theorem oq(a m n:Nat):dA a (m+n)=dA (a+m) n++dA a m:=by
 induction n with
 |zero=>rfl
 |succ n ih=>
  rw[←Nat.add_assoc];simp only[dA,ih,wc,List.cons.injEq,and_true];omega
theorem AS.refl(base:Nat)(h:Heap):AS base h h:=⟨bl _,by simp[dA],λ_ _ h=>h,λ_ _ _ _=>rfl⟩
variable{base:Nat}
theorem AS.trans{h h1 d:Heap}(a:AS base h h1)(b:AS base h1 d):AS base h d where
 next:=gd a.next b.next
 keys:=by
  rw[b.keys,a.keys,←List.append_assoc];have:d.next-h.next=(h1.next-h.next)+(d.next-h1.next):=by have:=a.next;have:=b.next;omega
  rw[this,oq,show h.next+(h1.next-h.next)=h1.next by have:=a.next;omega]
 mono:=λx c h=>b.mono x c (a.mono x c h)
 same:=λx c g f=>by
  have h1:fF h1.log x=false:=by
   cases e:fF h1.log x with
   |false=>rfl
   |true=>rw[b.mono x c e]at f;cases f
  rw[b.same x c (hK g a.next) f,a.same x c g h1]
theorem St.refl(μ:Mu)(h:Heap)(w:World):St μ h w μ h w:=⟨λ_ _=>rfl,bl _,λ_ _ _=>rfl,λ_ _ h=>h,λ_ L h=>⟨L,h, .refl L⟩, .refl w⟩
theorem St.trans{μ h w μ1 h1 w1 μ2 h2 w2}(a:St μ h w μ1 h1 w1)(b:St μ1 h1 w1 μ2 h2 w2)(f:h.next<=h1.next):St μ h w μ2 h2 w2 where
 ext:=λx e=>(b.ext x (hK e f)).trans (a.ext x e)
 le:=gd a.le b.le
 keep:=λr c d=>(b.keep r (hK c a.le) λh=>d (a.wr r c h)).trans (a.keep r c d)
 wr:=λr c h=>a.wr r c (b.wr r (hK c a.le) h)
 loops:=λr L h=>let⟨L1,h1,l1⟩:=a.loops r L h;let⟨L2,h2,l2⟩:=b.loops r L1 h1;⟨L2,h2,l1.trans l2⟩
 same:=a.same.trans b.same
theorem St.mono{P μ h w μ' h' w'}(c:R P μ h w)(s:St μ h w μ' h' w'):∀b k,μ b=some k->μ' b=some k:=
 λb k a=>by rw[s.ext b (c.dom b k a).1];exact a
theorem cK.mono{μ μ':Mu}(a:∀b k,μ b=some k->μ' b=some k){e t}(h:cK μ e t):cK μ' e t:=
 λx v c=>let⟨v',h1,h2⟩:=h x v c;⟨v',h1,h2.mono a⟩
theorem MR.mono{μ μ':Mu}(a:∀b k,μ b=some k->μ' b=some k){e t}(h:MR μ e t):MR μ' e t:=by
 induction h with
 |nil=>exact .nil
 |cons h1 h2 _ ih=>exact .cons (h1.mono a) (h2.mono a) ih
theorem OR.mono{P}{μ μ':Mu}{w w':World}{b:Nat}{o:bM}(p:∀b k,μ b=some k->μ' b=some k)(hb:μ' b=μ b)
 (n:∀k,μ b=some k->w'.heap[k.r]? =w.heap[k.r]?)(h:OR P μ w b o):OR P μ' w' b o:=by
 cases o with
 |cells vs own sz=>
  intro k d;rw[hb]at d;obtain⟨u,c,q,t,j,l,m,v,x⟩:=h k d;exact⟨u,c,q,t,(n k d).trans j,l,m,λi y=>let⟨v',a,b⟩:=v i y;⟨v',a,b.mono p⟩,x⟩
 |map es=>
  intro k d;rw[hb]at d;obtain⟨g,f,j,l,m⟩:=h k d;exact⟨g,f,(n k d).trans j,l.mono p,m⟩
 |qX es=>
  intro k d;rw[hb]at d;obtain⟨g,f,j,l,m⟩:=h k d;exact⟨g,f,(n k d).trans j,l.mono p,m⟩
 |loop e ps asg body st iN=>
  intro k d;rw[hb]at d;obtain⟨L,j,l,m⟩:=h k d;exact⟨L,(n k d).trans j,l.mono p,m⟩
 |lN s pos=>
  intro k d;rw[hb]at d;exact⟨(h k d).1,(n k d).trans (h k d).2⟩
 |dead=>trivial
theorem tW(l:List (Nat×bM))(b:Nat)(o:bM)(x:Nat):fA (iS l b o) x=if x=b then(fA l b).map (λ_=>o)else fA l x:=by
 induction l with
 |nil=>simp[iS,fA]
 |cons p l ih=>
  obtain⟨k,q⟩:=p;simp only[iS,fA,cond_eq_ite,Nat.beq_eq];by_cases hk:k=b
  ·subst hk;by_cases hx:x=k
   ·subst hx;simp[fA]
   ·have:¬k=x:=λh=>hx h.symm;simp[fA,hx,cond_eq_ite,this]
  ·by_cases hx:x=b
   ·subst hx;simp[fA,hk,cond_eq_ite,ih]
   ·by_cases hkx:k=x
    ·subst hkx;simp[fA,hk,cond_eq_ite]
    ·simp[fA,hk,hkx,hx,cond_eq_ite,ih]
theorem lZ(l:List (Nat×bM))(b:Nat)(o:bM):(iS l b o).map (·.1)=l.map (·.1):=by
 induction l with
 |nil=>rfl
 |cons p l ih=>
  obtain⟨k,q⟩:=p;simp only[iS,cond_eq_ite];split<;>simp[ih]
theorem Heap.dH(h:Heap)(o:bM)(x:Nat):(h.push o).get x=if x=h.next then some o else h.get x:=by
 simp only[Heap.push,Heap.get,fA,cond_eq_ite,Nat.beq_eq];by_cases hx:h.next=x
 ·simp[hx]
 ·have:¬x=h.next:=λh=>hx h.symm
  simp[hx,this]
theorem Heap.mA(h:Heap)(base b:Nat)(o:bM)(x:Nat):(h.wr base b o).get x=if x=b then(h.get b).map (λ_=>o)else h.get x:=
 tW _ _ _ _
theorem mb(l:List Nat)(a b:Nat):fF (a::l) b=(decide (a=b)||fF l b):=by
 simp only[fF,cond_eq_ite,Nat.beq_eq];by_cases h:a=b<;>simp[h]
theorem Heap.EF(h:Heap)(base b:Nat)(o:bM)(x:Nat):fF (h.wr base b o).log x=(fF h.log x||(decide (b<base)&&decide (b=x))):=by
 have a:Nat.blt b base=decide (b<base):=by
  rw[vj];simp[ub]
 simp only[Heap.wr,cond_eq_ite,a];by_cases h1:b<base
 ·by_cases h2:fF h.log b=true
  ·by_cases h3:b=x
   ·subst h3;simp[h1,h2]
   ·simp[h1,h2,h3]
  ·simp[h1,h2,mb,Bool.or_comm]
 ·simp[h1]
theorem AS.push(base:Nat)(h:Heap)(o:bM):AS base h (h.push o)where
 next:=ti _
 keys:=by simp[Heap.push,dA,sb]
 mono:=λ_ _ h=>h
 same:=λb _ a _=>by rw[Heap.dH,if_neg (by omega)]
theorem AS.wr(base:Nat)(h:Heap)(b:Nat)(o:bM):AS base h (h.wr base b o)where
 next:=bl _
 keys:=by simp[Heap.wr,lZ,dA]
 mono:=λx _ a=>by rw[Heap.EF,a];rfl
 same:=λx a _ c=>by
  rw[Heap.EF]at c;rw[Heap.mA,if_neg];intro e;subst e;simp[a]at c
def upd(μ:Mu)(b:Nat)(k:Blk):Mu:=λx=>if x=b then some k else μ x
theorem size_push{w w':World}{a:Obj}(b:w'.heap=w.heap.push a):w'.heap.size=w.heap.size+1:=by rw[b];simp
theorem fk{w w':World}{a:Obj}(b:w'.heap=w.heap.push a)(r:Nat)(hr:r<w.heap.size):w'.heap[r]? =w.heap[r]? :=by
 rw[b,Array.getElem?_push];rw[if_neg (by omega)]
theorem R.alloc{P μ h w}(d:R P μ h w){w':World}{D:Obj}{o:bM}{k:Blk}(p:w'.heap=w.heap.push D)(U:k.r=w.heap.size)
 (ho:OR P (upd μ h.next k) w' h.next o)(y:Same w w':=by exact⟨rfl,rfl,rfl,by first|exact bl _|exact qt _ _⟩):R P (upd μ h.next k) (h.push o) w'∧St μ h w (upd μ h.next k) (h.push o) w':=by
 have x:∀f,μ h.next=some f→False:=λf M=>pp _ (d.dom _ _ M).1
 have G:∀b f,μ b=some f→upd μ h.next k b=some f:=λb f a=>by
  unfold upd;rw[if_neg];exact a;intro e;subst e;exact x _ a
 have V:=size_push p;have m:=d.big;refine⟨⟨xa m,λg q N H=> ?_,λb B a=> ?_,λb B a=> ?_,λb f a=> ?_,λb u C S s O n a i A Q c j t=> ?_⟩,⟨λb a=> ?_,by omega,λr t _=>fk p r t,λr t z=> ?_,λr L F=>⟨L,(fk p r (Array.getElem?_eq_some_iff.1 F).1).trans F, .refl L⟩,y⟩⟩
 ·rw[Heap.dH,if_neg (by omega)]at H;obtain⟨s,E,I,J,K⟩:=d.lR g q N H;exact⟨s,G _ _ E,I,J,K.get (fk p _ (d.dom _ _ E).2)⟩
 ·rw[Heap.dH]at a;split at a
  ·rename_i e;subst e;cases a;exact ho
  ·rename_i e;refine OR.mono G (by unfold upd;rw[if_neg e]) (λf v=>fk p _ (d.dom _ _ v).2) (d.obj b B a)
 ·rw[Heap.dH]at a;split at a
  ·rename_i e;subst e;exact go _
  ·exact tb (d.lt b B a)
 ·unfold upd at a;split at a
  ·rename_i e;subst e;cases a;exact⟨go _,by omega⟩
  ·have:=d.dom b f a;exact⟨tb this.1,by omega⟩
 ·rw[Heap.dH]at a i;unfold upd at c j;by_cases l:b=h.next
  ·rw[if_pos l]at c;cases c;by_cases e2:u=h.next
   ·exact absurd (l.trans e2.symm) n
   ·rw[if_neg e2]at j;have:=(d.dom _ _ j).2;omega
  ·rw[if_neg l]at c a;by_cases e2:u=h.next
   ·rw[if_pos e2]at j;cases j;have:=(d.dom _ _ c).2;omega
   ·rw[if_neg e2]at j i;exact d.kT b u C S s O n a i A Q c j t
 ·unfold upd;rw[if_neg (by omega)]
 ·obtain⟨b,C,s,a,A,T,c,l⟩:=z;rw[Heap.dH]at a;unfold upd at c;by_cases e:b=h.next
  ·rw[if_pos e]at c;cases c;omega
  ·rw[if_neg e]at c a;exact⟨b,C,s,a,A,T,c,l⟩
theorem R.X4{P μ h w}(d:R P μ h w)(o:bM):R P μ (h.push o) w/\St μ h w μ (h.push o) w:=by
 have c:∀j,μ h.next=some j→False:=λj B=>pp _ (d.dom _ _ B).1
 have i:=d.big;refine⟨⟨xa i,λg q C v=>by rw[Heap.dH,if_neg (by omega)]at v;exact d.lR g q C v,λb m a=> ?_,λb m a=> ?_,λb j a=>⟨tb (d.dom b j a).1,(d.dom b j a).2⟩,λb z u G s E n a f t F l y x=> ?_⟩,⟨λ_ _=>rfl,bl _,λ_ _ _=>rfl,λr x p=> ?_,λ_ L h=>⟨L,h, .refl L⟩, .refl w⟩⟩
 ·rw[Heap.dH]at a;split at a
  ·rename_i e;subst e;cases m<;>first|trivial|exact λk D=>(c k D).elim
  ·exact d.obj b m a
 ·rw[Heap.dH]at a;split at a
  ·rename_i e;subst e;exact go _
  ·exact tb (d.lt b m a)
 ·rw[Heap.dH]at a f;split at a
  ·rename_i e;subst e;exact(c _ l).elim
  ·split at f
   ·rename_i e;subst e;exact(c _ y).elim
   ·exact d.kT b z u G s E n a f t F l y x
 ·obtain⟨b,u,s,a,t,H,l,A⟩:=p;rw[Heap.dH]at a;split at a
  ·rename_i e;subst e;exact(c _ l).elim
  ·exact⟨b,u,s,a,t,H,l,A⟩
structure vL (w w':World) (r:Nat):Prop where
 cells:∀c el fz,w.heap[r]? =some (.cells c el fz)->∃c' el' fz',w'.heap[r]? =some (.cells c' el' fz')/\c.size<=c'.size
 loop:∀L:Loop,w.heap[r]? =some (Obj.loop L)->∃L':Loop,w'.heap[r]? =some (Obj.loop L')/\ir L L'
variable{r:Nat}
theorem vL.LO{w w':World}(h:∀c a b,w.heap[r]? ≠some (.cells c a b))(h':∀L:Loop,w.heap[r]? ≠some (Obj.loop L)):vL w w' r:=⟨λc a b d=>(h c a b d).elim,λL e=>(h' L e).elim⟩
theorem vL.xe{w w':World}{c0:Array Value}{d a:TypeId}{e b:Nat×Nat}(f:w.heap[r]? =some (.cells c0 d e))(h1:w'.heap[r]? =some (.cells c' a b))(i:c0.size<=c'.size):vL w w' r:=
 ⟨λc j k g=>by rw[f]at g;cases g;exact⟨c',a,b,h1,i⟩,λL h=>by rw[f]at h;cases h⟩
theorem vL.loops{w w':World}{a:Nat}(d:vL w w' a)(c:∀r,r≠a->w'.heap[r]? =w.heap[r]?)(r:Nat)(L:Loop)(b:w.heap[r]? =some (.loop L)):∃L',w'.heap[r]? =some (.loop L')/\ir L L':=by
 by_cases h:r=a
 ·subst h;exact d.loop L b
 ·exact⟨L,(c r h).trans b, .refl L⟩
theorem OR.U6{P}{μ μ':Mu}{w w':World}{b:Nat}{o:bM}(a:o.live=false)(hb:∀k,μ' b=some k->μ b=some k)(x:∀r,w'.heap[r]? =w.heap[r]? ∨vL w w' r)(h:OR P μ w b o):OR P μ' w' b o:=by
 cases o with
 |dead=>trivial
 |cells vs own sz=>
  cases own with
  |true=>cases vs<;>cases a
  |false=>
   cases vs with
   |cons _ _=>cases a
   |nil=>
    intro k v;obtain⟨m,c,j,l,n,p,q,_,_⟩:=h k (hb k v);rcases x k.r with e|e
    ·exact⟨m,c,j,l,e.trans n,p,q,λi g=>(Nat.not_lt_zero _ g).elim,λh=>by cases h⟩
    ·obtain⟨s,d,f,t,u⟩:=e.cells c j l n;exact⟨m,s,d,f,t,p,gd q u,λi g=>(Nat.not_lt_zero _ g).elim,λh=>by cases h⟩
 |map _=>cases a
 |qX _=>cases a
 |loop _ _ _ _ _ _=>cases a
 |lN _ _=>cases a
theorem R.rT{P μ h w}(a:R P μ h w){b:Nat}{es:List (Value×Value)}{k:Blk}(hb:rT (h.get b)=some es)(c:μ b=some k):
 ∃ents clock,w.heap[k.r]? =some (.map ents clock)/\MR μ es ents.toList/\qU ents.toList clock:=by
 unfold Go.A.rT at hb;split at hb
 ·rename_i es' he;cases hb;exact a.obj b _ he k c
 ·rename_i es' he;cases hb;exact a.obj b _ he k c
 ·cases hb
variable{o':bM}
theorem R.write{P μ h w}(c:R P μ h w){b:Nat}{o:bM}{k:Blk}{w':World}(hb:h.get b=some o)(l:o.live=true)(d:o.ro=false)(C:μ b=some k)
 (Y:w'.heap.size=w.heap.size)(p:∀r,r≠k.r->w'.heap[r]? =w.heap[r]?)(Q:vL w w' k.r)(ho:OR P μ w' b o')(H:Same w w':=by exact⟨rfl,rfl,rfl,by first|exact bl _|exact qt _ _⟩)(G:o'.ro=false:=by exact rfl):
 R P μ (h.wr base b o') w'∧St μ h w μ (h.wr base b o') w':=by
 refine⟨⟨c.big,λg q O f=> ?_,λx q a=> ?_,λx q a=> ?_,λx t a=>⟨(c.dom x t a).1,by rw[Y];exact(c.dom x t a).2⟩,λx T o1 o2 i Z E a J K l2 u m2 F=> ?_⟩,⟨λ_ _=>rfl,by omega,λr F X=> ?_,λr F I=> ?_,λr L l=>Q.loops p r L l,H⟩⟩
 ·rw[Heap.mA]at f;split at f
  ·rename_i e;subst e;rw[hb]at f;cases f;obtain⟨i,m,n,z,_⟩:=c.lR _ o O hb;exact⟨i,m,n,z,λs=>by rw[G]at s;cases s⟩
  ·rename_i e;obtain⟨i,m,n,z,W⟩:=c.lR g q O f;refine⟨i,m,n,z,λs N=>W.get (p _ λy=> ?_) s N⟩;have:=(c.kT g b q o i k e f hb N l m C y).2;rw[d]at this;cases this
 ·rw[Heap.mA]at a;split at a
  ·rename_i e;subst e;rw[hb]at a;cases a;exact ho
  ·rename_i e;cases f:q.live with
   |false=>exact OR.U6 f (λ_ h=>h) (λr=>if he:r=k.r then .inr (he▸Q)else .inl (p r he)) (c.obj x q a)
   |true=>
    refine OR.mono (λ_ _ h=>h) rfl (λt D=>p _ λy=> ?_) (c.obj x q a);have:=(c.kT x b q o t k e a hb f l D C y).2;rw[d]at this;cases this
 ·rw[Heap.mA]at a;split at a
  ·rename_i e;subst e;exact c.lt _ o hb
  ·exact c.lt x q a
 ·have j:∀x q,(h.wr base b o').get x=some q->q.live=true->∃q0,h.get x=some q0/\q0.live=true/\(q0.ro=true->x≠b/\q=q0):=by
   intro x q a lq;rw[Heap.mA]at a;split at a
   ·rename_i e;subst e;exact⟨o,hb,l,λh=>by rw[d]at h;cases h⟩
   ·rename_i e;exact⟨q,a,lq,λ_=>⟨e,rfl⟩⟩
  obtain⟨q1,m,A,U⟩:=j x o1 a K
  obtain⟨q2,n,B,V⟩:=j T o2 J l2
  obtain⟨v,S⟩:=c.kT x T q1 q2 i Z E m n A B u m2 F;exact⟨by rw[(U v).2];exact v,by rw[(V S).2];exact S⟩
 ·exact p r λe=>X ⟨b,o,k,hb,l,d,C,e.symm⟩
 ·obtain⟨x,q,i,a,K,v,u,M⟩:=I;rw[Heap.mA]at a;split at a
  ·rename_i e;subst e;exact⟨x,o,i,hb,l,d,u,M⟩
  ·exact⟨x,q,i,a,K,v,u,M⟩
theorem R.move{P μ h w}(d:R P μ h w){b:Nat}{o:bM}{k k':Blk}{w':World}(hb:h.get b=some o)(m:o.live=true)(l:o.ro=false)(t:μ b=some k)
 (hs:w'.heap.size=w.heap.size)(C:∀r,r≠k.r->w'.heap[r]? =w.heap[r]?)(W:vL w w' k.r)(ae:k'.r=k.r)(ho:OR P (upd μ h.next k') w' h.next o')(S:Same w w':=by exact⟨rfl,rfl,rfl,by first|exact bl _|exact qt _ _⟩):
 R P (upd μ h.next k') ((h.wr base b .dead).push o') w'∧St μ h w (upd μ h.next k') ((h.wr base b .dead).push o') w':=by
 have O:∀k',μ h.next=some k'→False:=λk' Y=>pp _ (d.dom _ _ Y).1
 have Z:b≠h.next:=λe=>pp _ (e▸d.lt b o hb)
 have M:∀b c,μ b=some c->upd μ h.next k' b=some c:=λb c hb=>by
  unfold upd;rw[if_neg];exact hb;intro e;subst e;exact O _ hb
 have hn:(h.wr base b .dead).next=h.next:=rfl
 have f:∀x q,((h.wr base b .dead).push o').get x=some q->(x=h.next/\q=o')∨(x≠h.next/\x=b/\q= .dead)∨(x≠h.next/\x≠b/\h.get x=some q):=by
  intro x q a;rw[Heap.dH,hn]at a;split at a
  ·rename_i e;cases a;exact .inl ⟨e,rfl⟩
  ·rename_i e;rw[Heap.mA]at a;split at a
   ·rename_i e';rw[hb]at a;cases a;exact .inr (.inl ⟨e,e',rfl⟩)
   ·rename_i e';exact .inr (.inr ⟨e,e',a⟩)
 have A:=d.big;refine⟨⟨xa A,λg q V n=> ?_,λx q a=> ?_,λx q a=> ?_,λx c a=> ?_,λx H U G c X B a i u F j p Q=> ?_⟩,⟨λx a=> ?_,by omega,λr Q N=> ?_,λr Q T=> ?_,λr L m=>W.loops C r L m,S⟩⟩
 ·rcases f g q n with⟨e,_⟩|⟨_,e,e2⟩|⟨_,e,n⟩
  ·omega
  ·subst e;obtain⟨c,D,I,J,_⟩:=d.lR _ o V hb;refine⟨c,M _ _ D,I,J,λ_ z=> ?_⟩;rw[e2]at z;cases z
  ·obtain⟨c,D,I,J,E⟩:=d.lR g q V n;refine⟨c,M _ _ D,I,J,λy z=>E.get (C _ λv=> ?_) y z⟩;have:=(d.kT g b q o c k e n hb z m D t v).2;rw[l]at this;cases this
 ·rcases f x q a with⟨e,rfl⟩|⟨_,_,rfl⟩|⟨s,e2,a⟩
  ·subst e;exact ho
  ·trivial
  ·cases n:q.live with
   |false=>exact OR.U6 n (λc y=>by unfold upd at y;rw[if_neg s]at y;exact y) (λr=>if he:r=k.r then .inr (he▸W)else .inl (C r he)) (d.obj x q a)
   |true=>
    refine OR.mono M (by unfold upd;rw[if_neg s]) (λc K=>C _ λv=> ?_) (d.obj x q a);have:=(d.kT x b q o c k e2 a hb n m K t v).2;rw[l]at this;cases this
 ·show x<h.next+1
  rcases f x q a with⟨e,rfl⟩|⟨_,e,_⟩|⟨_,_,a⟩
  ·omega
  ·have:=d.lt b o hb;omega
  ·have:=d.lt x q a;omega
 ·show x<h.next+1/\_
  unfold upd at a;split at a
  ·cases a;have:=(d.dom b k t).2;exact⟨by omega,by omega⟩
  ·have:=d.dom x c a;exact⟨by omega,by omega⟩
 ·have old:∀x q c,h.get x=some q->x≠b->q.live=true->μ x=some c->c.r=k.r->False:=λx q c a e lq mx v=>by
   have:=(d.kT x b q o c k e a hb lq m mx t v).2;rw[l]at this;cases this
  unfold upd at j p;rcases f x U a with⟨e,rfl⟩|⟨_,_,rfl⟩|⟨s,e2,E⟩
  ·rw[if_pos e]at j;cases j;rcases f H G i with⟨e',rfl⟩|⟨_,_,rfl⟩|⟨e1',e2',i⟩
   ·exact absurd (e.trans e'.symm) B
   ·cases F
   ·rw[if_neg e1']at p;exact(old H G X i e2' F p (by omega)).elim
  ·cases u
  ·rw[if_neg s]at j;rcases f H G i with⟨e',rfl⟩|⟨_,_,rfl⟩|⟨e1',e2',i⟩
   ·rw[if_pos e']at p;cases p;exact(old x U c E e2 u j (by omega)).elim
   ·cases F
   ·rw[if_neg e1']at p;exact d.kT x H U G c X B E i u F j p Q
 ·unfold upd;rw[if_neg (by omega)]
 ·exact C r λe=>N ⟨b,o,k,hb,m,l,t,e.symm⟩
 ·obtain⟨x,q,c,a,u,r1,j,s⟩:=T;unfold upd at j;rcases f x q a with⟨e,rfl⟩|⟨_,_,rfl⟩|⟨e1',e2',a⟩
  ·rw[if_pos e]at j;cases j;exact⟨b,o,k,hb,m,l,t,by omega⟩
  ·cases u
  ·rw[if_neg e1']at j;exact⟨x,q,c,a,u,r1,j,s⟩
theorem R.world{P μ h w}(d:R P μ h w){w':World}(e:w'.heap=w.heap)(i:Same w w':=by exact⟨rfl,rfl,rfl,by first|exact bl _|exact qt _ _⟩):R P μ h w'∧St μ h w μ h w':=
 ⟨⟨d.big,λg o j l=>let⟨k,a,b,c,x⟩:=d.lR g o j l;⟨k,a,b,c,x.get (by rw[e])⟩,λb o f=>OR.mono (λ_ _ h=>h) rfl (λ_ _=>by rw[e]) (d.obj b o f),d.lt,λb k f=>by rw[e];exact d.dom b k f,d.kT⟩,⟨λ_ _=>rfl,by rw[e];exact bl _,λ_ _ _=>by rw[e],λ_ _ h=>h,λr L h=>⟨L,by rw[e];exact h, .refl L⟩,i⟩⟩
theorem R.Og{P μ h w}(f:R P μ h w){sz:Nat}{k:Blk}(G:k.r<w.heap.size)(ho:OR P (upd μ h.next k) w h.next (.cells [] false sz)):
 R P (upd μ h.next k) (h.push (.cells [] false sz)) w/\St μ h w (upd μ h.next k) (h.push (.cells [] false sz)) w:=by
 have p:∀d,μ h.next=some d→False:=λd E=>pp _ (f.dom _ _ E).1
 have x:∀b d,μ b=some d→upd μ h.next k b=some d:=λb d a=>by
  unfold upd;rw[if_neg];exact a;intro e;subst e;exact p _ a
 have j:=f.big;refine⟨⟨xa j,λg q F y=> ?_,λb u a=> ?_,λb u a=> ?_,λb d a=> ?_,λb B v I l H o a c m A i t z=> ?_⟩,⟨λb a=> ?_,bl _,λ_ _ _=>rfl,λr z s=> ?_,λ_ L h=>⟨L,h, .refl L⟩, .refl w⟩⟩
 ·rw[Heap.dH,if_neg (by omega)]at y;obtain⟨l,C,D⟩:=f.lR g q F y;exact⟨l,x _ _ C,D⟩
 ·rw[Heap.dH]at a;split at a
  ·rename_i e;subst e;cases a;exact ho
  ·rename_i e;exact OR.mono x (by unfold upd;rw[if_neg e]) (λ_ _=>rfl) (f.obj b u a)
 ·rw[Heap.dH]at a;split at a
  ·rename_i e;subst e;exact go _
  ·exact tb (f.lt b u a)
 ·unfold upd at a;split at a
  ·rename_i e;subst e;cases a;exact⟨go _,G⟩
  ·have:=f.dom b d a;exact⟨tb this.1,this.2⟩
 ·rw[Heap.dH]at a c;unfold upd at i t;split at a
  ·cases a;cases m
  ·rename_i n;rw[if_neg n]at i;split at c
   ·cases c;cases A
   ·rename_i e2;rw[if_neg e2]at t;exact f.kT b B v I l H o a c m A i t z
 ·unfold upd;rw[if_neg (by omega)]
 ·obtain⟨b,v,l,a,m,J,i,n⟩:=s;rw[Heap.dH]at a;unfold upd at i;split at a
  ·cases a;cases m
  ·rename_i e;rw[if_neg e]at i;exact⟨b,v,l,a,m,J,i,n⟩
variable{α:Type}
theorem bX(l:List α):cF l=l.length:=by induction l<;>simp[cF, *]
theorem cH{α:Type}:∀(l:List α) (i:Nat),bK l i=l[i]?
 |[],_=>by simp[bK]
 |_::_,0=>by simp[bK]
 |_::l,i+1=>by simp[bK,cH l i]
theorem bQ{α:Type}:∀(n:Nat) (l:List α),cG n l=l.take n
 |0,_=>by simp[cG]
 |_+1,[]=>by simp[cG]
 |n+1,_::l=>by simp[cG,bQ n l]
theorem aW{α:Type}:∀(n:Nat) (l:List α),cw n l=l.drop n
 |0,_=>by simp[cw]
 |_+1,[]=>by simp[cw]
 |n+1,_::l=>by simp[cw,aW n l]
theorem kI{α:Type}:∀(l:List α) (i:Nat) (x:α),rS l i x=l.set i x
 |[],_,_=>by simp[rS]
 |_::_,0,_=>by simp[rS]
 |_::l,i+1,x=>by simp[rS,kI l i x]
theorem dI(l m:List α):dP l m=l++m:=by induction l<;>simp[dP, *]
theorem blt_eq(a b:Nat):Nat.blt a b=decide (a<b):=by rw[vj];simp[ub]
theorem ble_eq(a b:Nat):Nat.ble a b=decide (a<=b):=by rw[vj];simp[Nat.ble_eq]
theorem beq_eq(a b:Nat):Nat.beq a b=decide (a=b):=by rw[vj];simp[Nat.beq_eq]
theorem Km{l:List Value}{i:Nat}{v:Value}(h:bK l i=some v):gv l i=v/\i<l.length:=by
 rw[cH]at h;exact⟨by simp[gv,cH,h],(List.getElem?_eq_some_iff.1 h).1⟩
theorem rI{l:List Value}{i:Nat}(h:i<l.length):l[i]? =some (gv l i):=by
 simp[gv,cH,h]
theorem AN(l:List Value)(o n i:Nat)(hi:i<n):gv ((l.drop o).take n) i=gv l (o+i):=by
 simp only[gv,cH];rw[gS hi,me]
theorem LR.get{μ}{a b:List Value}(h:LR μ a b){i v}(d:bK a i=some v):∃v',b[i]? =some v'∧VR μ v v':=by
 obtain⟨e,c⟩:=Km d;exact⟨_,rI (h.length▸c),e▸h.gv i c⟩
theorem LR.take{μ}{a b:List Value}(h:LR μ a b):∀n,LR μ (a.take n) (b.take n):=by
 induction h with
 |nil=>intro n;simp;exact .nil
 |cons h1 _ ih=>intro n;cases n with
  |zero=>simp;exact .nil
  |succ n=>simp;exact .cons h1 (ih n)
theorem LR.drop{μ}{a b:List Value}(h:LR μ a b):∀n,LR μ (a.drop n) (b.drop n):=by
 induction h with
 |nil=>intro n;simp;exact .nil
 |cons h1 h2 ih=>intro n;cases n with
  |zero=>simp;exact .cons h1 h2
  |succ n=>simp;exact ih n
theorem LR.append{μ}{a b c d:List Value}(h:LR μ a b)(h':LR μ c d):LR μ (a++c) (b++d):=by
 induction h with
 |nil=>exact h'
 |cons h1 _ ih=>exact .cons h1 ih
theorem LR.set{μ}{a b:List Value}(h:LR μ a b){x y}(c:VR μ x y):∀i,LR μ (a.set i x) (b.set i y):=by
 induction h with
 |nil=>intro i;simp;exact .nil
 |cons h1 h2 ih=>intro i;cases i with
  |zero=>simp;exact .cons c h2
  |succ i=>simp;exact .cons h1 (ih i)
variable {P:Program} {μ:Mu} {h:Heap} {w:World} {e:Env} {a:Act}
theorem bW(n:R P μ h w)(m:cK μ e a.tmps){x:Operand}{v:Value}(j:aH P x=true)(b:ev h e x=some v):VR μ v (a.eval x):=by
 cases x with
 |tmp t=>
  obtain⟨p,d,i⟩:=m t v b;simp only[Act.eval,pt,d];exact i
 |const c=>cases b;exact(VR.cE j).1
 |global g=>
  simp only[ev]at b;split at b
  ·rename_i o ho;cases b;obtain⟨k,d,i,l,_⟩:=n.lR g o (by simpa[aH,ub]using j) ho;have:=VR.ptr (o:=0) d;rw[i,l]at this;exact this
  ·cases b
 |func f=>cases b;exact(VR.cE (by simp[cE,flat,mL,jY])).1
theorem tV(c:R P μ h w)(b:cK μ e a.tmps):∀{xs:List Operand} {vs:List Value},xs.all (aH P)=true->evs h e xs=some vs->LR μ vs (xs.map a.eval)
 |[],vs,_,hv=>by cases hv;exact .nil
 |x::xs,vs,hc,hv=>by
  simp only[G5,ed]at hc;simp only[evs]at hv;split at hv
  ·rename_i v h1;split at hv
   ·rename_i vs' h2;cases hv;exact .cons (bW c b hc.1 h1) (tV c b hc.2 h2)
   ·cases hv
  ·cases hv
def Ran(P:Program)(μ:Mu)(h:Heap)(w:World)(base:Nat)(r:Result Next)(v:Value)(h':Heap):Prop:=
 ∃μ' v' w',(r= .ok (.value v') w'∨(r= .ok .skip w'∧v'=undef))/\VR μ' v v'∧R P μ' h' w'∧St μ h w μ' h' w'∧AS base h h'
theorem Ran.pure(a:R P μ h w){r:Result Next}{v v':Value}(hr:r= .ok (.value v') w)(b:VR μ v v'):Ran P μ h w base r v h:=
 ⟨μ,v',w, .inl hr,b,a,St.refl _ _ _,AS.refl _ _⟩
theorem aA{x:Option Value}{k:Value->Option α}{y:α}(a:cO x k=some y):∃v,x=some v/\k v=some y:=by
 cases x with
 |none=>cases a
 |some v=>exact⟨v,rfl,a⟩
theorem run_underlying{t:TypeId}{d:TypeDesc}(a:P.underlying t=some d)(w:World):(underlying t).run P w= .ok d w:=by
 simp[underlying,program,Sem.run,a]
theorem run_typeInfo{t:TypeId}{i:TypeInfo}(hi:P.info? t=some i)(w:World):(typeInfo t).run P w= .ok i w:=by
 simp[typeInfo,program,Sem.run,hi]
theorem run_sizeOf{t:TypeId}{n:Nat}(hi:dX P t=some n)(w:World):(sizeOf t).run P w= .ok n w:=by
 simp only[dX,rg]at hi;obtain⟨i,hi,rfl⟩:=hi;simp[sizeOf,run_typeInfo hi]
theorem dS{t:TypeId}{z:Value}(hi:iz P t=some z)(w:World):(zeroValue t).run P w= .ok z w:=by
 simp only[iz,Option.bind_eq_some_iff]at hi;obtain⟨i,hi,a⟩:=hi;simp[zeroValue,run_typeInfo hi,a]
theorem zX{t:TypeId}{n:Option Nat}(hi:vR P t=some n)(w:World):(isAgg t).run P w= .ok n.isSome w/\∀m,n=some m->dX P t=some m:=by
 unfold vR at hi;split at hi
 ·rename_i fs hd;simp only[rg]at hi;obtain⟨m,a,rfl⟩:=hi;exact⟨by simp[isAgg,run_underlying hd],λ_ h=>by cases h;exact a⟩
 ·rename_i l el hd;simp only[rg]at hi;obtain⟨m,a,rfl⟩:=hi;exact⟨by simp[isAgg,run_underlying hd],λ_ h=>by cases h;exact a⟩
 ·rename_i d h1 h2 hd;cases hi;refine⟨?_,λ_ h=>by cases h⟩;simp only[isAgg,ey,run_underlying hd,b7];cases d<;>first|rfl|(exact(h2 _ rfl).elim)|(exact(h1 _ _ rfl).elim)
 ·cases hi
end Go.A
end
section
namespace Go.A
variable {P:Program} {μ:Mu} {h:Heap} {w:World} {e:Env} {a:Act} {base:Nat}
theorem fG(r o i:Nat):(Addr.add ⟨r,o,none⟩ i)=⟨r,o+i,none⟩:=by
 unfold Addr.add;split
 ·rename_i hi;subst hi;rfl
 ·rfl
variable{r:Nat}{c:Array Value}{el:TypeId}{fz:Nat×Nat}
theorem cell_of(hr:w.heap[r]? =some (.cells c el fz))(o:Nat):w.cell? ⟨r,o,none⟩=c[o]? :=by
 simp[World.cell?,hr]
theorem run_loadCellsFrom(r o:Nat):∀(l:List Value) (i:Nat) (a:Array Value),(∀j,j<l.length->w.cell? ⟨r,o+(i+j),none⟩=some (gv l j))→
 (loadCellsFrom ⟨r,o,none⟩ i l.length a).run P w= .ok (a++l.toArray) w
 |[],i,a,_=>by simp[loadCellsFrom]
 |x::l,i,a,hc=>by
  have h0:w.cell? ⟨r,o+i,none⟩=some x:=by simpa[gv,bK]using hc 0 (by simp)
  simp only[pm,loadCellsFrom,ey,fG,Go.run_load,h0,b7];rw[run_loadCellsFrom r o l (i+1) (a.push x) λj b=>by
   have:=hc (j+1) (by simpa using b);rw[show i+1+j=i+(j+1)by omega];simpa[gv,bK]using this]
  congr 1;apply eD;simp
variable{o:Nat}{l:List Value}
theorem run_loadCells(a:∀j,j<l.length->w.cell? ⟨r,o+j,none⟩=some (gv l j)):
 (loadCells ⟨r,o,none⟩ l.length).run P w= .ok l.toArray w:=by
 unfold loadCells;rw[run_loadCellsFrom r o l 0 #[] λj b=>by rw[hX];exact a j b];simp
variable{b n sz:Nat}{vs:List Value}{own:Bool}
theorem OR.row{k:Blk}(ho:OR P μ w b (.cells vs own sz))(p:μ b=some k)(y:o+n<=vs.length):
 ∃l,l.length=n/\LR μ ((vs.drop o).take n) l/\∀j,j<l.length->w.cell? ⟨k.r,k.d+o+j,none⟩=some (gv l j):=by
 obtain⟨_,c,t,u,q,v,x,m,_⟩:=ho k p;induction n generalizing o with
 |zero=>exact⟨[],rfl,by simp;exact .nil,λj a=>by simp at a⟩
 |succ n ih=>
  obtain⟨l,g,h,i⟩:=ih (o:=o+1) (by omega);obtain⟨s,e,f⟩:=m o (by omega);refine⟨s::l,by simp[g],?_,λj a=> ?_⟩
  ·have:(vs.drop o).take (n+1)=gv vs o::(vs.drop (o+1)).take n:=by
    rw[pB (by omega),xl];congr 1;simp[gv,cH,show o<vs.length by omega]
   rw[this];exact .cons f h
  ·cases j with
   |zero=>rw[cell_of q];exact e
   |succ j=>
    have:=i j (by simpa using a);rw[show k.d+o+(j+1)=k.d+(o+1)+j by omega];exact this
def wN(P:Program)(w:World)(n:Option Nat)(ad:Addr):Result Value:=
 match n with
 |none=>(load ad).run P w
 |some n=>((loadCells ad n).run P w).andThen λc w=> .ok (.agg c) w
variable{v x':Value}
theorem Db(t:R P μ h w){n:Option Nat}{x:Value}(z:VR μ x x')(d:pP h n x=some v):
 ∃r o f,x'= .pointer (some ⟨r,o,none⟩)/\VR μ v f∧
  wN P w n ⟨r,o,none⟩= .ok f w:=by
 unfold pP at d;split at d
 ·rename_i b o;cases z with
  |ptr hk=>
   rename_i k;split at d
   ·rename_i vs own sz ho;have e:=t.obj b _ ho;cases n with
    |none=>
     obtain⟨j,u⟩:=Km d;obtain⟨_,c,A,B,y,C,D,s,_⟩:=e k hk;obtain⟨f,g,i⟩:=s o u;refine⟨_,_,f,rfl,j▸i,?_⟩;simp[wN,cell_of y,g]
    |some n=>
     simp only[bX,bQ,aW,beq_eq,cond_eq_ite]at d;split at d
     ·rename_i a;cases d;have a:o+n<=vs.length∨n=0:=by simp at a;omega
      rcases a with a|rfl
      ·obtain⟨l,m,p,q⟩:=OR.row e hk a;refine⟨_,_, .agg l.toArray,rfl, .Jp (by simpa using p),?_⟩;have:=run_loadCells (P:=P) q;rw[m]at this;simp[wN,this]
      ·refine⟨_,_, .agg #[],rfl, .Jp (by simp;exact .nil),?_⟩;simp[wN,loadCells,loadCellsFrom]
     ·cases d
   ·cases d
 ·cases d
variable{t:TypeId}
theorem uZ{n:Option Nat}(c:vR P t=some n)(ad:Addr):
 (loadVar t ad).run P w=wN P w n ad:=by
 obtain⟨a,b⟩:=zX c w;unfold loadVar;simp only[ey,a,b7];cases n with
 |none=>simp[wN]
 |some n=>simp[wN,run_sizeOf (b n rfl)]
variable{x:Operand}{h':Heap}
theorem LY(b:R P μ h w)(c:cK μ e a.tmps)(d:aH P x=true)(h1:aop h base e (.mov x)=some (.val v h')):
 Ran P μ h w base (.ok (.value (a.eval x)) w) v h':=by
 obtain⟨i,g,f⟩:=aA h1;cases f;exact .pure b rfl (bW b c d g)
theorem Pg(c:R P μ h w)(i:cK μ e a.tmps){n:Option Nat}(k:vR P t=some n)(j:aH P x=true)
 (h1:aop h base e (.load n x)=some (.val v h')):Ran P μ h w base (((Instr.loadAt t (a.eval x)).run P w).andThen λv w=> .ok (.value v) w) v h':=by
 obtain⟨q,l,d⟩:=aA h1;obtain⟨s,f,d⟩:=aA d;cases d;obtain⟨r,o,p,m,g,b⟩:=Db (P:=P) (w:=w) c (bW c i j l) f;refine .pure c ?_ g;simp only[Instr.loadAt,m,Instr.sureAddr,ey,gR,b7,uZ k,b]
variable{y:Operand}
theorem Pj(d:R P μ h w)(f:cK μ e a.tmps){c:Operand}(j:aH P c=true)(k:aH P x=true)(l:aH P y=true)
 (h1:aop h base e (.pick c x y)=some (.val v h')):Ran P μ h w base (((asBool (a.eval c)).run P w).andThen λb w=> .ok (.value (if b then a.eval x else a.eval y)) w) v h':=by
 simp only[aop]at h1;split at h1
 ·rename_i hb;obtain⟨m,i,g⟩:=aA h1;cases g;have:=bW d f j hb;generalize a.eval c=cv at*;cases this;exact .pure d (by simp[asBool]) (bW d f k i)
 ·rename_i hb;obtain⟨m,i,g⟩:=aA h1;cases g;have:=bW d f j hb;generalize a.eval c=cv at*;cases this;exact .pure d (by simp[asBool]) (bW d f l i)
 ·cases h1
theorem EL(b:R P μ h w)(g:cK μ e a.tmps){i:Nat}(j:aH P x=true)
 (h1:aop h base e (.extract x i)=some (.val v h')):Ran P μ h w base (((Instr.extract (a.eval x) i).run P w).andThen λv w=> .ok (.value v) w) v h':=by
 simp only[aop]at h1;split at h1
 ·rename_i vs hb;obtain⟨p,n,l⟩:=aA h1;cases l;obtain⟨c,k,m⟩:=(bW b g j hb).Ai;obtain⟨o,d,f⟩:=m.get n;refine .pure b ?_ f;have:c[i]? =some o:=by simpa using d
  simp[Instr.extract,k,this]
 ·cases h1
variable{s:TypeId}{f:Field}
theorem LU(g:R P μ h w)(j:cK μ e a.tmps){c:Array Field}{i:Nat}(m:P.underlying s=some (.struct c))
 (p:c[i]? =some f)(q:dX P f.type=some (n+1))(l:aH P x=true)(h1:aop h base e (.dz f.offset x)=some (.val v h')):
 Ran P μ h w base (((Instr.fieldAt s (a.eval x) i).run P w).andThen λv w=> .ok (.value v) w) v h':=by
 simp only[aop]at h1;split at h1
 ·rename_i b o hb;cases h1;have:=bW g j l hb;generalize a.eval x=xv at*;cases this with
  |ptr hk=>
   rename_i k;refine .pure g (v':= .pointer (some ⟨k.r,k.d+(o+f.offset),none⟩)) ?_ (.ptr hk);simp[Instr.fieldAt,run_underlying m,p,Instr.sureAddr,fieldPlace,run_sizeOf q,fG,te]
 ·cases h1
variable{size:Nat}{i:Operand}
theorem Ie(c:R P μ h w)(f:cK μ e a.tmps)(p:P.underlying t=some (.array n el))(q:dX P el=some size)
 (m:aH P x=true)(hi:aH P i=true)(h1:aop h base e (.dB n size x i)=some (.val v h')):
 Ran P μ h w base (((Instr.indexAt t (a.eval x) (a.eval i)).run P w).andThen λv w=> .ok (.value v) w) v h':=by
 simp only[aop]at h1;split at h1
 ·rename_i b o kk j hb hj;simp only[blt_eq,cond_eq_ite]at h1;split at h1
  ·rename_i hlt;simp only[decide_eq_true_eq]at hlt;cases h1;have g:=bW c f m hb;have l:=bW c f hi hj;generalize a.eval x=xv at*;generalize a.eval i=iv at*;cases g with
   |ptr hk=>
    rename_i k;cases l;refine .pure c (v':= .pointer (some ⟨k.r,k.d+(o+j*size),none⟩)) ?_ (.ptr hk);simp[Instr.indexAt,asIntOf,run_underlying p,Instr.sureAddr,run_sizeOf q,fG,te,Nat.not_le.2 hlt]
  ·cases h1
 ·cases h1
theorem Ig(c:R P μ h w)(g:cK μ e a.tmps)(l:P.underlying t=some (.slice el))(m:dX P el=some size)
 (q:aH P x=true)(hi:aH P i=true)(h1:aop h base e (.aQ size x i)=some (.val v h')):
 Ran P μ h w base (((Instr.indexAt t (a.eval x) (a.eval i)).run P w).andThen λv w=> .ok (.value v) w) v h':=by
 simp only[aop]at h1;split at h1
 ·rename_i b o n cap kk j hb hj;simp only[blt_eq,cond_eq_ite]at h1;split at h1
  ·rename_i hlt;simp only[decide_eq_true_eq]at hlt;cases h1;have p:=bW c g q hb;have f:=bW c g hi hj;generalize a.eval x=xv at*;generalize a.eval i=iv at*;cases p with
   |slice hk hq1 hq2=>
    rename_i k;cases f;refine .pure c (v':= .pointer (some ⟨k.r,k.d+(o+j*size),none⟩)) ?_ (.ptr hk);simp[Instr.indexAt,asIntOf,run_underlying l,run_sizeOf m,fG,te,Nat.not_le.2 hlt]
   |eT hk hq1 hq2 hq3=>
    rename_i k;cases f;refine .pure c (v':= .pointer (some ⟨k.r,k.d+(o+j*size),none⟩)) ?_ (.ptr hk);simp[Instr.indexAt,asIntOf,run_underlying l,run_sizeOf m,fG,te,Nat.not_le.2 hlt]
  ·cases h1
 ·cases h1
theorem uC(k:IntKind)(n:Int)(h1:k.min<=n)(a:n<=k.max):k.wrap n=n:=by
 cases k<;>simp[IntKind.min,IntKind.max,IntKind.wrap,IntKind.bits,IntKind.signed]at* <;>omega
theorem tJ(k:IntKind)(n:Int):fE k n=k.wrap n:=by
 cases n with
 |ofNat m=>
  cases k<;>simp only[fE,blt_eq,cond_eq_ite]<;>split<;>first
   |(rename_i hb
     simp only[decide_eq_true_eq]at hb;refine(uC _ _ ?_ ?_).symm<;>simp[IntKind.min,IntKind.max,IntKind.bits,IntKind.signed]<;>omega)
   |rfl
 |negSucc m=>
  cases k<;>simp only[fE,blt_eq,cond_eq_ite]<;>split<;>first
   |(rename_i hb
     simp only[decide_eq_true_eq]at hb;first
     |omega
     |(refine(uC _ _ ?_ ?_).symm<;>simp[IntKind.min,IntKind.max,IntKind.bits,IntKind.signed]<;>omega))
   |rfl
theorem wrap_u64(n:Nat)(a:n<18446744073709551616):IntKind.u64.wrap (n:Int)=n:=uC _ _ (by simp[IntKind.min,IntKind.signed]) (by simp[IntKind.max,IntKind.signed,IntKind.bits];omega)
theorem pT(a:Nat)(b:a<18446744073709551616):(BitVec.ofInt IntKind.u64.bits (Int.ofNat a)).toNat=a:=by
 simp[IntKind.bits];omega
theorem Ei(x y:BitVec 64):(x&&& ~~~y).toNat=Nat.xor x.toNat (Nat.land x.toNat y.toNat):=by
 have:x&&& ~~~y=x ^^^ (x&&&y):=by ext i hi;simp;cases x[i]<;>cases y[i]<;>rfl
 rw[this,BitVec.toNat_xor,BitVec.toNat_and];rfl
variable{op:BinOp}
theorem El{k:IntKind}{x y:Int}(d:og op k x y=some v)(w:World):(Op.intBits op k x y).run P w= .ok v w:=by
 have f:∀v,(match op with
  | .and=>some (.int k (k.wrap (BitVec.ofInt k.bits x&&&BitVec.ofInt k.bits y).toNat))
  | .or=>some (.int k (k.wrap (BitVec.ofInt k.bits x|||BitVec.ofInt k.bits y).toNat))
  | .xor=>some (.int k (k.wrap (BitVec.ofInt k.bits x ^^^ BitVec.ofInt k.bits y).toNat))
  | .andNot=>some (.int k (k.wrap (BitVec.ofInt k.bits x&&& ~~~BitVec.ofInt k.bits y).toNat))
  |_=>(none:Option Value))=some v->(Op.intBits op k x y).run P w= .ok v w:=by
  intro v d;cases op<;>simp only[Option.some.injEq,reduceCtorEq]at d<;>subst d<;>simp[Op.intBits]
 unfold og at d;simp only[]at d;split at d
 ·rename_i a b;simp only[blt_eq,cond_eq_ite]at d;split at d
  ·rename_i hb;simp only[ed,decide_eq_true_eq]at hb;have i:=pT a hb.1;have j:=pT b hb.2;have c:a<2 ^ 64:=hb.1;have e:b<2 ^ 64:=hb.2;cases op<;>simp only[Option.some.injEq,reduceCtorEq]at d<;>subst d
   ·have g:(BitVec.ofInt IntKind.u64.bits (Int.ofNat a)&&&BitVec.ofInt IntKind.u64.bits (Int.ofNat b)).toNat=Nat.land a b:=by rw[BitVec.toNat_and,i,j];rfl
    simp only[Op.intBits,g,gR];have h:=wrap_u64 (Nat.land a b) (sh Nat.and_le_left hb.1);rw[h];rfl
   ·have g:(BitVec.ofInt IntKind.u64.bits (Int.ofNat a)|||BitVec.ofInt IntKind.u64.bits (Int.ofNat b)).toNat=Nat.lor a b:=by rw[BitVec.toNat_or,i,j];rfl
    simp only[Op.intBits,g,gR];have h:=wrap_u64 (Nat.lor a b) (Nat.or_lt_two_pow c e);rw[h];rfl
   ·have g:(BitVec.ofInt IntKind.u64.bits (Int.ofNat a) ^^^ BitVec.ofInt IntKind.u64.bits (Int.ofNat b)).toNat=Nat.xor a b:=by rw[BitVec.toNat_xor,i,j];rfl
    simp only[Op.intBits,g,gR];have h:=wrap_u64 (Nat.xor a b) (Nat.xor_lt_two_pow c e);rw[h];rfl
   ·have g:(BitVec.ofInt IntKind.u64.bits (Int.ofNat a)&&& ~~~BitVec.ofInt IntKind.u64.bits (Int.ofNat b)).toNat=Nat.xor a (Nat.land a b):=by
     have:=Ei (BitVec.ofInt 64 (Int.ofNat a)) (BitVec.ofInt 64 (Int.ofNat b));rw[show(BitVec.ofInt 64 (Int.ofNat a)).toNat=a from i,show(BitVec.ofInt 64 (Int.ofNat b)).toNat=b from j]at this;exact this
    simp only[Op.intBits,g,gR];have h:=wrap_u64 (Nat.xor a (Nat.land a b)) (Nat.xor_lt_two_pow c (sh Nat.and_le_left c));rw[h];rfl
  ·exact f v d
 ·exact f v d
theorem JE{k:IntKind}{x y:Int}(h1:op≠ .shl)(b:op≠ .shr)(a:arith op k x y=some v)(w:World):(binOp op t (.int k x) (.int k y)).run P w= .ok v w:=by
 cases op<;>simp only[arith,ni,tJ,reduceCtorEq,Option.some.injEq]at a<;>simp only[binOp,ne_eq,not_true_eq_false,if_false]<;>
  first
  |(subst a;simp[Op.intArith];done)
  |(subst a;simp[Op.intCmp];done)
  |exact El a w
  |exact absurd rfl h1
  |exact absurd rfl b
  |(split at a
    ·cases a
    ·rename_i hz;cases a;simp[Op.intDiv,hz])
theorem DQ{k f:IntKind}{x y:Int}(c:op= .shl∨op= .shr)(b:oK op k x y=some v)(w:World):
 (binOp op t (.int k x) (.int f y)).run P w= .ok v w:=by
 unfold oK at b;cases y with
 |negSucc n=>cases b
 |ofNat n=>
  have d:¬ (Int.ofNat n<0):=by simp
  rcases c with rfl|rfl
  ·simp only[binOp,Op.shift,if_neg d,gR];simp only[]at b;split at b
   ·rename_i a;cases b;congr 2;have:IntKind.u64.wrap (Int.ofNat a*2 ^ min (Int.ofNat n).toNat IntKind.u64.bits)=Int.ofNat (Nat.mod (Nat.shiftLeft a (Nat.min n 64)) 18446744073709551616):=by
     have e:(Int.ofNat a*2 ^ min (Int.ofNat n).toNat IntKind.u64.bits:Int)=((Nat.shiftLeft a (Nat.min n 64):Nat):Int):=by
      show _=((a<<<(min n 64):Nat):Int);rw[Nat.shiftLeft_eq];simp[IntKind.bits]
     rw[e];simp only[IntKind.wrap,IntKind.bits,IntKind.signed,zd,rc,if_false];show((Nat.shiftLeft a (Nat.min n 64):Nat):Int) % 18446744073709551616=((Nat.shiftLeft a (Nat.min n 64) % 18446744073709551616:Nat):Int);rw[Int.natCast_emod];rfl
    rw[this]
   ·cases b;simp
  ·simp only[binOp,Op.shift,if_neg d,gR];simp only[]at b;split at b
   ·rename_i a;cases b;congr 2;have:(Int.ofNat a).fdiv (2 ^ min (Int.ofNat n).toNat IntKind.u64.bits)=Int.ofNat (Nat.shiftRight a (Nat.min n 64)):=by
     rw[Int.fdiv_eq_ediv_of_nonneg _ (by exact Int.pow_nonneg (by decide))];show _=((a>>>(min n 64):Nat):Int);rw[Nat.shiftRight_eq_div_pow];simp[IntKind.bits]
    rw[this]
   ·cases b;simp
theorem MX{x y:ByteArray}(h1:op≠ .shl)(b:op≠ .shr)(a:DX op x y=some v)(w:World):(binOp op t (.string x) (.string y)).run P w= .ok v w:=by
 cases op<;>simp only[DX,reduceCtorEq,Option.some.injEq]at a<;>simp only[binOp]<;>
  first
  |(subst a;simp[Op.stringOp];done)
  |(simp only[blt_eq,cond_eq_ite]at a
    split at a
    ·rename_i hb;simp only[decide_eq_true_eq]at hb;cases a;have:¬ ((x.size+y.size:Nat):Int)>IntKind.i64.max:=by simp[IntKind.max,IntKind.signed,IntKind.bits];omega
     simp only[Op.stringOp,if_neg this,gR]
    ·cases a)
theorem Lz{x y:Value}(c:an op x y=some v)(w:World):
 (∀μ d,VR μ x d→d=x)/\(∀μ y',VR μ y y'→y'=y)/\(∀μ,VR μ v v)/\(binOp op t x y).run P w= .ok v w/\(∀(xo yo:Operand),(eqGuard op t xo yo x y).run P w= .ok () w):=by
 have f:∀k n μ d,VR μ (.int k n) d→d= .int k n:=λk n μ d h=>by cases h;rfl
 have l:∀n μ d,VR μ (.string n) d→d= .string n:=λn μ d h=>by cases h;rfl
 have vb:∀b μ,VR μ (.bool b) (.bool b):=λb μ=> .bool b;have g:∀k n μ,VR μ (.int k n) (.int k n):=λk n μ=> .int k n;unfold an at c;split at c
 ·rename_i k a yk b;refine⟨f _ _,f _ _,?_,DQ (.inl rfl) c w,by simp[eqGuard]⟩;unfold oK at c;split at c<;>try cases c
  split at c<;>split at c<;>cases c<;>exact g _ _
 ·rename_i k a yk b;refine⟨f _ _,f _ _,?_,DQ (.inr rfl) c w,by simp[eqGuard]⟩;unfold oK at c;split at c<;>try cases c
  split at c<;>split at c<;>cases c<;>exact g _ _
 ·rename_i k a k' b i j;split at c
  ·rename_i hk;subst hk;refine⟨f _ _,f _ _,?_,JE i j c w,?_⟩
   ·intro μ
    cases op<;>simp only[arith,ni,reduceCtorEq,Option.some.injEq]at c<;>first
     |(subst c;first|exact vb _ _|exact g _ _ _)
     |(split at c<;>cases c;exact g _ _ _)
     |(unfold og at c
       simp only[]at c;split at c
       ·simp only[cond_eq_ite]at c;split at c<;>cases c<;>exact g _ _ _
       ·cases c;exact g _ _ _)
   ·intro xo yo;cases op<;>simp[eqGuard]
  ·cases c
 ·rename_i a b;have i:op≠ .shl:=λe=>by subst e;cases c
  have j:op≠ .shr:=λe=>by subst e;cases c
  refine⟨l _,l _,?_,MX i j c w,?_⟩
  ·intro μ
   cases op<;>simp only[DX,reduceCtorEq,Option.some.injEq]at c<;>first
    |(subst c;exact vb _ _)
    |(simp only[cond_eq_ite]at c;split at c<;>cases c;exact .string _)
  ·intro xo yo;cases op<;>simp[eqGuard]
 ·cases c
theorem LZ(c:R P μ h w)(g:cK μ e a.tmps)(o:aH P x=true)(p:aH P y=true)
 (h1:aop h base e (.bin (.num op) x y)=some (.val v h')):
 Ran P μ h w base (((do eqGuard op t x y (a.eval x) (a.eval y);binOp op t (a.eval x) (a.eval y)).run P w).andThen λv w=> .ok (.value v) w) v h':=by
 obtain⟨r,d,b⟩:=aA h1;obtain⟨s,f,b⟩:=aA b;obtain⟨q,n,b⟩:=aA b;cases b;obtain⟨i,j,k,l,m⟩:=Lz (P:=P) (t:=t) n w;rw[i _ _ (bW c g o d),j _ _ (bW c g p f)];refine .pure c ?_ (k μ);simp[l,m]
theorem qd{xo yo:Operand}{x y:Value}(h1:x≠ .nilIface∨y≠ .nilIface)(a:(∀c,x≠ .agg c)∨∀c,y≠ .agg c)(w:World):
 (eqGuard op t xo yo x y).run P w= .ok () w:=by
 unfold eqGuard
 cases op<;>simp only[Bool.not_true,Bool.not_false,rc,if_false,if_true,gR]<;>
  (split
   ·rcases h1 with h1|h1<;>exact absurd rfl h1
   ·rcases a with a|a<;>exact absurd rfl (a _)
   ·rfl)
theorem wv(t:TypeId)(x y:Value):Op.equal t x y=Op.equalIn (9999+1) t x y:=rfl
theorem A9{n:Bool}(h:wX op=some n):(n=false/\op= .eql)∨(n=true/\op= .neq):=by
 cases op<;>simp[wX]at h
 ·exact .inl ⟨h,rfl⟩
 ·exact .inr ⟨h,rfl⟩
theorem SM(d:R P μ h w)(f:cK μ e a.tmps){n:Bool}(m:wX op=some n)(j:P.underlying t=some .bool)(o:aH P x=true)(p:aH P y=true)
 (h1:aop h base e (.bin (.beq n) x y)=some (.val v h')):
 Ran P μ h w base (((do eqGuard op t x y (a.eval x) (a.eval y);binOp op t (a.eval x) (a.eval y)).run P w).andThen λv w=> .ok (.value v) w) v h':=by
 simp only[aop]at h1;split at h1
 ·rename_i b c hb hc;cases h1;have g:=bW d f o hb;have i:=bW d f p hc;generalize a.eval x=xv at*;generalize a.eval y=yv at*;cases g;cases i;refine .pure d ?_ (.bool _);have l:=qd (P:=P) (op:=op) (t:=t) (xo:=x) (yo:=y) (x:= .bool b) (y:= .bool c) (.inl (by simp)) (.inl (by simp)) w;have k:(Op.equal t (.bool b) (.bool c)).run P w= .ok (b==c) w:=by
   rw[wv];exact run_equalIn_bool w 9999 t b c j
  rcases A9 m with⟨rfl,rfl⟩|⟨rfl,rfl⟩<;>simp[l,binOp,k]
 ·cases h1
variable{v':Value}
theorem zJ{k:NK}(a:VR μ v v'):iF k v'=iF k v:=by
 cases a<;>cases k<;>rfl
def rX:NK->TypeDesc->Prop
 | .ptr, .pointer _=>True
 | .sl, .slice _=>True
 | .map, .map _ _=>True
 | .func, .func _ _ _=>True
 | .iface, .interface _=>True
 |_,_=>False
inductive iU:NK->Value->Value->Bool->Prop
 |p1 b:iU .ptr (.pointer none) (.pointer b) b.isNone
 |p2 a:iU .ptr (.pointer (some a)) (.pointer none) false
 |s1 l c b l' c':iU .sl (.slice none l c) (.slice b l' c') b.isNone
 |s2 a l c l' c':iU .sl (.slice (some a) l c) (.slice none l' c') false
 |m1 b:iU .map (.map none) (.map b) b.isNone
 |m2 a:iU .map (.map (some a)) (.map none) false
 |f1:iU .func .nilFunc .nilFunc true
 |f2 f x y:iU .func .nilFunc (.func f x y) false
 |f3 f x y:iU .func (.func f x y) .nilFunc false
 |i1:iU .iface .nilIface .nilIface true
 |i2 t v:iU .iface .nilIface (.iface t v) false
 |i3 t v:iU .iface (.iface t v) .nilIface false
theorem rW{k:NK}{x y:Value}{b:Bool}(hb:pS k x y=some b):iU k x y b:=by
 cases k<;>cases x<;>simp only[pS,iF,reduceCtorEq]at hb
 case ptr.pointer p=>cases p<;>cases y<;>simp only[iF,reduceCtorEq]at hb<;>rename_i q<;>cases q<;>simp only[iF,Option.some.injEq,reduceCtorEq]at hb<;>subst hb<;>constructor
 case sl.slice p l c=>cases p<;>cases y<;>simp only[iF,reduceCtorEq]at hb<;>rename_i q _ _<;>cases q<;>simp only[iF,Option.some.injEq,reduceCtorEq]at hb<;>subst hb<;>constructor
 case map.map p=>cases p<;>cases y<;>simp only[iF,reduceCtorEq]at hb<;>rename_i q<;>cases q<;>simp only[iF,Option.some.injEq,reduceCtorEq]at hb<;>subst hb<;>constructor
 case func.func=>cases y<;>simp only[iF,Option.some.injEq,reduceCtorEq]at hb<;>subst hb<;>constructor
 case func.nilFunc=>cases y<;>simp only[iF,Option.some.injEq,reduceCtorEq]at hb<;>subst hb<;>constructor
 case iface.iface=>cases y<;>simp only[iF,Option.some.injEq,reduceCtorEq]at hb<;>subst hb<;>constructor
 case iface.nilIface=>cases y<;>simp only[iF,Option.some.injEq,reduceCtorEq]at hb<;>subst hb<;>constructor
variable{d:TypeDesc}
theorem CC{k:NK}(n:Nat)(a:P.underlying t=some d)(c:rX k d){x y:Value}{b:Bool}(hb:pS k x y=some b)(w:World):(Op.equalIn (n+1) t x y).run P w= .ok b w:=by
 have run:=run_underlying a w;clear a;have e:=rW hb;clear hb;cases e<;>cases d<;>first|exact c.elim|(simp only[Op.equalIn,ey,run,b7,gR])
theorem xk(j:R P μ h w)(q:cK μ e a.tmps){k:NK}{n:Bool}(C:wX op=some n)(z:P.underlying t=some d)(B:rX k d)
 (l:k= .iface->nJ x||nJ y)(D:aH P x=true)(E:aH P y=true)(h1:aop h base e (.bin (.nil k n) x y)=some (.val v h')):
 Ran P μ h w base (((do eqGuard op t x y (a.eval x) (a.eval y);binOp op t (a.eval x) (a.eval y)).run P w).andThen λv w=> .ok (.value v) w) v h':=by
 obtain⟨F,o,i⟩:=aA h1;obtain⟨G,p,i⟩:=aA i;split at i
 ·rename_i b hb;cases i;have s:=bW j q D o;have u:=bW j q E p;generalize a.eval x=xv' at*;generalize a.eval y=yv' at*;have f:pS k xv' yv'=some b:=by
   unfold pS at hb⊢;rw[zJ s,zJ u];exact hb
  have m:=CC 9999 z B f w;rw[←wv]at m;have A:(eqGuard op t x y xv' yv').run P w= .ok () w:=by
   by_cases hni:k= .iface
   ·have r:=l hni;unfold eqGuard
    cases op<;>simp only[Bool.not_true,Bool.not_false,rc,if_false,if_true,gR]<;>
     (split
      ·have:(match x with| .const _=>true|_=>false)=true∨(match y with| .const _=>true|_=>false)=true:=by
        cases x<;>cases y<;>simp[nJ]at r⊢
       cases x<;>cases y<;>simp[nJ]at r⊢
      ·subst hni;simp[pS,iF]at f
      ·rfl)
   ·refine qd (.inl λe=> ?_) (.inl λc e=> ?_) w
    ·subst e;cases k<;>simp[pS,iF]at f hni
    ·subst e;cases k<;>simp[pS,iF]at f
  have g:(binOp op t xv' yv').run P w= .ok (.bool (bif n then !b else b)) w:=by
   rcases A9 C with⟨rfl,rfl⟩|⟨rfl,rfl⟩
   ·have:binOp .eql t xv' yv'=(do pure (.bool (←Op.equal t xv' yv'))):=by
     cases rW f<;>rfl
    simp[this,m]
   ·have:binOp .neq t xv' yv'=(do pure (.bool (!(←Op.equal t xv' yv')))):=by
     cases rW f<;>rfl
    simp[this,m]
  refine .pure j ?_ (.bool _);simp[A,g]
 ·cases i
theorem jl:∀{a:List dZ} {xs e:List Value} {b:Bool},bF a xs e=some b->xs.length=a.length/\e.length=a.length
 |[],[],[],_,_=>⟨rfl,rfl⟩
 |[],[],_::_,_,h=>by cases h
 |[],_::_,_,_,h=>by cases h
 |_::_,[],_,_,h=>by cases h
 |_::_,_::_,[],_,h=>by cases h
 |l::a,x::xs,y::e,b,h=>by
  simp only[bF]at h;split at h
  ·obtain⟨c,d⟩:=jl h;simp[c,d]
  ·split at h
   ·rename_i q hq;obtain⟨c,d⟩:=jl hq;simp[c,d]
   ·cases h
  ·cases h
theorem jk:∀{l m:List dZ} {xs d:List Value} {b:Bool},bF (l++m) xs d=some b→
 ∃c a,bF l (xs.take l.length) (d.take l.length)=some c/\bF m (xs.drop l.length) (d.drop l.length)=some a/\b=(c&&a)
 |[],m,xs,d,b,h=>⟨true,b,by simp[bF],by simpa using h,by simp⟩
 |_::_,_,[],_,_,h=>by cases h
 |_::_,_,_::_,[],_,h=>by cases h
 |l::ls,m,x::xs,y::d,b,h=>by
  simp only[wc,bF]at h;split at h
  ·rename_i h1;obtain⟨c,a,e,f,g⟩:=jk h;exact⟨c,a,by simp[bF,h1,e],by simpa using f,g⟩
  ·rename_i h1;split at h
   ·rename_i q hq;obtain⟨c,a,e,f,g⟩:=jk hq;cases h;exact⟨false,a,by simp[bF,h1,e],by simpa using f,rfl⟩
   ·cases h
  ·cases h
inductive sH:dZ->Value->Value->Bool->Prop
 |b a c:sH .b (.bool a) (.bool c) (a==c)
 |i k a c:sH (.i k) (.int k a) (.int k c) (a==c)
 |s a c:sH .s (.string a) (.string c) (a.toList==c.toList)
theorem gT{l:dZ}{x y:Value}{c:Bool}(h:iG l x y=some c):sH l x y c:=by
 unfold iG at h;split at h
 ·cases h;constructor
 ·split at h
  ·split at h
   ·cases h;rename_i e1 e2;subst e1;subst e2;constructor
   ·cases h
  ·cases h
 ·cases h;constructor
 ·cases h
theorem fC:∀{f:List dZ} {xs e:List Value} {b:Bool},bF f xs e=some b->(∀μ a,LR μ xs a→a=xs)/\(∀μ ys',LR μ e ys'→ys'=e)
 |[],[],[],_,_=>⟨λ_ _ h=>LR.vD h,λ_ _ h=>LR.vD h⟩
 |[],[],_::_,_,h=>by cases h
 |[],_::_,_,_,h=>by cases h
 |_::_,[],_,_,h=>by cases h
 |_::_,_::_,[],_,h=>by cases h
 |l::f,x::xs,y::e,b,h=>by
  have:∃c q,iG l x y=some c/\bF f xs e=some q:=by
   simp only[bF]at h;split at h
   ·rename_i d;exact⟨_,_,d,h⟩
   ·rename_i d;split at h
    ·rename_i q hq;exact⟨_,_,d,hq⟩
    ·cases h
   ·cases h
  obtain⟨c,q,d,i⟩:=this;have g:=fC i;cases gT d<;>exact⟨λμ a h=>by cases h with|cons h3 h4=>cases h3;rw[g.1 _ _ h4],λμ a h=>by cases h with|cons h3 h4=>cases h3;rw[g.2 _ _ h4]⟩
def EqT(P:Program)(n:Nat)(t:TypeId)(ls:List dZ):Prop:=
 (((isAgg t).run P=λw=> .ok true w)/\∀(w:World) (xs ys:Array Value) (b:Bool),bF ls xs.toList ys.toList=some b->(Op.equalIn n t (.agg xs) (.agg ys)).run P w= .ok b w)∨
 (((isAgg t).run P=λw=> .ok false w)/\∃l,ls=[l]/\∀(w:World) (x y:Value) (b:Bool),iG l x y=some b->(Op.equalIn n t x y).run P w= .ok b w)
variable{α:Type}{off:Nat}
theorem take_one{c:List α}(h:off<c.length):(c.drop off).take 1=[c[off]]:=by
 rw[pB h,xl,xp]
variable{xs:Array Value}
theorem DL{a:List dZ}{d:Array Value}{b:Bool}(p:dX P t=some a.length)(e:EqT P n t a)
 (hb:bF a ((xs.toList.drop off).take a.length) ((d.toList.drop off).take a.length)=some b)(w:World):
 ∃x y,(part t xs off).run P w= .ok x w/\(part t d off).run P w= .ok y w/\(Op.equalIn n t x y).run P w= .ok b w:=by
 have g:∀(c:Array Value),(c.extract off (off+a.length)).toList=(c.toList.drop off).take a.length:=by intro c;simp
 rcases e with⟨hag,e⟩|⟨hag,l,rfl,e⟩
 ·refine⟨_,_,?_,?_,e w (xs.extract off (off+a.length)) (d.extract off (off+a.length)) b (by rw[g,g];exact hb)⟩<;>
   simp[part,hag,run_sizeOf p]
 ·have i:=jl hb;have j:off<xs.toList.length:=by have:=i.1;simp at this;simp;omega
  have k:off<d.toList.length:=by have:=i.2;simp at this;simp;omega
  rw[show [l].length=1 from rfl,take_one j,take_one k]at hb;simp only[bF]at hb;have f:iG l xs.toList[off] d.toList[off]=some b:=by
   split at hb
   ·rename_i h;cases hb;exact h
   ·rename_i h;cases hb;exact h
   ·cases hb
  have m:off<xs.size:=by simpa using j
  have o:off<d.size:=by simpa using k
  exact⟨xs.toList[off],d.toList[off],by simp[part,hag,m],by simp[part,hag,o],e w _ _ b f⟩
theorem wu{n:Nat}{t:TypeId}{l:List dZ}(e:dX P t=some l.length)(d:EqT P n t l)(w:World)(xs a:Array Value):∀(k i:Nat) (b:Bool),
 bF (eW k l) (xs.toList.drop (i*l.length)) (a.toList.drop (i*l.length))=some b->(Op.eqItems n t l.length xs a (List.range' i k)).run P w= .ok b w
 |0,i,b,h=>by
  simp only[eW]at h;have hb:b=true:=by
   revert h;cases xs.toList.drop (i*l.length)<;>cases a.toList.drop (i*l.length)<;>simp[bF]
  subst hb;simp[Op.eqItems]
 |k+1,i,b,h=>by
  simp only[eW,dI]at h;obtain⟨f,g,j,c,rfl⟩:=jk h;obtain⟨x,y,o,p,q⟩:=DL e d j w;rw[sf,sf,show i*l.length+l.length=(i+1)*l.length by rw[sx,A3]]at c;have m:=wu e d w xs a k (i+1) g c;simp only[List.range'_succ,Op.eqItems,ey,o,p,q,b7];cases f
  ·simp
  ·simpa using m
theorem uL{d n:Nat}(o:∀t a,dN P d t=some a->EqT P n t a)(w:World)(xs g:Array Value):∀(c:List Field) (off:Nat) (a:List dZ) (b:Bool),
 goL P (dN P d) off c=some a->bF a (xs.toList.drop off) (g.toList.drop off)=some b->(Op.eqFields n xs g c).run P w= .ok b w
 |[],off,a,b,hl,h=>by
  simp only[goL]at hl;cases hl;have hb:b=true:=by
   revert h;cases xs.toList.drop off<;>cases g.toList.drop off<;>simp[bF]
  subst hb;simp[Op.eqFields]
 |f::c,off,a,b,hl,h=>by
  simp only[goL]at hl;split at hl
  ·cases hl
  ·rename_i hne;have r:f.name≠ "_" :=fun e=>hne (.inl e)
   have u:f.offset=off:=Classical.byContradiction λe=>hne (.inr e);split at hl
   ·rename_i l s h1 h2;split at hl
    ·rename_i hls;split at hl
     ·rename_i m hm;cases hl;rw[dI]at h;obtain⟨p,q,j,k,rfl⟩:=jk h;rw[←u]at j;obtain⟨x,y,v,z,A⟩:=DL (by rw[h2,hls]) (o _ _ h1) j w;rw[sf,sf,hls]at k;have i:=uL o w xs g c (off+s) m q hm k;simp only[Op.eqFields,r,ne_eq,not_false_eq_true,if_true,ey,v,z,A,b7];cases p
      ·simp
      ·simpa using i
     ·cases hl
    ·cases hl
   ·cases hl
theorem oy:∀(d:Nat) (t:TypeId) (e:List dZ),dN P d t=some e->∀n,EqT P (d+n) t e
 |0,_,_,h,_=>by simp[dN]at h
 |d+1,t,e,h,n=>by
  have hdn:d+1+n=(d+n)+1:=by omega
  rw[hdn];unfold dN at h;have f:∀p b,P.underlying t=some p->(match p with| .struct _| .array _ _=>true|_=>false)=b->(isAgg t).run P=λw=> .ok b w:=by
   intro p b a c;funext w;simp only[isAgg,ey,run_underlying a,b7];cases p<;>cases c<;>rfl
  split at h
  ·rename_i a;cases h;refine .inr ⟨f _ _ a rfl, .b,rfl,λw x y b c=> ?_⟩;cases gT c;simp[Op.equalIn,run_underlying a]
  ·rename_i k a;cases h;refine .inr ⟨f _ _ a rfl, .i k,rfl,λw x y b c=> ?_⟩;cases gT c;simp[Op.equalIn,run_underlying a]
  ·rename_i a;cases h;refine .inr ⟨f _ _ a rfl, .s,rfl,λw x y b c=> ?_⟩;cases gT c;simp[Op.equalIn,run_underlying a,beq_toListBytes]
  ·rename_i k el a;split at h
   ·rename_i l s h1 h2;split at h
    ·rename_i hls;cases h;refine .inl ⟨f _ _ a rfl,λw m o b c=> ?_⟩;have g:=h2;simp only[dX,rg]at g;obtain⟨i,q,u⟩:=g;rw[run_equalIn_array w (d+n) m o a q];have r:P.cellsOf el=l.length:=by simp[Program.cellsOf,q,u,hls]
     rw[r,List.range_eq_range'];exact wu (by rw[h2,hls]) (oy d el l h1 n) w m o k 0 b (by simpa using c)
    ·cases h
   ·cases h
  ·rename_i fs a;split at h
   ·cases h
   ·rename_i hst;refine .inl ⟨f _ _ a rfl,λw m o b c=> ?_⟩;have j:P.fieldsOf t=fs:=by simp[Program.fieldsOf,a]
    rw[run_equalIn_struct w (d+n) t m o (by rw[j];exact a) (by simpa using hst),j];exact uL (λt e h=>oy d t e h n) w m o fs.toList 0 e b h (by simpa using c)
  ·cases h
theorem tw(p:R P μ h w)(i:cK μ e a.tmps){n:Bool}{l:List dZ}(I:wX op=some n)(H:dN P 100 t=some l)
 (B:P.eqGuardType P.depth t=false)(J:aH P x=true)(K:aH P y=true)(h1:aop h base e (.bin (.agg n l) x y)=some (.val v h'))
 (q:∃fs,P.underlying t=some (.struct fs)∨∃k el,P.underlying t=some (.array k el)):
 Ran P μ h w base (((do eqGuard op t x y (a.eval x) (a.eval y);binOp op t (a.eval x) (a.eval y)).run P w).andThen λv w=> .ok (.value v) w) v h':=by
 obtain⟨L,s,f⟩:=aA h1;obtain⟨M,z,f⟩:=aA f;have A:∃m o b,L= .agg m/\M= .agg o/\bF l m.toList o.toList=some b/\v= .bool (bif n then !b else b)/\h'=h:=by
  split at f
  ·rename_i q1 q2;split at f
   ·rename_i b j;cases f;exact⟨_,_,b,rfl,rfl,j,rfl,rfl⟩
   ·cases f
  ·cases f
 obtain⟨m,o,b,rfl,rfl,j,rfl,rfl⟩:=A;clear f;obtain⟨c,F,r⟩:=(bW p i J s).qq;obtain⟨d,G,u⟩:=(bW p i K z).qq;have g:=fC j;have D:c=m:=eD (g.1 _ _ r);have E:d=o:=eD (g.2 _ _ u);subst D;subst E;rw[F,G];have C:(Op.equalIn 10000 t (.agg c) (.agg d)).run P w= .ok b w:=by
  have:=oy 100 t l H 9900;rcases this with⟨_,i⟩|⟨hag',_⟩
  ·exact i w c d b j
  ·have:=congrFun hag' w;rcases q with⟨fs,hd|⟨k,el,hd⟩⟩<;>simp[isAgg,run_underlying hd]at this
 refine .pure p (v':= .bool (bif n then !b else b)) ?_ (.bool _);rcases A9 I with⟨rfl,rfl⟩|⟨rfl,rfl⟩
 ·simp[run_eqGuard_agg w .eql t x y c d B,run_eql_struct w t c d,C]
 ·simp[run_eqGuard_agg w .neq t x y c d B,run_neq_struct w t c d,C]
theorem VK(c:R P μ h w)(m:cK μ e a.tmps){op:UnOp}(o:aH P x=true)(h1:aop h base e (.un op x)=some (.val v h')):
 Ran P μ h w base (((Op.unary op (a.eval x)).run P w).andThen λv w=> .ok (.value v) w) v h':=by
 obtain⟨q,f,d⟩:=aA h1;obtain⟨p,b,d⟩:=aA d;cases d;have g:=bW c m o f;generalize a.eval x=xv' at*;unfold yp at b;split at b
 ·cases b;cases g;refine .pure c ?_ (.int _ _);simp[Op.unary,Op.intArith,tJ]
 ·simp only[blt_eq,cond_eq_ite]at b;split at b
  ·rename_i n hb;simp only[decide_eq_true_eq]at hb;cases b;cases g;refine .pure c (v':= .int .u64 (.ofNat (18446744073709551615-n))) ?_ (.int _ _);have j:(BitVec.ofInt IntKind.u64.bits IntKind.u64.max ^^^ BitVec.ofInt IntKind.u64.bits (Int.ofNat n)).toNat=18446744073709551615-n:=by
    have i:BitVec.ofInt 64 IntKind.u64.max=BitVec.allOnes 64:=by decide
    show(BitVec.ofInt 64 IntKind.u64.max ^^^ BitVec.ofInt 64 (Int.ofNat n)).toNat=_;rw[i,BitVec.allOnes_xor,BitVec.toNat_not,show(BitVec.ofInt 64 (Int.ofNat n)).toNat=n from pT n hb]
   have k:(Op.intBits .xor .u64 IntKind.u64.max (Int.ofNat n)).run P w= .ok (.int .u64 (IntKind.u64.wrap ((18446744073709551615-n:Nat):Int))) w:=by
    simp only[Op.intBits,j,gR]
   have l:Op.unary .xor (.int .u64 (Int.ofNat n))=Op.intBits .xor .u64 IntKind.u64.max (Int.ofNat n):=rfl;rw[l,k,wrap_u64 _ (by omega)];rfl
  ·cases b
 ·cases b;cases g;refine .pure c ?_ (.bool _);simp[Op.unary]
 ·cases b
theorem EN(f:R P μ h w)(g:cK μ e a.tmps)(i:P.underlying t=some d)(b:∀m,d≠ .interface m)(k:aH P x=true)(h1:aop h base e (.iK t x)=some (.val v h')):
 Ran P μ h w base (((Instr.makeInterface t (a.eval x)).run P w).andThen λv w=> .ok (.value v) w) v h':=by
 obtain⟨l,c,j⟩:=aA h1;cases j;refine .pure f (v':= .iface t (a.eval x)) ?_ (.iface (bW f g k c));simp only[Instr.makeInterface,ey,run_underlying i,b7];cases d<;>first|rfl|exact(b _ rfl).elim
theorem Ii(c:R P μ h w)(d:cK μ e a.tmps){f:FuncId}{b cs:Array Operand}(i:b.toList.all (aH P)=true)(g:cs.toList.all (aH P)=true)
 (h1:aop h base e (.dV (.func f) b.toList cs.toList)=some (.val v h')):
 Ran P μ h w base (((Instr.makeFunc (.func f) (b.map a.eval) (cs.map a.eval)).run P w).andThen λv w=> .ok (.value v) w) v h':=by
 simp only[aop]at h1;split at h1
 ·rename_i fv cv hfv hcv;cases h1;refine .pure c (v':= .func (.func f) (b.map a.eval) (cs.map a.eval)) (by simp[Instr.makeFunc]) (.Ki (.func f) ?_ ?_)
  ·simpa using tV c d i hfv
  ·simpa using tV c d g hcv
 ·cases h1
theorem Ij(d:R P μ h w)(f:cK μ e a.tmps){o:Oper}(ho:o.op= .nilCheck x)(i:aH P x=true)(h1:aop h base e (.cg x)=some (.val v h')):
 Ran P μ h w base ((execOp a.eval o).run P w) v h':=by
 obtain⟨j,c,b⟩:=aA h1;have g:=bW d f i c;split at b<;>first|(cases b;done)|skip
 rename_i n1 n2 n3 n4;cases b;refine .pure d (v':=a.eval x) ?_ g;simp only[execOp,ho];generalize a.eval x=xv' at*;cases g<;>first|rfl|(exact(n1 rfl).elim)|(exact(n2 rfl).elim)|(exact(n3 rfl).elim)|skip
 rename_i hf _ _ _ _;cases hf<;>rfl
def IE(cs:List Value)(off:Nat):Option Nat->Option Value
 |none=>bK cs off
 |some n=>bif Nat.beq (cF (cG n (cw off cs))) n then some (.agg (cG n (cw off cs)).toArray)else none
theorem zZ{n:Option Nat}(h:vR P t=some n){cs:List Value}{a:Array Value}(e:LR μ cs a.toList)(b:IE cs off n=some v)(w:World):
 ∃c,(part t a off).run P w= .ok c w/\VR μ v c:=by
 obtain⟨d,f⟩:=zX h w;cases n with
 |none=>
  obtain⟨c,i,j⟩:=e.get b;have:a[off]? =some c:=by simpa using i
  exact⟨c,by simp[part,d,this],j⟩
 |some n=>
  simp only[IE,cond_eq_ite,bQ,aW,bX]at b;split at b
  ·cases b;have g:=(e.drop off).take n;refine⟨.agg (a.extract off (off+n)),by simp[part,d,run_sizeOf (f n rfl)], .Jp ?_⟩;simpa using g
  ·cases b
theorem LV(l:R P μ h w)(p:cK μ e a.tmps){k:Array Field}{i:Nat}{n:Option Nat}(q:P.underlying s=some (.struct k))
 (r:k[i]? =some f)(u:vR P f.type=some n)(z:aH P x=true)(h1:aop h base e (.field f.offset n x)=some (.val v h')):
 Ran P μ h w base (((Instr.field s (a.eval x) i).run P w).andThen λv w=> .ok (.value v) w) v h':=by
 have j:∃b,ev h e x=some (.agg b)/\IE b.toList f.offset n=some v/\h'=h:=by
  simp only[aop]at h1;split at h1
  ·rename_i b c;cases n with
   |none=>obtain⟨B,d,g⟩:=aA h1;cases g;exact⟨b,c,d,rfl⟩
   |some n=>
    simp only[cond_eq_ite]at h1;split at h1
    ·rename_i hb;cases h1;exact⟨b,c,by simp[IE,hb],rfl⟩
    ·cases h1
  ·cases h1
 obtain⟨b,c,y,rfl⟩:=j;obtain⟨m,o,t⟩:=(bW l p z c).qq;obtain⟨A,d,g⟩:=zZ u t y w;refine .pure l ?_ g;simp[Instr.field,run_underlying q,r,o,asAgg,d]
theorem Pe(o:R P μ h w)(q:cK μ e a.tmps){len:Nat}{n:Option Nat}(u:P.underlying t=some (.array len el))
 (A:dX P el=some size)(z:vR P el=some n)(C:aH P x=true)(hi:aH P i=true)(h1:aop h base e (.rL len size n x i)=some (.val v h')):
 Ran P μ h w base (((Instr.index t (a.eval x) (a.eval i)).run P w).andThen λv w=> .ok (.value v) w) v h':=by
 have p:∃c k j,ev h e x=some (.agg c)/\ev h e i=some (.int k (.ofNat j))/\j<len/\IE c.toList (j*size) n=some v/\h'=h:=by
  simp only[aop]at h1;split at h1
  ·rename_i c k j d f;simp only[blt_eq,cond_eq_ite]at h1;split at h1
   ·rename_i b;simp only[decide_eq_true_eq]at b;cases n with
    |none=>obtain⟨E,l,m⟩:=aA h1;cases m;exact⟨c,k,j,d,f,b,l,rfl⟩
    |some n=>
     simp only[]at h1;split at h1
     ·rename_i hb;cases h1;exact⟨c,k,j,d,f,b,by simp[IE,hb],rfl⟩
     ·cases h1
   ·cases h1
  ·cases h1
 obtain⟨c,k,j,d,f,b,B,rfl⟩:=p;obtain⟨r,s,y⟩:=(bW o q C d).qq;have g:=bW o q hi f;generalize a.eval i=iv at*;cases g;obtain⟨D,l,m⟩:=zZ z y B w;refine .pure o ?_ m;simp[Instr.index,run_underlying u,asIntOf,s,run_sizeOf A,l,b]
theorem Pf(c:R P μ h w)(l:cK μ e a.tmps)(p:P.underlying t=some .string)(q:aH P x=true)(hi:aH P i=true)
 (h1:aop h base e (.jC x i)=some (.val v h')):Ran P μ h w base (((Instr.index t (a.eval x) (a.eval i)).run P w).andThen λv w=> .ok (.value v) w) v h':=by
 simp only[aop]at h1;split at h1
 ·rename_i s k j hs hj;split at h1
  ·rename_i b hb;cases h1;have m:=bW c l q hs;have n:=bW c l hi hj;generalize a.eval x=xv at*;generalize a.eval i=iv at*;cases m;cases n;rw[cH]at hb;have g:j<s.data.toList.length:=(List.getElem?_eq_some_iff.1 hb).1;have d:s[j]? =some b:=by
    have o:j<s.size:=by show j<s.data.size;simpa using g
    rw[getElem?_pos s j o];have:=(List.getElem?_eq_some_iff.1 hb).2;rw[←this];rfl
   refine .pure c (v':= .int .u8 b.toNat) ?_ (.int _ _);have f:(if(0:Int)<=Int.ofNat j then s[(Int.ofNat j).toNat]? else none)=some b:=(if_pos (Int.natCast_nonneg j)).trans d;simp only[Instr.index,asIntOf,ey,gR,b7,run_underlying p,f]
  ·cases h1
 ·cases h1
variable{ts:Array TypeId}{ty:TypeId}
theorem zR(d:R P μ h w){x:Value}(c:ts[0]? =some t)(b:xs[0]? =some x)
 (a:(∃el,P.underlying t=some (.array n el))∨∃p el,P.underlying t=some (.pointer p)/\P.underlying p=some (.array n el))(h1:aop h base e (.j9 n)=some (.val v h')):
 Ran P μ h w base (((Builtin.len_ ts ty xs).run P w).andThen λv w=> .ok (.value v) w) v h':=by
 cases h1;refine .pure d ?_ (.int _ _);rcases a with⟨el,a⟩|⟨p,el,a,hp⟩
 ·simp only[Builtin.len_,c,b,ey,run_underlying a,b7];cases x<;>rfl
 ·simp only[Builtin.len_,c,b,ey,run_underlying a,b7];cases x<;>simp[run_underlying hp,goInt]
variable{es:List (Value×Value)}{ms:List MapEntry}
theorem MR.length(a:MR μ es ms):es.length=ms.length:=by
 induction a with
 |nil=>rfl
 |cons _ _ _ ih=>simp[ih]
theorem fO{o:Obj}(hr:w.heap[r]? =some o)(a:∀c el fz,o≠ .cells c el fz):(getObj r).run P w= .ok o w:=by
 cases o<;>first|(simp only[getObj,Sem.run,hr];done)|exact(a _ _ _ rfl).elim
theorem EM(b:R P μ h w)(i:cK μ e a.tmps){k:Nat}(j:ts[0]? =some t)(c:xs[0]? =some (a.eval x))
 (d:(k=0/\P.underlying t=some .string)∨(k=1/\∃el,P.underlying t=some (.slice el))∨(k=2/\∃q el,P.underlying t=some (.map q el)))(l:aH P x=true)(h1:aop h base e (.len k x)=some (.val v h')):
 Ran P μ h w base (((Builtin.len_ ts ty xs).run P w).andThen λv w=> .ok (.value v) w) v h':=by
 rcases d with⟨rfl,d⟩|⟨rfl,el,d⟩|⟨rfl,q,el,d⟩<;>simp only[aop]at h1
 ·split at h1
  ·rename_i s hs;cases h1;have g:=bW b i l hs;generalize a.eval x=xv at*;cases g;refine .pure b ?_ (.int _ _);simp[Builtin.len_,j,c,run_underlying d,goInt]
  ·cases h1
 ·split at h1
  ·rename_i s hs;cases h1;have g:=bW b i l hs;generalize a.eval x=xv at*;cases g<;>(refine .pure b ?_ (.int _ _);simp[Builtin.len_,j,c,run_underlying d,goInt])
  ·cases h1
 ·split at h1
  ·rename_i hs;cases h1;have g:=bW b i l hs;generalize a.eval x=xv at*;cases g;refine .pure b ?_ (.int _ _);simp[Builtin.len_,j,c,run_underlying d,goInt]
  ·rename_i r hs;split at h1
   ·rename_i es he;cases h1;have g:=bW b i l hs;generalize a.eval x=xv at*;cases g with
    |map hk=>
     obtain⟨f,m,n,o,_⟩:=b.rT he hk;refine .pure b (v':= .int .i64 (cF es)) ?_ (.int _ _);have p:f.size=cF es:=by rw[bX,o.length];simp
     simp[Builtin.len_,j,c,run_underlying d,goInt,fO n (by simp),p]
   ·cases h1
  ·cases h1
theorem SP(f:R P μ h w)(k:cK μ e a.tmps)(j:ts[0]? =some t)(d:xs[0]? =some (a.eval x))
 (i:P.underlying t=some (.slice el))(l:aH P x=true)(h1:aop h base e (.cap x)=some (.val v h')):
 Ran P μ h w base (((Builtin.cap_ ts ty xs).run P w).andThen λv w=> .ok (.value v) w) v h':=by
 simp only[aop]at h1;split at h1
 ·rename_i b n c hs;simp only[beq_eq,cond_eq_ite]at h1;split at h1
  ·cases h1
  ·rename_i hc;cases h1;have g:=bW f k l hs;generalize a.eval x=xv at*;cases g with
   |iT _ _=>refine .pure f ?_ (.int _ _);simp[Builtin.cap_,j,d,run_underlying i,goInt]
   |slice _ _ _=>refine .pure f ?_ (.int _ _);simp[Builtin.cap_,j,d,run_underlying i,goInt]
   |eT _ _ _ _=>simp at hc
   |kC s=>refine .pure f ?_ (.int _ _);simp[Builtin.cap_,j,d,run_underlying i,goInt]
 ·cases h1
theorem Rl{mx:Bool}:∀{l:List Value} {x v:Value} {a:List Value} {x':Value},mmA mx x l=some v->VR μ x x'→LR μ l a→l≠[]→
 (∃k n,v= .int k n)/\(a.foldlM (if mx then Builtin.max2 else Builtin.min2) x').run P w= .ok v w
 |[],_,_,_,_,_,_,_,h=>absurd rfl h
 |y::l,x,v,a,x',hm,hx,hl,hne0=>by
  clear hne0;cases hl with
  |cons hy hl=>
   simp only[mmA]at hm;split at hm
   ·rename_i k p k' q;split at hm
    ·rename_i hk;subst hk;cases hx;cases hy;have step:(if mx then Builtin.max2 else Builtin.min2) (.int k p) (.int k q)=Pure.pure (.int k (if mx then(if q>p then q else p)else(if q<p then q else p))):=by
      cases mx<;>rfl
     simp only[List.foldlM_cons,ey,step,gR,b7];cases l with
     |nil=>
      cases hl;simp only[mmA]at hm;cases hm;exact⟨⟨_,_,rfl⟩,by simp⟩
     |cons z l=>exact Rl hm (.int _ _) hl (by simp)
    ·cases hm
   ·cases hm
theorem zT(i:R P μ h w)(j:cK μ e a.tmps){mx:Bool}{args:Array Operand}(m:args.toList.all (aH P)=true)(q:2<=args.size)
 (h1:aop h base e (.eF mx args.toList)=some (.val v h')):
 Ran P μ h w base (((if mx then Builtin.max_ ts ty (args.map a.eval)else Builtin.min_ ts ty (args.map a.eval)).run P w).andThen λv w=> .ok (.value v) w) v h':=by
 simp only[aop]at h1;split at h1
 ·rename_i x l hev;obtain⟨r,p,o⟩:=aA h1;cases o;have g:=tV i j m hev;have c:(args.map a.eval).toList=args.toList.map a.eval:=by simp
  have d:(x::l).length=args.size:=by rw[g.length];simp
  cases hq:args.toList.map a.eval with
  |nil=>rw[hq]at g;cases g
  |cons x' l'=>
   rw[hq]at g;cases g with
   |cons gx gl=>
    have f:l≠[]:=by intro e;subst e;simp at d;omega
    obtain⟨⟨k,n,rfl⟩,b⟩:=Rl (P:=P) (w:=w) p gx gl f;refine .pure i (v':= .int k n) ?_ (.int _ _);cases mx
    ·simp only[rc,if_false]at b⊢;simp only[Builtin.min_,c,hq,b,b7]
    ·simp only[if_true]at b⊢;simp only[Builtin.max_,c,hq,b,b7]
 ·cases h1
variable{xt:TypeId}{z:Value}
theorem ET(i:R P μ h w)(l:cK μ e a.tmps){ok:Bool}(j:P.underlying t=some d)(c:∀m,d≠ .interface m)(o:iz P t=some z)(k:flat z=true)
 (n:aH P x=true)(h1:aop h base e (.jT t ok z x)=some (.val v h')):
 Ran P μ h w base (((Instr.typeAssert (a.eval x) xt t ok).run P w).andThen λv w=> .ok (.value v) w) v h':=by
 have p:VR μ z z:=(VR.flat k).1;have f:∀{v v'},VR μ v v'→∀b,VR μ (.tuple #[v, .bool b]) (.tuple #[v', .bool b]):=λr b=> .lI (.cons r (.cons (.bool b) .nil));simp only[aop]at h1;split at h1
 ·rename_i hs;have g:=bW i l n hs;generalize a.eval x=xv at*;cases g;cases ok
  ·cases h1
  ·cases h1;refine .pure i (v':= .tuple #[z, .bool false]) ?_ (f p false);simp only[Instr.typeAssert,ey,run_underlying j,b7];cases d<;>first|exact(c _ rfl).elim|simp[dS o]
 ·rename_i t' q hs;have g:=bW i l n hs;generalize a.eval x=xv at*;cases g with
  |iface gv=>
   rename_i q';split at h1
   ·rename_i ht;cases ok
    ·cases h1;refine .pure i (v':=q') ?_ gv;simp only[Instr.typeAssert,ey,run_underlying j,b7];cases d<;>first|exact(c _ rfl).elim|simp[ht]
    ·cases h1;refine .pure i (v':= .tuple #[q', .bool true]) ?_ (f gv true);simp only[Instr.typeAssert,ey,run_underlying j,b7];cases d<;>first|exact(c _ rfl).elim|simp[ht]
   ·rename_i ht;cases ok
    ·cases h1
    ·cases h1;refine .pure i (v':= .tuple #[z, .bool false]) ?_ (f p false);simp only[Instr.typeAssert,ey,run_underlying j,b7];cases d<;>first|exact(c _ rfl).elim|simp[ht,dS o]
 ·cases h1
theorem sQ(a:VR μ v v'):LR μ (cellsOf v) v'.cells.toList:=by
 cases a with
 |agg h1 h2=>exact .zQ h1 h2
 |_=>refine .cons ?_ .nil;constructor<;>assumption
theorem Gi{a:List Value}(b:LR μ l a):eC a=eC l:=by
 induction b with
 |nil=>rfl
 |cons hv _ ih=>cases hv<;>simp[eC,ih]
theorem uR(l:List α)(i:Nat)(x:α):(rS l i x).length=l.length:=by simp[kI]
theorem oA{α:Type}:∀(m:List α) (l:List α) (o:Nat),(cW l o m).length=l.length
 |[],l,o=>by cases l<;>rfl
 |y::m,l,o=>by
  have:cW l o (y::m)=cW (rS l o y) (o+1) m:=by cases l<;>rfl
  rw[this,oA m,uR]
theorem mC(l:List α)(o:Nat)(y:α)(m:List α):cW l o (y::m)=cW (rS l o y) (o+1) m:=by cases l<;>rfl
theorem nN{α:Type}:∀(m:List α) (l:List α) (o i:Nat),o+m.length<=l.length->(cW l o m)[i]? =if o<=i/\i<o+m.length then m[i-o]? else l[i]?
 |[],l,o,i,_=>by
  have:cW l o []=l:=by cases l<;>rfl
  rw[this,if_neg (by intro ⟨b,a⟩;simp at a;omega)]
 |y::m,l,o,i,ho=>by
  simp only[pm]at ho;rw[mC,nN m _ _ _ (by rw[uR];omega),kI,zc];by_cases b:o+1<=i/\i<o+1+m.length
  ·rw[if_pos b,if_pos (by simp;omega),show i-o=(i-(o+1))+1 by omega];simp
  ·rw[if_neg b];by_cases a:o=i
   ·subst a;rw[if_pos rfl,if_pos (by omega),if_pos (by simp)];simp
   ·rw[if_neg a,if_neg (by simp;omega)]
theorem mG(r:Nat):∀(l:List Value) (o i:Nat) (w:World) (c:Array Value) (el:TypeId) (fz:Nat×Nat),w.heap[r]? =some (.cells c el fz)->o+i+l.length<=c.size→
 (∀j,j<c.size→¬ (fz.1≤j∧j<fz.2))→eC l=true→∃f g,(storeCells ⟨r,o,none⟩ l i).run P w= .ok () f∧f.heap.size=w.heap.size∧(∀d,d≠r→f.heap[d]? =w.heap[d]?)∧
   f.heap[r]? =some (.cells g el fz)/\g.size=c.size/\g.toList=cW c.toList (o+i) l/\Same w f
 |[],o,i,w,c,el,fz,hr,_,_,_=>⟨w,c,by simp[storeCells],rfl,λ_ _=>rfl,hr,rfl,by cases c.toList<;>rfl, .refl w⟩
 |v::l,o,i,w,c,el,fz,hr,hn,hf,hone=>by
  simp only[pm]at hn;have hone':eC l=true:=by cases v<;>simp[eC]at hone<;>exact hone
  have a:∃x,w.cell? ⟨r,o+i,none⟩=some x:=⟨c[o+i]'(by omega),by rw[cell_of hr];simp[show o+i<c.size by omega]⟩;obtain⟨x,a⟩:=a;have k:w.frozen? ⟨r,o+i,none⟩=false:=by
   have:=hf (o+i) (by omega);simp only[World.frozen?,hr];simpa using this
  have h:(store ⟨r,o+i,none⟩ v).run P w= .ok () (w.setCell ⟨r,o+i,none⟩ v):=by
   cases v<;>simp[eC]at hone<;>simp[store,Sem.run,a,k]
  have u:(w.setCell ⟨r,o+i,none⟩ v).heap[r]? =some (.cells (c.setIfInBounds (o+i) v) el fz):=by
   simp[World.setCell,yi,hr]
  have y:∀d,d≠r->(w.setCell ⟨r,o+i,none⟩ v).heap[d]? =w.heap[d]? :=by
   intro d e;simp[World.setCell,yi,Ne.symm e]
  have A:(w.setCell ⟨r,o+i,none⟩ v).heap.size=w.heap.size:=by simp[World.setCell]
  obtain⟨f,g,m,z,n,p,q,s,t⟩:=mG r l o (i+1) (w.setCell ⟨r,o+i,none⟩ v) (c.setIfInBounds (o+i) v) el fz u (by simp;omega) (by simpa using hf) hone';refine⟨f,g,?_,by omega,λd e=>(n d e).trans (y d e),p,by simpa using q,?_,Same.trans (b:=w.setCell ⟨r,o+i,none⟩ v) ⟨rfl,rfl,rfl,by first|exact bl _|exact qt _ _⟩ t⟩
  ·simp only[storeCells,ey,fG,h,b7,m]
  ·rw[s,mC,kI];simp[te]
theorem R.qg(z:R P μ h w){k:Blk}(hb:h.get b=some (.cells vs true sz))(q:μ b=some k){a:List Value}(s:LR μ l a)(ho:o+l.length<=vs.length)
 (j:eC l=true):∃m,(storeCells ⟨k.r,k.d+o,none⟩ a).run P w= .ok () m∧R P μ (h.wr base b (.cells (cW vs o l) true sz)) m∧St μ h w μ (h.wr base b (.cells (cW vs o l) true sz)) m:=by
 obtain⟨t,c,v,x,B,S,T,I,J⟩:=z.obj b _ hb k q;obtain⟨L,U,A⟩:=J rfl;have M:=s.length;obtain⟨m,u,C,D,E,y,F,G,H⟩:=mG (P:=P) k.r a (k.d+o) 0 w c v x B (by omega) A (by rw[Gi s];exact j);refine⟨m,C,z.write hb rfl rfl q D E (.xe B y (by omega)) ?_ H⟩;intro V f;rw[q]at f;cases f;refine⟨t,u,v,x,y,by rw[oA];omega,by omega,λi p=> ?_,λ_=>⟨L,by omega,by rw[F];exact A⟩⟩;rw[oA]at p;have K:u[k.d+i]? =(cW c.toList (k.d+o+0) a)[k.d+i]? :=by rw[←G];simp
 have g:k.d+o+0+a.length<=c.toList.length:=by simp;omega
 rw[K,nN a c.toList (k.d+o+0) (k.d+i) g];have n:gv (cW vs o l) i=((if o<=i/\i<o+l.length then l[i-o]? else vs[i]?).getD undef):=by
  simp only[gv,cH];rw[nN l vs o i ho]
 rw[n];by_cases hin:o<=i/\i<o+l.length
 ·rw[if_pos (by omega),if_pos hin,show k.d+i-(k.d+o+0)=i-o by omega];have e:i-o<l.length:=by omega
  have:=s.gv (i-o) e;refine⟨gv a (i-o),rI (by omega),?_⟩;rw[rI e];exact this
 ·rw[if_neg (by omega),if_neg hin];obtain⟨Q,N,O⟩:=I i p;refine⟨Q,by simpa using N,?_⟩;rw[rI p];exact O
variable{w':World}
theorem R.wY(r:R P μ h w)(u:w'.heap=w.heap.push (.cells c el fz))(f:∀j,j<c.size->¬ (fz.1<=j/\j<fz.2))
 (t:LR μ l (c.toList.take l.length))(d:l.length<=c.size)(p:Same w w':=by exact⟨rfl,rfl,rfl,by first|exact bl _|exact qt _ _⟩):
 R P (upd μ h.next ⟨w.heap.size,0,c.size,sz⟩) (h.push (.cells l own sz)) w'∧
 St μ h w (upd μ h.next ⟨w.heap.size,0,c.size,sz⟩) (h.push (.cells l own sz)) w':=by
 have o:∀a,μ h.next=some a→False:=λa v=>pp _ (r.dom _ _ v).1
 refine r.alloc (k:=⟨w.heap.size,0,c.size,sz⟩) u rfl ?_ p;intro k n;unfold upd at n;rw[if_pos rfl]at n;cases n;refine⟨rfl,c,el,fz,by rw[u];simp,by simpa using d,bl _,λi g=> ?_,λ_=>⟨rfl,rfl,f⟩⟩;have x:∀b a,μ b=some a→upd μ h.next ⟨w.heap.size,0,c.size,sz⟩ b=some a:=λb a s=>by
  unfold upd;rw[if_neg];exact s;intro e;subst e;exact o _ s
 have:=(t.gv i g).mono x;refine⟨_,?_,this⟩;have m:i<(c.toList.take l.length).length:=by rw[←t.length];exact g
 have q:=rI m;rw[gS g]at q;simpa using q
theorem R.newRow(b:R P μ h w)(d:LR μ l (c.toList.take l.length))(a:l.length<=c.size):
 R P (upd μ h.next ⟨w.heap.size,0,c.size,sz⟩) (h.push (.cells l own sz)) {w with heap:=w.heap.push (.cells c el)}∧
 St μ h w (upd μ h.next ⟨w.heap.size,0,c.size,sz⟩) (h.push (.cells l own sz)) {w with heap:=w.heap.push (.cells c el)}:=
 b.wY rfl (λj _=>by simp) d a
theorem R.qB(b:R P μ h w)(a:LR μ l c.toList):
 R P (upd μ h.next ⟨w.heap.size,0,c.size,sz⟩) (h.push (.cells l own sz)) {w with heap:=w.heap.push (.cells c el)}∧
 St μ h w (upd μ h.next ⟨w.heap.size,0,c.size,sz⟩) (h.push (.cells l own sz)) {w with heap:=w.heap.push (.cells c el)}:=by
 have e:l.length=c.size:=by rw[a.length];simp
 exact b.newRow (by rw[e,gk (by simp)];exact a) (by omega)
theorem ek(μ:Mu)(b:Nat)(k:Blk):upd μ b k b=some k:=by simp[upd]
theorem ig(el:TypeId)(c:Array Value)(w:World):(newRow el c).run P w= .ok ⟨w.heap.size,0,none⟩ {w with heap:=w.heap.push (.cells c el)}:=by
 simp[newRow,newObj,Sem.run]
theorem SQ(c:R P μ h w)(g:iz P t=some z)(f:cZ (cellsOf z)=true)(h1:aop h base e (.new (cellsOf z))=some (.val v h')):
 Ran P μ h w base (((Instr.alloc t true (.tuple #[])).run P w).andThen λv w=> .ok (.value v) w) v h':=by
 cases h1;have d:LR μ (cellsOf z) z.cells.toList:=by
  have:z.cells.toList=cellsOf z:=by cases z<;>rfl
  rw[this];exact(LR.cZ f).1
 obtain⟨a,b⟩:=c.qB (el:=t) (own:=true) (sz:=1) d;refine⟨_, .pointer (some ⟨w.heap.size,0,none⟩),_, .inl ?_,?_,a,b,AS.push _ _ _⟩
 ·simp only[Instr.alloc,ey,dS g,b7];simp[newVar,ig]
 ·exact VR.ptr (o:=0) (ek _ _ _)
theorem SN(c:R P μ h w)(g:cK μ e a.tmps)(j:aH P x=true)(h1:aop h base e (.box x)=some (.val v h')):
 Ran P μ h w base (((Instr.box t (a.eval x)).run P w).andThen λv w=> .ok (.value v) w) v h':=by
 obtain⟨k,b,i⟩:=aA h1;cases i;obtain⟨d,f⟩:=c.qB (el:=t) (own:=true) (sz:=1) (sQ (bW c g j b));refine⟨_, .pointer (some ⟨w.heap.size,0,none⟩),_, .inl ?_,?_,d,f,AS.push _ _ _⟩
 ·simp[Instr.box,newVar,ig]
 ·exact VR.ptr (o:=0) (ek _ _ _)
theorem L6(d:R P μ h w)(j:cK μ e a.tmps)(s:dX P t=some n)(u:aH P x=true)(z:aH P y=true)
 (h1:aop h base e (.store n x y)=some (.val v h')):
 Ran P μ h w base (((Instr.storeAt t (a.eval x) (a.eval y)).run P w).andThen λ_ w=> .ok .skip w) v h':=by
 obtain⟨F,g,c⟩:=aA h1;obtain⟨G,i,c⟩:=aA c;split at c
 ·rename_i h2 hst;cases c;have q:=bW d j u g;have r:=bW d j z i;generalize a.eval x=xv' at*;generalize a.eval y=yv' at*;unfold sB at hst;split at hst
  ·rename_i b o;cases q with
   |ptr hk=>
    rename_i k;split at hst
    ·rename_i vs sz hb;simp only[bX,beq_eq,ble_eq,cond_eq_ite,ed,decide_eq_true_eq]at hst;split at hst
     ·rename_i hc;obtain⟨⟨m,E⟩,p⟩:=hc;cases hst;have l:=sQ r;obtain⟨D,A,B,C⟩:=d.qg (base:=base) hb hk l (o:=o) (by omega) p;refine⟨μ,undef,D, .inr ⟨?_,rfl⟩,(VR.cE rfl).1,B,C,AS.wr _ _ _ _⟩;have f:yv'.cells.size=n:=by rw[←m,l.length];simp
      simp only[Instr.storeAt,Instr.sureAddr,ey,gR,b7,storeVar,run_sizeOf s,f,ne_eq,not_true_eq_false,if_false,A]
     ·cases hst
    ·cases hst
  ·cases hst
 ·cases c
theorem Dn(d:R P μ h w){r:Option Value}(hr:r=none∨∃k n kt el,r=some (.int k n)/\P.underlying t=some (.map kt el))(h1:aop h base e .mkMap=some (.val v h')):
 Ran P μ h w base (((Instr.makeMap t r).run P w).andThen λv w=> .ok (.value v) w) v h':=by
 cases h1;obtain⟨b,c⟩:=d.alloc (w':={w with heap:=w.heap.push (.map #[] 0)}) (o:= .map []) (k:=⟨w.heap.size,0,0,0⟩) rfl rfl (λk a=>by
  rw[ek]at a;cases a;exact⟨#[],0,by simp, .nil,List.nodup_nil,λn f=>by cases f⟩)
 refine⟨_, .map (some w.heap.size),_, .inl ?_,?_,b,c,AS.push _ _ _⟩
 ·rcases hr with rfl|⟨k,n,kt,el,rfl,hd⟩
  ·simp[Instr.makeMap,newObj,Sem.run]
  ·simp only[Instr.makeMap,ey,run_underlying hd,b7];simp[asInt,asIntOf,newObj,Sem.run]
 ·exact VR.map (ek _ _ _)
theorem LR.cW{x y:List Value}(b:LR μ x y):∀{l m:List Value} (_:LR μ l m) (o:Nat),LR μ (cW l o x) (cW m o y):=by
 induction b with
 |nil=>intro l m a o;cases l<;>cases m<;>exact a
 |cons h1 _ ih=>
  intro l m a o;rw[mC,mC];refine ih ?_ _;rw[kI,kI];exact a.set h1 o
theorem uN(off:Nat):∀(l:List Value) (k:Nat) (cs:Array Value),((l.zipIdx k).foldl (λcs p=>cs.setIfInBounds (off+p.2) p.1) cs).toList=cW cs.toList (off+k) l
 |[],k,cs=>by cases hcs:cs.toList<;>simp[hcs,A.cW]
 |x::l,k,cs=>by
  rw[List.zipIdx_cons,List.foldl_cons,uN off l (k+1),mC,kI];simp[te]
theorem vw(m:R P μ h w)(k:cK μ e a.tmps){b:Nat->Option (Nat×Nat)}:∀{ps:List (Nat×Operand)} {f:List (Nat×Nat×Operand)} {z cs:List Value} {z':Array Value},(∀p∈ps,aH P p.2=true)->pY b ps=some f→
 LR μ z z'.toList->je h e z f=some cs->∃c,Instr.fill b z' (ps.map λp=>(p.1,a.eval p.2))=some c∧LR μ cs c.toList
 |[],f,z,cs,z',_,hq,hz,hf=>by cases hq;cases hf;exact⟨z',rfl,hz⟩
 |(i,x)::ps,f,z,cs,z',hc,hq,hz,hf=>by
  simp only[pY]at hq;split at hq
  ·rename_i o s l g hl;cases hq;simp only[je]at hf;split at hf
   ·rename_i v hv;simp only[bX,beq_eq,ble_eq,cond_eq_ite,ed,decide_eq_true_eq]at hf;split at hf
    ·rename_i hcd;have gv:=sQ (bW m k (hc (i,x) (by simp)) hv);have r:=gv.length;have j:=hz.length;have d:((a.eval x).cells.zipIdx.foldl (λcs (p:Value×Nat)=>cs.setIfInBounds (o+p.2) p.1) z').toList=cW z'.toList o (a.eval x).cells.toList:=by
      have:=uN o (a.eval x).cells.toList 0 z';rw[ww]at this;rw[←this];congr 1;rw[←Array.foldl_toList,Array.toList_zipIdx]
     obtain⟨c,n,q⟩:=vw m k (λp g=>hc p (by simp[g])) hl (z':=(a.eval x).cells.zipIdx.foldl (λcs (p:Value×Nat)=>cs.setIfInBounds (o+p.2) p.1) z') (by rw[d];exact gv.cW hz o) hf;refine⟨c,?_,q⟩;simp only[Array.length_toList]at r j;simp only[pD,Instr.fill,g];rw[if_neg (by simp;omega)];exact n
    ·cases hf
   ·cases hf
  ·cases hq
theorem kZ(n:Nat)(z:List α):(eW n z).length=n*z.length:=by
 induction n with
 |zero=>simp[eW]
 |succ n ih=>simp[eW,dI,ih,Nat.succ_mul,Nat.add_comm]
theorem Dc{α:Type}(z:List α):∀(n i:Nat),i<n*z.length->(eW n z)[i]? =z[i % z.length]?
 |0,i,hi=>by simp at hi
 |n+1,i,hi=>by
  rw[eW,dI];by_cases h:i<z.length
  ·rw[hG h,Nat.mod_eq_of_lt h]
  ·rw[gK (by omega),Dc z n _ (by rw[Nat.succ_mul]at hi;omega)];rw[Nat.mod_eq_sub_mod (by omega:i≥z.length)]
theorem zV(z:Array Value)(n:Nat):((Array.range (n*z.size)).map (λi=>z[i % z.size]!)).toList=eW n z.toList:=by
 apply u3;intro i;by_cases hi:i<n*z.size
 ·rw[Dc z.toList n i (by simpa using hi)];have b:0<z.size:=tx λe=>by rw[e]at hi;simp at hi
  have a:=Nat.mod_lt i b;simp[hi,a,getElem!_pos]
 ·rw[re (by simp;omega),re (by rw[kZ];simp;omega)]
theorem uf(ps:Array (Nat×Operand)):(ps.map λ(i,x)=>(i,a.eval x)).toList=ps.toList.map λp=>(p.1,a.eval p.2):=by simp
theorem BS(a:cZ (cellsOf z)=true):LR μ (cellsOf z) z.cells.toList:=by
 have:z.cells.toList=cellsOf z:=by cases z<;>rfl
 rw[this];exact(LR.cZ a).1
theorem nY(a:iz P t=some z):∃i,P.info? t=some i/\i.zero=some z:=by
 simpa[iz,Option.bind_eq_some_iff]using a
theorem qQ{s:Nat}(a:dX P t=some s):∃i,P.info? t=some i/\i.size=s:=by
 simpa[dX,rg]using a
theorem xw:∀{a:List Field},a.all (λf=>(dX P f.type).isSome)=true→
 ∃places,a.mapM (λf=>(P.info? f.type).map λi=>(f.offset,i.size))=some places/\∀i:Nat,places[i]? =(a[i]?).map λ(f:Field)=>(f.offset,(dX P f.type).getD 0)
 |[],_=>⟨[],by simp,λi=>by simp⟩
 |f::a,hf=>by
  simp only[G5,ed]at hf;obtain⟨pl,g1,g2⟩:=xw hf.2;obtain⟨s,c⟩:=Option.isSome_iff_exists.1 hf.1;obtain⟨i,d,b⟩:=qQ c;refine⟨(f.offset,i.size)::pl,by simp[List.mapM_cons,d,g1],λj=> ?_⟩;cases j with
  |zero=>simp[c,b]
  |succ j=>simp[g2]
variable{ps:Array (Nat×Operand)}
theorem Dk(l:R P μ h w)(q:cK μ e a.tmps){n:List (Nat×Nat×Operand)}{b:Nat->Option (Nat×Nat)}
 (y:(∃len el s,P.underlying t=some (.array len el)∧dX P el=some s∧b=fun i=>some (i*s,s))∨
   (∃fs:Array Field,P.underlying t=some (.struct fs)/\fs.toList.all (λf=>(dX P f.type).isSome)=true/\b=λi=>(fs[i]?).map λ(f:Field)=>(f.offset,(dX P f.type).getD 0)))
 (d:iz P t=some z)(g:cZ (cellsOf z)=true)(r:∀p∈ps.toList,aH P p.2=true)(A:pY b ps.toList=some n)(h1:aop h base e (.build (cellsOf z) n)=some (.val v h')):
 Ran P μ h w base (((Instr.build t (ps.map λ(i,x)=>(i,a.eval x))).run P w).andThen λv w=> .ok (.value v) w) v h':=by
 simp only[aop]at h1;split at h1
 ·rename_i cs hcs;cases h1;obtain⟨c,k,o⟩:=vw l q r A (BS g) hcs;refine .pure l ?_ (.Jp (c':=c) (by simpa using o));obtain⟨i,m,d⟩:=nY d;rw[run_build w t _ c,b7];rw[uf];rcases y with⟨len,el,s,hd,hs,rfl⟩|⟨fs,hd,hf,rfl⟩
  ·obtain⟨j,u,rfl⟩:=qQ hs;simp only[Program.built,m,hd,d,u];exact k
  ·obtain⟨D,B,C⟩:=xw hf;simp only[Program.built,m,hd,d,B];rw[←k];congr 1;funext i;simp[C]
 ·cases h1
theorem Ib(r:R P μ h w)(D:cK μ e a.tmps){s:Nat}{y:List (Nat×Nat×Operand)}(F:P.underlying t=some (.slice el))(I:dX P el=some s)
 (J:iz P el=some z)(d:cZ (cellsOf z)=true)(u:n*s<=2 ^ 24)(j:cF (cellsOf z)=s)(c:s≠0)(E:∀p∈ps.toList,aH P p.2=true)(H:pY (λi=>some (i*s,s)) ps.toList=some y)
 (h1:aop h base e (.dw (cellsOf z) n y)=some (.val v h')):
 Ran P μ h w base (((Instr.buildSlice t n (ps.map λ(i,x)=>(i,a.eval x))).run P w).andThen λv w=> .ok (.value v) w) v h':=by
 simp only[aop]at h1;split at h1
 ·rename_i cs hcs;cases h1;have k:z.cells.size=s:=by rw[←j,bX,(BS (μ:=μ) d).length];simp
  have b:LR μ (eW n (cellsOf z)) ((Array.range (n*s)).map (z.cells[· % z.cells.size]!)).toList:=by
   have:=zV z.cells n;rw[k]at this⊢;rw[this];have:z.cells.toList=cellsOf z:=by cases z<;>rfl
   rw[this];have:∀m,cZ (eW m (cellsOf z))=true:=λm=>by
    induction m with
    |zero=>rfl
    |succ m ih=>
     rw[eW,dI];have f:∀l q:List Value,cZ l=true->cZ q=true->cZ (l++q)=true:=λl q h1 C=>by
      induction l with
      |nil=>exact C
      |cons x l ih'=>
       simp only[cZ,cond_eq_ite]at h1;split at h1
       ·rename_i hx;simp[cZ,hx,ih' h1]
       ·cases h1
     exact f _ _ d ih
   exact(LR.cZ (this n)).1
  have G:n<UNK:=by
   have:=Nat.le_mul_of_pos_right n (tx c);unfold UNK;omega
  obtain⟨A,g,B⟩:=vw r D E H b hcs;obtain⟨K,L⟩:=r.qB (el:=el) (own:=true) (sz:=cF (cellsOf z)) B;refine⟨_, .slice (some ⟨w.heap.size,0,none⟩) n n,_, .inl ?_,?_,K,L,AS.push _ _ _⟩
  ·simp only[Instr.buildSlice,ey,run_underlying F,b7,run_sizeOf I,if_neg (show¬n*s>2 ^ 24 by omega),uf];by_cases h0:n*s=0
   ·rw[if_pos h0];have:n=0:=by
     rcases Nat.mul_eq_zero.1 h0 with h|h
     ·exact h
     ·exact absurd h c
    subst this;simp only[vx,show Array.range 0= #[]from rfl,Array.map_empty]at g;simp only[vx,show Array.range 0= #[]from rfl,Array.map_empty,gR,b7,g,ey,ig]
   ·rw[if_neg h0];simp only[ey,dS J,b7,gR,g,ig]
  ·exact VR.slice (o:=0) (ek _ _ _) G (bl _)
 ·cases h1
theorem nO(b:VR μ v v')(a:pQ v=some n):∃k,v'= .int k n:=by
 unfold pQ at a;split at a
 ·cases a;cases b;exact⟨_,rfl⟩
 ·cases a
theorem BC{a:List Value}(h1:cZ l=true)(b:cZ a=true):cZ (l++a)=true:=by
 induction l with
 |nil=>exact b
 |cons x l ih'=>
  simp only[cZ,cond_eq_ite]at h1;split at h1
  ·rename_i hx;simp[cZ,hx,ih' h1]
  ·cases h1
theorem yb{z:List Value}(a:cZ z=true):∀m,cZ (eW m z)=true
 |0=>rfl
 |m+1=>by rw[eW,dI];exact BC a (yb a m)
theorem xW(a:cZ (cellsOf z)=true)(n:Nat):LR μ (eW n (cellsOf z)) ((Array.range (n*z.cells.size)).map (z.cells[· % z.cells.size]!)).toList:=by
 rw[zV];have:z.cells.toList=cellsOf z:=by cases z<;>rfl
 rw[this];exact(LR.cZ (yb a n)).1
theorem Ed:z.cells.size=(cellsOf z).length:=by
 have:z.cells.toList=cellsOf z:=by cases z<;>rfl
 rw[←this];simp
theorem EO(n:R P μ h w)(D:cK μ e a.tmps){s:Nat}{l c:Operand}(G:P.underlying t=some (.slice el))(I:dX P el=some s)
 (y:iz P el=some z)(hb:j5 P el=some b)(u:cZ (cellsOf z)=true)(A:cF (cellsOf z)=s)(B:s≠0)(H:aH P l=true)(F:aH P c=true)
 (h1:aop h base e (.mkSlice (cellsOf z) b l c)=some (.val v h')):
 Ran P μ h w base (((Instr.makeSlice t (a.eval l) (a.eval c)).run P w).andThen λv w=> .ok (.value v) w) v h':=by
 simp only[aop]at h1;split at h1
 ·rename_i lv cv hlv hcv;split at h1
  ·rename_i ln cn hln hcn;simp only[ble_eq,blt_eq,cond_eq_ite,ed,decide_eq_true_eq]at h1;split at h1
   ·rename_i hcond;obtain⟨⟨E,N⟩,C⟩:=hcond;cases h1;obtain⟨K,m⟩:=nO (bW n D H hlv) hln;obtain⟨J,k⟩:=nO (bW n D F hcv) hcn;obtain⟨i,r,y⟩:=nY y;have x:i.size=s:=by
     obtain⟨j,f,q⟩:=qQ I;rw[r]at f;cases f;exact q
    have p:i.bytes=b:=by
     simp only[j5,rg]at hb;obtain⟨j,f,q⟩:=hb;rw[r]at f;cases f;exact q
    have d:z.cells.size=s:=by rw[Ed,←bX];exact A
    rw[m,k,run_make w t el i z G r y K J ln cn (by omega) (by omega) (by rw[p,←Int.natCast_mul];omega) (by unfold UNK at C;omega)];have g:LR μ (eW cn (cellsOf z)) (madeCells z.cells ((cn:Int).toNat*i.size)).toList:=by
     have:=xW (μ:=μ) u cn;rw[d]at this;unfold madeCells;rw[d,x,wy];exact this
    obtain⟨L,M⟩:=n.qB (el:=el) (own:=true) (sz:=cF (cellsOf z)) g;exact⟨_, .slice (some ⟨w.heap.size,0,none⟩) ln cn,_, .inl rfl,VR.slice (o:=0) (ek _ _ _) C E,L,M,AS.push _ _ _⟩
   ·cases h1
  ·cases h1
 ·cases h1
def yZ(a:Act)(x:Option Operand)(d n:Nat):Prop:=(x=none/\n=d)∨∃y k,x=some y/\a.eval y= .int k n
theorem vW(c:R P μ h w)(b:cK μ e a.tmps){x:Option Operand}{d:Nat}(f:∀y,x=some y->aH P y=true)(hb:bnd h e d x=some n):yZ a x d n:=by
 cases x with
 |none=>cases hb;exact .inl ⟨rfl,rfl⟩
 |some y=>
  simp only[bnd]at hb;split at hb
  ·rename_i v hv;obtain⟨k,g⟩:=nO (bW c b (f y rfl) hv) hb;exact .inr ⟨y,k,rfl,g⟩
  ·cases hb
variable{cap:Nat}{hi lo:Option Operand}
theorem sk(f:Bool){len l u m:Nat}{mx:Option Operand}(n:mx.isSome=true->hi.isSome=true)(e:yZ a lo 0 l)(h:yZ a hi len u)(j:yZ a mx cap m)(h1:l<=u)(d:u<=m)(g:m<=cap):
 (Instr.sliceBounds f len cap (lo.map a.eval) (hi.map a.eval) (mx.map a.eval)).run P w= .ok (l,u,m) w:=by
 have b:∀(k:IntKind) (i y:Nat) (c:BoundsCode) (w:World),i<=y->(Instr.sliceBound (.int k i) y c).run P w= .ok i w:=λk i y c w hi=>by
  rw[run_sliceBound w k i y c (by omega) (by omega),wy]
 unfold Instr.sliceBounds;rcases j with⟨rfl,rfl⟩|⟨ym,km,rfl,em⟩
 ·rcases h with⟨rfl,rfl⟩|⟨yu,ku,rfl,eu⟩
  ·rcases e with⟨rfl,rfl⟩|⟨yl,kl,rfl,el⟩
   ·simp
   ·simp[el,b _ _ _ _ _ h1]
  ·rcases e with⟨rfl,rfl⟩|⟨yl,kl,rfl,el⟩
   ·simp[eu,b _ _ _ _ _ d]
   ·simp[eu,el,b _ _ _ _ _ d,b _ _ _ _ _ h1]
 ·rcases h with⟨rfl,rfl⟩|⟨yu,ku,rfl,eu⟩
  ·simp at n
  ·rcases e with⟨rfl,rfl⟩|⟨yl,kl,rfl,el⟩
   ·simp[em,eu,b _ _ _ _ _ d,b _ _ _ _ _ g]
   ·simp[em,eu,el,b _ _ _ _ _ d,b _ _ _ _ _ h1,b _ _ _ _ _ g]
theorem yc(f:R P μ h w)(I:cK μ e a.tmps){T:Option Addr}{len:Nat}{mx:Option Operand}{U:Value}(Q:VR μ (.slice T len cap) U)(K:∀y,lo=some y->aH P y=true)
 (J:∀y,hi=some y->aH P y=true)(L:∀y,mx=some y->aH P y=true)(h1:iM h e size T len cap lo hi mx=some (v,h')):
 ∃r' cap' l u m μ',U= .slice r' len cap'∧yZ a lo 0 l/\yZ a hi len u/\yZ a mx cap' m/\l<=u/\u<=m/\m<=cap'∧
  VR μ' v (.slice (if m=l then r' else r'.map (·.add (l*size))) (u-l) (m-l))/\R P μ' h' w/\St μ h w μ' h' w/\AS base h h':=by
 have S:=St.refl μ h w;have A:=AS.refl base h;unfold iM at h1;split at h1
 ·rename_i l u hl hu;have n:=vW f I K hl;have p:=vW f I J hu;split at h1
  ·rename_i mm;split at h1
   ·rename_i m hm;simp only[ble_eq,blt_eq,beq_eq,cond_eq_ite,ed,decide_eq_true_eq,dk]at h1
    ·obtain⟨⟨⟨⟨x,j⟩,t⟩,V⟩,h1⟩:=h1;cases h1;have g:∀d,yZ a (some mm) d m:=λd=>by
      rcases vW f I L hm with⟨q,_⟩|q
      ·cases q
      ·exact .inr q
     cases Q with
     |iT=>
      refine⟨none,cap,l,u,m,μ,rfl,n,p,g _,x,j,?_,?_,f,S,A⟩
      ·split at t
       ·rename_i hq;rw[hq];unfold UNK at V⊢;omega
       ·exact t
      ·simp;exact .iT _ _
     |kC s=>
      rename_i b o;have O:m=0:=by rw[if_neg (by unfold UNK;omega)]at t;omega
      subst O;obtain rfl:u=0:=by omega
      obtain rfl:l=0:=by omega
      refine⟨_,0,0,0,0,μ,rfl,n,p,g _,x,j,bl _,?_,f,S,A⟩;simp only[if_true];exact .kC s
     |slice hk q1 q2=>
      rename_i b o k;refine⟨_,cap,l,u,m,μ,rfl,n,p,g _,x,j,?_,?_,f,S,A⟩
      ·rw[if_neg (by omega)]at t;exact t
      ·by_cases hml:m=l
       ·simp only[hml,if_true];exact .slice hk (by unfold UNK;omega) (by omega)
       ·simp only[hml,if_false,xP,fG,te];exact .slice hk (by omega) (by omega)
     |eT hk q1 q2 q3=>
      rename_i b o c k;rw[if_pos rfl]at t;refine⟨_,c,l,u,m,μ,rfl,n,p,g _,x,j,by omega,?_,f,S,A⟩;by_cases hml:m=l
      ·simp only[hml,if_true];exact .slice hk (by unfold UNK;omega) (by omega)
      ·simp only[hml,if_false,xP,fG,te];exact .slice hk (by omega) (by omega)
   ·cases h1
  ·simp only[ble_eq,blt_eq,beq_eq,bX,cond_eq_ite,ed,oB,decide_eq_true_eq]at h1;split at h1
   ·rename_i hU;subst hU;split at h1
    ·rename_i b o;split at h1
     ·rename_i vs own sz hb;split at h1
      ·rename_i hc;obtain⟨⟨x,j⟩,t⟩:=hc;subst x;cases Q with
       |slice hk q1 q2=>exact absurd q1 (pp _)
       |eT hk q1 q2 q3=>
        rename_i c k;obtain⟨D,W,E,Y,z1,z2,z3,z4,z5⟩:=f.obj b _ hb k hk;have g:yZ a (none:Option Operand) c c:= .inl ⟨rfl,rfl⟩;have ar:u<=c:=by
         rcases t with t|t
         ·omega
         ·rw[←D]at t;exact Nat.le_of_mul_le_mul_right (show u*k.sz<=c*k.sz by omega) q2
        split at h1
        ·rename_i hlt;cases h1;refine⟨_,c,l,u,c,μ,rfl,n,p,g,j,by omega,bl _,?_,f,S,A⟩;simp only[if_neg (show¬c=l by omega),xP,fG,te];refine .eT hk ?_ q2 (by omega);have X:l*k.sz+(c-l)*k.sz=c*k.sz:=by rw[←Nat.add_mul];congr 1;omega
         rw[←D];omega
        ·rename_i hlt;have e2:u=l:=by omega
         split at h1
         ·rename_i h0;cases h1;refine⟨_,c,l,u,c,μ,rfl,n,p,g,j,by omega,bl _,?_,f,S,A⟩;have:l=0:=h0;subst this;rw[show u-0=0 by omega];by_cases hc0:c=0
          ·simp only[hc0,if_true];exact .eT hk (by rw[hc0]at q1;exact q1) q2 (bl _)
          ·simp only[hc0,if_false,xP,fG,vx,ww];exact .eT hk q1 q2 (md _)
         ·cases h1;have N:=(f.dom b k hk).2;have fin:∀z,z+(c-l)*k.sz=k.e∨(c=l/\z≤k.e)->∃μ',VR μ' (.slice (some ⟨h.next,0,none⟩) 0 UNK) (.slice (some ⟨k.r,z,none⟩) 0 (c-l))/\R P μ' (h.push (.cells [] false sz)) w∧
           St μ h w μ' (h.push (.cells [] false sz)) w:=λz M=>by
           have ae:z+(c-l)*k.sz<=k.e:=by
            rcases M with q|⟨q,q'⟩
            ·omega
            ·rw[q];simpa using q'
           obtain⟨Z,g2⟩:=f.Og (k:=⟨k.r,z,z+(c-l)*k.sz,sz⟩) (sz:=sz) N (λk' B=>by
            rw[ek]at B;cases B;exact⟨rfl,W,E,Y,z1,by simp,by simp only;omega,λi hi=>(Nat.not_lt_zero _ hi).elim,λh=>by cases h⟩)
           refine⟨_,VR.eT (o:=0) (ek _ _ _) (by simp[D]) (by rw[←D];exact q2) (md _),Z,g2⟩
          have C:u-l=0:=by omega
          by_cases hcl2:c=l
          ·obtain⟨μ',F,G,H⟩:=fin (k.d+o) (.inr ⟨hcl2,by omega⟩);exact⟨_,c,l,u,c,μ',rfl,n,p,g,j,by omega,bl _,by rw[if_pos hcl2,C];exact F,G,H,AS.push _ _ _⟩
          ·obtain⟨μ',F,G,H⟩:=fin (k.d+o+l*k.sz) (.inl (by
            have X:l*k.sz+(c-l)*k.sz=c*k.sz:=by rw[←Nat.add_mul];congr 1;omega
            omega))
           refine⟨_,c,l,u,c,μ',rfl,n,p,g,j,by omega,bl _,?_,G,H,AS.push _ _ _⟩;rw[if_neg hcl2,C,xP,fG,←D];exact F
      ·cases h1
     ·cases h1
    ·cases h1
   ·rename_i hU;split at h1
    ·rename_i hc;obtain⟨x,j⟩:=hc;cases h1;have g:yZ a (none:Option Operand) cap cap:= .inl ⟨rfl,rfl⟩;cases Q with
     |iT=>
      refine⟨none,cap,l,u,cap,μ,rfl,n,p,g,x,j,bl _,?_,f,S,A⟩;simp;exact .iT _ _
     |kC s=>
      rename_i b o;obtain rfl:u=0:=by omega
      obtain rfl:l=0:=by omega
      refine⟨_,0,0,0,0,μ,rfl,n,p,g,x,j,bl _,?_,f,S,A⟩;simp only[if_true];exact .kC s
     |slice hk q1 q2=>
      rename_i b o k;refine⟨_,cap,l,u,cap,μ,rfl,n,p,g,x,j,bl _,?_,f,S,A⟩;by_cases hml:cap=l
      ·simp only[hml,if_true];exact .slice hk (by unfold UNK;omega) (by omega)
      ·simp only[hml,if_false,xP,fG,te];exact .slice hk (by omega) (by omega)
     |eT=>exact absurd rfl hU
    ·cases h1
 ·cases h1
theorem Dp(c:R P μ h w)(d:cK μ e a.tmps)(j:P.underlying t=some .string)(n:aH P x=true)(i:∀y,lo=some y->aH P y=true)
 (f:∀y,hi=some y->aH P y=true)(h1:aop h base e (.slice .str x lo hi none)=some (.val v h')):
 Ran P μ h w base (((Instr.sliceAt t (a.eval x) (lo.map a.eval) (hi.map a.eval) none).run P w).andThen λv w=> .ok (.value v) w) v h':=by
 simp only[aop]at h1;split at h1
 ·rename_i s hs;split at h1
  ·rename_i l u hl hu;simp only[ble_eq,cond_eq_ite,ed,decide_eq_true_eq,dk]at h1;obtain⟨⟨k,m⟩,h1⟩:=h1;cases h1;have g:=bW c d n hs;generalize a.eval x=xv at*;cases g;have b:=sk (P:=P) (w:=w) (a:=a) (mx:=none) false (cap:=s.size) (by simp) (vW c d i hl) (vW c d f hu) (.inl ⟨rfl,rfl⟩) k m (bl _);refine .pure c ?_ (.string _);rw[run_sliceAt_string w t _ _ _ _ j];simp only[Instr.slice,ey,run_underlying j,b7,Option.isSome_none,rc,if_false,gR];rw[show(none:Option Value)=(none:Option Operand).map a.eval from rfl,b];simp
  ·cases h1
 ·cases h1
theorem gh{x:Option (Value×Heap)}(a:fH x=some (.val v h')):x=some (v,h'):=by
 cases x with
 |none=>cases a
 |some p=>cases a;rfl
theorem ES(n:R P μ h w)(k:cK μ e a.tmps){mx:Option Operand}(E:P.underlying t=some (.slice el))(F:dX P el=some size)(G:aH P x=true)
 (i:mx.isSome=true->hi.isSome=true)(d:∀y,lo=some y->aH P y=true)(c:∀y,hi=some y->aH P y=true)(f:∀y,mx=some y->aH P y=true)(h1:aop h base e (.slice (.sl size) x lo hi mx)=some (.val v h')):
 Ran P μ h w base (((Instr.sliceAt t (a.eval x) (lo.map a.eval) (hi.map a.eval) (mx.map a.eval)).run P w).andThen λv w=> .ok (.value v) w) v h':=by
 simp only[aop]at h1;split at h1
 ·rename_i a0 len cap hs;have g:=bW n k G hs;obtain⟨H,j,l,u,m,μ',A,o,q,p,r,s,z,gv,C,D,B⟩:=yc (base:=base) n k g d c f (gh h1);refine⟨μ',_,w, .inl ?_,gv,C,D,B⟩;have b:=sk (P:=P) (w:=w) (len:=len) true i o q p r s z;simp only[Instr.sliceAt,ey,run_underlying E,b7,Instr.slice,A,b,run_sizeOf F,gR]
 ·cases h1
theorem uV(B:R P μ h w)(A:cK μ e a.tmps){mx:Option Operand}
 (c:P.underlying t=some (.array n el)∨∃p,P.underlying t=some (.pointer p)/\P.underlying p=some (.array n el))(N:n<UNK)(C:dX P el=some size)(O:aH P x=true)
 (q:mx.isSome=true->hi.isSome=true)(i:∀y,lo=some y->aH P y=true)(f:∀y,hi=some y->aH P y=true)(j:∀y,mx=some y->aH P y=true)(h1:aop h base e (.slice (.arr n size) x lo hi mx)=some (.val v h')):
 Ran P μ h w base (((Instr.sliceAt t (a.eval x) (lo.map a.eval) (hi.map a.eval) (mx.map a.eval)).run P w).andThen λv w=> .ok (.value v) w) v h':=by
 simp only[aop]at h1;split at h1
 ·rename_i a0 hs;have g:=bW B A O hs;generalize hxv:a.eval x=xv at*;cases g with
  |ptr hk=>
   rename_i bb o k;have gs:VR μ (.slice (some ⟨bb,o,none⟩) n n) (.slice (some ⟨k.r,k.d+o,none⟩) n n):= .slice hk N (bl _);obtain⟨Q,s,l,u,m,μ',J,D,F,E,G,H,I,gv,L,M,K⟩:=yc (base:=base) B A gs i f j (gh h1);cases J;refine⟨μ',_,w, .inl ?_,gv,L,M,K⟩;have b:=sk (P:=P) (w:=w) (len:=n) false q D F E G H I;have z:(some (if m=l then(⟨k.r,k.d+o,none⟩:Addr)else Addr.add ⟨k.r,k.d+o,none⟩ (l*size)))=if m=l then some (⟨k.r,k.d+o,none⟩:Addr)else(some (⟨k.r,k.d+o,none⟩:Addr)).map (·.add (l*size)):=by
    split<;>rfl
   rcases c with c|⟨p,c,hp⟩
   ·simp only[Instr.sliceAt,ey,run_underlying c,b7,Instr.sureAddr,b,run_sizeOf C,gR,z]
   ·simp only[Instr.sliceAt,ey,run_underlying c,run_underlying hp,b7,Instr.slice,asAddr,b,run_sizeOf C,gR,z]
 ·cases h1
theorem EK(f:R P μ h w)(i:cK μ e a.tmps){k:IntKind}(l:P.underlying s=some d)(j:P.underlying t=some (.int k))(m:aH P x=true)
 (h1:aop h base e (.conv (.int k) x)=some (.val v h')):Ran P μ h w base (((convert s t (a.eval x)).run P w).andThen λv w=> .ok (.value v) w) v h':=by
 obtain⟨n,c,b⟩:=aA h1;have b:=gh b;have g:=bW f i m c;unfold qZ at b;split at b
 ·rename_i heq _;cases heq;cases b;generalize a.eval x=xv' at*;cases g;refine .pure f ?_ (.int _ _);simp[convert,run_underlying l,run_underlying j,Conv.intToInt,tJ]
 all_goals first|(rename_i heq _;cases heq)|cases b
theorem Dl(d:R P μ h w)(f:cK μ e a.tmps)(j:P.underlying s=some .string)(i:P.underlying t=some .string)(k:aH P x=true)
 (h1:aop h base e (.conv .same x)=some (.val v h')):Ran P μ h w base (((convert s t (a.eval x)).run P w).andThen λv w=> .ok (.value v) w) v h':=by
 obtain⟨l,c,b⟩:=aA h1;have b:=gh b;have g:=bW d f k c;unfold qZ at b;split at b
 ·rename_i heq _;cases heq
 ·cases b;generalize a.eval x=xv' at*;cases g;refine .pure d ?_ (.string _);simp[convert,run_underlying j,run_underlying i]
 all_goals first|(rename_i heq _;cases heq)|cases b
theorem vY:∀{l:List Value} {bs:List UInt8} {a:List Value},bytesOf l=some bs->LR μ l a→∃ns:List Int,a=ns.map (Value.int .u8)/\∀s:ByteArray,ns.foldl (λr n=>r.push (UInt8.ofNat n.toNat)) s=s++⟨bs.toArray⟩
 |[],bs,a,hb,hl=>by
  cases hb;cases hl;exact⟨[],rfl,λs=>by apply ByteArray.ext;simp⟩
 |x::l,bs,a,hb,hl=>by
  cases hl with
  |cons h1 h2=>
   unfold bytesOf at hb;split at hb
   ·rename_i heq;cases heq
   ·rename_i n l0 heq;cases heq;split at hb
    ·rename_i bs' hbs;cases hb;cases h1;obtain⟨ns,rfl,h4⟩:=vY hbs h2;refine⟨(n:Int)::ns,rfl,λs=> ?_⟩;rw[List.foldl_cons,h4];apply ByteArray.ext;simp
    ·cases hb
   ·cases hb
theorem u6(t:R P μ h w){x:Value}(i:VR μ x x')(a:dn h size x=some (l,n)):
 (∃cap,x'= .slice none 0 cap∧l=[]∧n=0)∨(∃r o cap c,x'= .slice (some ⟨r,o,none⟩) n cap∧c.length=n*size∧LR μ l c∧∀j,j<c.length→w.cell? ⟨r,o+j,none⟩=some (gv c j))∨
   (∃s,x'= .string s/\size=1/\n=s.size/\l=s.data.toList.map λb=> .int .u8 b.toNat)∨(∃ad,x'= .slice (some ad) 0 0/\l=[]/\n=0):=by
 unfold dn at a;split at a
 ·simp only[beq_eq,cond_eq_ite,decide_eq_true_eq,dk]at a;obtain⟨e,a⟩:=a;subst e;cases a;cases i;exact .inl ⟨_,rfl,rfl,rfl⟩
 ·rename_i b o len cap;split at a
  ·rename_i vs own sz hb;simp only[bX,bQ,aW,beq_eq,cond_eq_ite,decide_eq_true_eq,dk]at a;obtain⟨v,a⟩:=a;cases a;right;left;have g:∀k,μ b=some k->∃c,c.length=n*size/\LR μ ((vs.drop o).take (n*size)) c∧∀j,j<c.length->w.cell? ⟨k.r,k.d+o+j,none⟩=some (gv c j):=λk f=>by
    by_cases h0:n*size=0
    ·exact⟨[],h0.symm,by rw[h0];simp;exact .nil,λj u=>by simp at u⟩
    ·exact OR.row (t.obj b _ hb) f (by simp at v;omega)
   cases i with
   |slice f _ _=>
    obtain⟨c,m,p,q⟩:=g _ f;exact⟨_,_,_,c,rfl,m,p,q⟩
   |eT f _ _ _=>
    obtain⟨c,m,p,q⟩:=g _ f;exact⟨_,_,_,c,rfl,m,p,q⟩
  ·cases a
 ·simp only[beq_eq,cond_eq_ite,decide_eq_true_eq,dk]at a;obtain⟨e,a⟩:=a;subst e;cases a;cases i with
  |kC s=>exact .inr (.inr (.inr ⟨_,rfl,rfl,rfl⟩))
 ·simp only[beq_eq,cond_eq_ite,decide_eq_true_eq,dk]at a;obtain⟨e,a⟩:=a;cases a;cases i;exact .inr (.inr (.inl ⟨_,rfl,e,rfl,rfl⟩))
 ·cases a
theorem Bb(d:R P μ h w)(m:cK μ e a.tmps)(i:P.underlying s=some (.slice el))(c:P.underlying el=some (.int .u8))(f:P.underlying t=some .string)(p:aH P x=true)
 (h1:aop h base e (.conv .toStr x)=some (.val v h')):Ran P μ h w base (((convert s t (a.eval x)).run P w).andThen λv w=> .ok (.value v) w) v h':=by
 obtain⟨y,j,b⟩:=aA h1;have b:=gh b;have g:=bW d m p j;unfold qZ at b;split at b
 ·rename_i heq _;cases heq
 ·rename_i heq _;cases heq
 ·split at b
  ·rename_i l n hsrc;split at b
   ·rename_i bs hbs;cases b;generalize a.eval x=xv' at*;rcases u6 d g hsrc with⟨cap,rfl,rfl,rfl⟩|⟨r,o,cap,l',rfl,g1,g2,g3⟩|⟨s,rfl,_,_,_⟩|⟨ad,rfl,rfl,rfl⟩
    ·cases hbs;refine .pure d ?_ (.string _);simp[convert,run_underlying i,run_underlying f,run_underlying c,Conv.bytesToString];rfl
    ·obtain⟨u,rfl,q⟩:=vY hbs g2;refine .pure d ?_ (.string _);have k:=run_loadCells (P:=P) g3;rw[g1,rt]at k;have:=run_bytesToString w ⟨r,o,none⟩ n cap u k;rw[q]at this;simp only[convert,ey,run_underlying i,run_underlying f,run_underlying c,b7,this];simp
    ·cases g
    ·cases hbs;refine .pure d ?_ (.string _);simp[convert,run_underlying i,run_underlying f,run_underlying c,Conv.bytesToString,loadCells,loadCellsFrom];rfl
   ·cases b
  ·cases b
 all_goals first|(rename_i heq _;cases heq)|cases b
theorem grownCap_ge(w:World)(a old:Nat)(e:TypeId):a<=grownCap w a old e:=by
 have:grownCap w a old e=a+w.tape w.drawn (.appendCap a old e) % (2 ^ 63-a):=rfl;omega
theorem xg(p:R P μ h w)(q:cK μ e a.tmps)(u:P.underlying s=some .string)(r:P.underlying t=some (.slice el))(m:P.underlying el=some (.int .u8))(z:aH P x=true)
 (h1:aop h base e (.conv .toBytes x)=some (.val v h')):Ran P μ h w base (((convert s t (a.eval x)).run P w).andThen λv w=> .ok (.value v) w) v h':=by
 obtain⟨D,n,i⟩:=aA h1;have i:=gh i;have g:=bW p q z n;unfold qZ at i;split at i
 ·rename_i heq _;cases heq
 ·rename_i heq _;cases heq
 ·rename_i heq _;cases heq
 ·rename_i str _ _;cases i;generalize a.eval x=xv' at*;cases g;have d:=run_bytes_of_string w s t el str u r m;have f:str.size<=grownCap w str.size 0 el:=grownCap_ge _ _ _ _;generalize grownCap w str.size 0 el=cap at d f;have k:(bytesRow str cap).size=cap:=by simp[bytesRow];have:str.data.size=str.size:=rfl;omega
  obtain⟨A,B⟩:=p.wY (el:=el) (c:=bytesRow str cap) (own:=true) (sz:=1) (l:=str.data.toList.map λb=> .int .u8 b.toNat) (fz:=((bytesRow str cap).size,(bytesRow str cap).size+1))
   (w':=w.drew.alloc (.cells (bytesRow str cap) el ((bytesRow str cap).size,(bytesRow str cap).size+1))) rfl (λj C=>by simp only;omega)
   (by
     have:(bytesRow str cap).toList.take (str.data.toList.map λb=>Value.int .u8 (b.toNat:Int)).length=str.data.toList.map λb=>Value.int .u8 (b.toNat:Int):=by
      simp[bytesRow]
     rw[this];exact(LR.cZ (by
      generalize str.data.toList=l;induction l with
      |nil=>rfl
      |cons y l ih=>simpa[cZ,mL,jY]using ih)).1) (by rw[k];simpa using f)
  refine⟨_, .slice (some ⟨w.heap.size,0,none⟩) str.size cap,_, .inl (by rw[d];rfl),VR.eT (o:=0) (ek _ _ _) (by simp[k]) (by simp) f,A,B,AS.push _ _ _⟩
 all_goals first|(rename_i heq _;cases heq)|cases i
def TR(P:Program)(em:Bool)(n:Nat)(t:TypeId)(ls:List dZ):Prop:=
 (((isAgg t).run P=λw=> .ok true w)/\∀(w:World) (cs:Array Value),cs.toList.length=ls.length->(Instr.checkKey em n t (.agg cs)).run P w= .ok () w)∨
 (((isAgg t).run P=λw=> .ok false w)/\ls.length=1/\∀(w:World) (v:Value),(Instr.checkKey em n t v).run P w= .ok () w)
theorem CY{c:Bool}{b:List dZ}{cs:Array Value}(d:dX P t=some b.length)(a:TR P c n t b)(e:off+b.length<=cs.size)(w:World):
 ∃x,(part t cs off).run P w= .ok x w/\(Instr.checkKey c n t x).run P w= .ok () w:=by
 rcases a with⟨hag,a⟩|⟨hag,h1,a⟩
 ·refine⟨.agg (cs.extract off (off+b.length)),?_,a w _ (by simp;omega)⟩;simp[part,hag,run_sizeOf d]
 ·refine⟨cs[off]'(by omega),?_,a w _⟩;simp[part,hag,show off<cs.size by omega]
theorem pN(z:Bool):∀(d:Nat) (t:TypeId) (o:List dZ),dN P d t=some o->∀n,TR P z (d+n) t o
 |0,_,_,h,_=>by simp[dN]at h
 |d+1,t,o,h,n=>by
  have hdn:d+1+n=(d+n)+1:=by omega
  rw[hdn];unfold dN at h;have q:∀u b,P.underlying t=some u->(match u with| .struct _| .array _ _=>true|_=>false)=b->(isAgg t).run P=λw=> .ok b w:=by
   intro u b g F;funext w;simp only[isAgg,ey,run_underlying g,b7];cases u<;>cases F<;>rfl
  split at h
  ·rename_i g;cases h;exact .inr ⟨q _ _ g rfl,rfl,λw v=>by simp[Instr.checkKey,run_underlying g]⟩
  ·rename_i k g;cases h;exact .inr ⟨q _ _ g rfl,rfl,λw v=>by simp[Instr.checkKey,run_underlying g]⟩
  ·rename_i g;cases h;exact .inr ⟨q _ _ g rfl,rfl,λw v=>by simp[Instr.checkKey,run_underlying g]⟩
  ·rename_i k el g;split at h
   ·rename_i l s h1 h2;split at h
    ·rename_i hls;cases h;refine .inl ⟨q _ _ g rfl,λw p A=> ?_⟩;have E:=pN z d el l h1 n;rw[kZ]at A;rw[Instr.checkKey];simp only[ey,run_underlying g,b7];simp only[Std.Legacy.Range.forIn_eq_forIn_range',Std.Legacy.Range.size,Nat.sub_zero,Nat.add_one_sub_one,Nat.div_one];have c:∀j∈List.range' 0 k,j<k:=λj B=>by simp[List.mem_range'_1]at B;omega
     generalize List.range' 0 k=is at c;induction is with
     |nil=>simp
     |cons j is ih=>
      have B:=c j (by simp);have G:j*l.length+l.length<=k*l.length:=by rw[←Nat.succ_mul];exact wx _ B
      obtain⟨x,C,D⟩:=CY (off:=j*s) (cs:=p) (by rw[h2,hls]) E (by simp at A;rw[←hls];omega) w;simp only[List.forIn_cons,ey,run_sizeOf h2,b7,C,D,gR];exact ih (λy J=>c y (by simp[J]))
    ·cases h
   ·cases h
  ·rename_i fs g;split at h
   ·cases h
   ·refine .inl ⟨q _ _ g rfl,λw p A=> ?_⟩;rw[Instr.checkKey];simp only[ey,run_underlying g,b7];rw[←Array.forIn_toList]
    have c:∀(L:List Field) (a:Nat) (o:List dZ),goL P (dN P d) a L=some o->a+o.length<=p.size→
     (forIn L PUnit.unit fun f _=>(if f.name≠ "_" then do Instr.checkKey z (d+n) f.type (←part f.type p f.offset);pure (ForInStep.yield PUnit.unit)else do pure (ForInStep.yield PUnit.unit):Sem (ForInStep PUnit))).run P w= .ok () w:=by
     intro L;induction L with
     |nil=>intro a o _ _;simp
     |cons f L ih=>
      intro a o i I;simp only[goL]at i;split at i
      ·cases i
      ·rename_i hne;have H:f.name≠ "_" :=fun e=>hne (.inl e)
       have r:f.offset=a:=Classical.byContradiction λe=>hne (.inr e);split at i
       ·rename_i l s h1 h2;split at i
        ·rename_i hls;split at i
         ·rename_i m hm;cases i;rw[dI,ec]at I;obtain⟨x,C,D⟩:=CY (off:=a) (cs:=p) (by rw[h2,hls]) (pN z d f.type l h1 n) (by omega) w;simp only[List.forIn_cons,ey,H,ne_eq,not_false_eq_true,if_true,r,b7,C,D,gR];exact ih (a+s) m hm (by omega)
         ·cases i
        ·cases i
       ·cases i
    have:=c fs.toList 0 o h (by simp at A;omega);simp at this⊢;rw[this];rfl
  ·cases h
variable{k:Value}
theorem jg{c:Bool}{d:List dZ}(a:jr c d k=true):rM k=c/\∃b,bF d (cellsOf k) (cellsOf k)=some b:=by
 unfold jr at a;split at a
 ·rename_i h1 h2;exact⟨by simpa using h1,_,h2⟩
 ·cases a
variable{k':Value}
theorem ta{c:Bool}{d:List dZ}{b:Bool}(a:oS c d k k'=some b):rM k'=c/\bF d (cellsOf k) (cellsOf k')=some b:=by
 unfold oS at a;split at a
 ·rename_i h1;exact⟨by simpa using h1,a⟩
 ·cases a
theorem nK(a:∀μ xs',LR μ (cellsOf k) xs'→xs'=cellsOf k)(b:VR μ k v'):v'=k:=by
 cases hk':rM k with
 |true=>
  cases k<;>cases hk'
  obtain⟨e,rfl,d⟩:=b.qq;rw[eD (a μ _ d)]
 |false=>
  have c:cellsOf k=[k]:=by cases k<;>first|rfl|cases hk'
  rw[c]at a;have:=a μ [v'] (.cons b .nil);simpa using this
theorem uQ{d:Nat}{b:List dZ}(a:dN P d t=some b)(w:World):(isAgg t).run P w= .ok (fm P t) w:=by
 cases d with
 |zero=>simp[dN]at a
 |succ d=>
  unfold dN at a;cases hd:P.underlying t with
  |none=>simp[hd]at a
  |some de=>
   simp only[isAgg,ey,run_underlying hd,b7,fm,hd];cases de<;>simp
theorem zY{f:List dZ}(g:dN P 100 t=some f){b:Bool}(m:jr (fm P t) f k=true)(j:oS (fm P t) f k k'=some b)(w:World):
 (Op.equal t k k').run P w= .ok b w:=by
 obtain⟨d,_⟩:=jg m;obtain⟨e,c⟩:=ta j;show(Op.equalIn 10000 t k k').run P w= .ok b w;have a:=uQ (P:=P) g w;rcases oy 100 t f g 9900 with⟨g1,g2⟩|⟨g1,l,rfl,g2⟩
 ·rw[g1]at a;have:fm P t=true:=by injection a with q;exact q.symm
  rw[this]at d e;cases k<;>cases d
  cases k'<;>cases e
  exact g2 w _ _ b c
 ·rw[g1]at a;have:fm P t=false:=by injection a with q;exact q.symm
  rw[this]at d e;have h:cellsOf k=[k]:=by cases k<;>first|rfl|cases d
  have i:cellsOf k'=[k']:=by cases k'<;>first|rfl|cases e
  rw[h,i]at c;refine g2 w k k' b ?_;simp only[bF]at c;split at c
  ·rename_i q;cases c;exact q
  ·rename_i q;cases c;exact q
  ·cases c
theorem mU{c:List dZ}(f:dN P 100 t=some c)(h:jr (fm P t) c k=true)(d:Bool)(w:World):(Instr.checkKey d 10000 t k).run P w= .ok () w:=by
 obtain⟨e,b,g⟩:=jg h;have a:=uQ (P:=P) f w;rcases pN d 100 t c f 9900 with⟨g1,g2⟩|⟨_,_,g2⟩
 ·rw[g1]at a;have:fm P t=true:=by injection a with q;exact q.symm
  rw[this]at e;cases k<;>cases e
  exact g2 w _ (jl g).1
 ·exact g2 w k
theorem C9{l:dZ}{x y:Value}(h:iG l x y=some true):x=y:=by
 generalize hb:true=b at h;cases gT h with
 |b a c=>simp at hb;rw[hb]
 |i k a c=>simp at hb;rw[hb]
 |s a c=>
  have:a.toList=c.toList:=by simpa using hb
  rw[ByteArray.toList_eq,ByteArray.toList_eq]at this;have d:a=c:=by
   obtain⟨⟨x⟩⟩:=a;obtain⟨⟨y⟩⟩:=c;simp at this;rw[this]
  rw[d]
theorem ri:∀{b:List dZ} {xs a:List Value},bF b xs a=some true->xs=a
 |[],[],[],_=>rfl
 |[],_::_,_,h=>by cases h
 |[],[],_::_,h=>by cases h
 |_::_,[],_,h=>by cases h
 |_::_,_::_,[],h=>by cases h
 |l::b,x::xs,y::a,h=>by
  simp only[bF]at h;split at h
  ·rename_i h1;rw[C9 h1,ri h]
  ·split at h<;>cases h
  ·cases h
theorem wM{a:Bool}{d:List dZ}(i:jr a d k=true)(h:oS a d k k'=some true):k=k':=by
 obtain⟨b,_⟩:=jg i;obtain⟨c,g⟩:=ta h;have:=ri g;cases a with
 |true=>
  cases k<;>cases b
  cases k'<;>cases c
  rw[eD this]
 |false=>
  have e:cellsOf k=[k]:=by cases k<;>first|rfl|cases b
  have f:cellsOf k'=[k']:=by cases k'<;>first|rfl|cases c
  rw[e,f]at this;simpa using this
theorem sameBits_self{d:List dZ}:∀{xs:List Value} {b:Bool},bF d xs xs=some b->∀n,(xs.zip xs).all (λ(x,y)=>Instr.sameBits n x y)=true:=by
 induction d with
 |nil=>intro xs b h n;cases xs with
  |nil=>rfl
  |cons=>cases h
 |cons l d ih=>
  intro xs b h n;cases xs with
  |nil=>cases h
  |cons x xs=>
   have:∃c q,iG l x x=some c/\bF d xs xs=some q:=by
    simp only[bF]at h;split at h
    ·rename_i a;exact⟨_,_,a,h⟩
    ·rename_i a;split at h
     ·rename_i q hq;exact⟨_,_,a,hq⟩
     ·cases h
    ·cases h
   obtain⟨c,q,a,e⟩:=this;have g:=ih e n;simp only[List.zip_cons_cons,G5,ed];refine⟨?_,g⟩;clear g h;cases x<;>cases l<;>simp[iG]at a<;>cases n<;>simp[Instr.sameBits,beq_toListBytes]
theorem KG{d:Bool}{f:List dZ}(e:jr d f k=true):Instr.sameBits 10000 k k=true:=by
 obtain⟨g,b,a⟩:=jg e;cases k with
 |agg c=>
  have:=sameBits_self a 9999;simp only[cellsOf]at this;simp only[Instr.sameBits,beq_self_eq_true,rn];exact this
 |_=>
  have:=sameBits_self a 10000;simp only[cellsOf,List.zip_cons_cons,List.zip_nil_left,G5,List.all_nil,xf]at this;exact this
theorem ya{g:List dZ}(a:dN P 100 t=some g)(f:P.underlying t=some d){b:Bool}(r:jr (fm P t) g k=true)(o:oS (fm P t) g k k'=some b):
 Instr.sameNow d k k'=none∨Instr.sameNow d k k'=some b:=by
 obtain⟨h,_⟩:=jg r;obtain⟨i,e⟩:=ta o;have c:∀l,g=[l]->fm P t=false->iG l k k'=some b:=λl a p=>by
  rw[p]at h i;have j:cellsOf k=[k]:=by cases k<;>first|rfl|cases h
  have m:cellsOf k'=[k']:=by cases k'<;>first|rfl|cases i
  rw[j,m,a]at e;simp only[bF]at e;split at e
  ·rename_i q;cases e;exact q
  ·rename_i q;cases e;exact q
  ·cases e
 unfold dN at a;rw[f]at a;cases d with
 |bool=>
  cases a;have:=gT (c _ rfl (by simp[fm,f]));cases this;exact .inr rfl
 |int q=>
  cases a;have:=gT (c _ rfl (by simp[fm,f]));cases this;exact .inr (by simp[Instr.sameNow])
 |string=>
  cases a;have:=gT (c _ rfl (by simp[fm,f]));cases this;exact .inr (by simp[Instr.sameNow,beq_toListBytes])
 |array n el=>left;cases k<;>rfl
 |struct fs=>left;cases k<;>rfl
 |_=>cases a
def FR(μ:Mu)(k:Value)(es:List (Value×Value))(ms:List MapEntry)(i:Nat):Option (Nat×Value)->Option (Nat×Value)->Prop
 |none,r=>r=none
 |some (j,v),r=>∃m,r=some (j,m.val)/\i<=j/\es[j-i]? =some (k,v)/\ms[j-i]? =some m/\VR μ v m.val/\m.key=k
theorem CF{t:TypeId}{d:TypeDesc}{h:List dZ}(f:dN P 100 t=some h)(l:P.underlying t=some d){k:Value}(c:jr (fm P t) h k=true)(w:World):
 ∀{es:List (Value×Value)} {ms:List MapEntry},MR μ es ms->∀(i:Nat) (r:Option (Nat×Value)),mu (fm P t) h k i es=some r→
 ∃g,FR μ k es ms i r g∧(Instr.findNow d k ms i=none∨Instr.findNow d k ms i=some g)/\(Instr.findAsking t k ms i).run P w= .ok g w
 |_,_, .nil,i,r,hf=>by
  cases hf;exact⟨none,rfl, .inr rfl,by simp[Instr.findAsking]⟩
 |_,_, .cons (k:=k0) (v:=v0) (es:=es) (m:=m) (ms:=ms) h1 h2 h3,i,r,hf=>by
  simp only[mu]at hf;have hkey:∀b,oS (fm P t) h k k0=some b->m.key=k0:=λb a=>nK (fC (ta a).2).2 h1;split at hf
  ·rename_i a;cases hf;have e:=hkey _ a;refine⟨some (i,m.val),⟨m,rfl,bl _,?_,by simp,h2,?_⟩,?_,?_⟩
   ·have:=wM c a;simp[this]
   ·rw[e];exact(wM c a).symm
   ·simp only[Instr.findNow,e];rcases ya f l c a with q|q<;>simp[q]
   ·simp only[Instr.findAsking,e,ey,zY f c a,b7,if_true,gR]
  ·rename_i a;have e:=hkey _ a;obtain⟨g,n,o,s⟩:=CF f l c w h3 (i+1) r hf;refine⟨g,?_,?_,?_⟩
   ·cases r with
    |none=>exact n
    |some p=>
     obtain⟨j,v⟩:=p;obtain⟨u,x,A,B,C,y,z⟩:=n;refine⟨u,x,by omega,?_,?_,y,z⟩<;>rw[show j-i=(j-(i+1))+1 by omega]<;>simpa
   ·simp only[Instr.findNow,e];rcases ya f l c a with q|q
    ·simp[q]
    ·simp only[q];exact o
   ·simp only[Instr.findAsking,e,ey,zY f c a,b7];simpa using s
  ·cases hf
theorem fN{e:List dZ}(b:dN P 100 t=some e)(j:jr (fm P t) e k=true)(w:World)(l:MR μ es ms){r:Option (Nat×Value)}
 (i:mu (fm P t) e k 0 es=some r):∃c,FR μ k es ms 0 r c∧(Instr.findKey t k ms).run P w= .ok c w:=by
 have a:∃d,P.underlying t=some d:=by
  cases a:P.underlying t with
  |none=>unfold dN at b;rw[a]at b;cases b
  |some d=>exact⟨d,rfl⟩
 obtain⟨d,a⟩:=a;obtain⟨c,f,g,h⟩:=CF b a j w l 0 r i;refine⟨c,f,?_⟩;simp only[Instr.findKey,ey,run_underlying a,b7];rcases g with q|q
 ·rw[q];exact h
 ·rw[q];simp
theorem qU.set{l:List MapEntry}{cl:Nat}(b:qU l cl){j:Nat}{m a:MapEntry}(c:l[j]? =some m)(d:a.born=m.born):qU (l.set j a) cl:=by
 have e:(l.set j a).map (·.born)=l.map (·.born):=by
  apply u3;intro i;rw[rb,rb,zc];by_cases h:j=i
  ·subst h;have:=(List.getElem?_eq_some_iff.1 c).1;rw[if_pos rfl,if_pos this,c];simp[d]
  ·rw[if_neg h]
 unfold qU;rw[e];exact b
variable{cl:Nat}
theorem qU.push{l:List MapEntry}(b:qU l cl)(m:MapEntry)(a:m.born=cl):qU (l++[m]) (cl+1):=by
 unfold qU;rw[tk,pD,List.map_nil,a];refine⟨List.nodup_append.2 ⟨b.1,by simp,λx d y e=> ?_⟩,λn c=> ?_⟩
 ·rw[List.mem_singleton.1 e];exact Nat.ne_of_lt (b.2 x d)
 ·rcases List.mem_append.1 c with q|q
  ·exact tb (b.2 n q)
  ·rw[List.mem_singleton.1 q];exact go _
theorem qU.del{l:List MapEntry}(b:qU l cl)(j:Nat):qU (l.eraseIdx j) cl:=by
 have s:((l.eraseIdx j).map (·.born)).Sublist (l.map (·.born)):=(List.eraseIdx_sublist l j).map _;exact⟨s.nodup b.1,λn a=>b.2 n (s.subset a)⟩
theorem R.tK(g:R P μ h w){k:Blk}(hb:h.get r=some (.map es))(d:μ r=some k){es':List (Value×Value)}{ms':Array MapEntry}(n:MR μ es' ms'.toList)(m:qU ms'.toList cl):
 ∃w',(setObj k.r (.map ms' cl)).run P w= .ok () w'∧R P μ (h.wr base r (.map es')) w'∧St μ h w μ (h.wr base r (.map es')) w':=by
 obtain⟨l,e,f,q,_⟩:=g.obj r _ hb k d;have i:k.r<w.heap.size:=(g.dom r k d).2;refine⟨{w with heap:=w.heap.setIfInBounds k.r (.map ms' cl)},by simp[setObj,Sem.run,f],?_⟩;refine g.write hb rfl rfl d (by simp) (λt j=>by simp[gy,Ne.symm j]) (vL.LO (λc o p a=>by rw[f]at a;cases a) (λL a=>by rw[f]at a;cases a)) ?_;intro s b;rw[d]at b;cases b;exact⟨ms',cl,by simp[gy,i],n,m⟩
theorem MR.set(b:MR μ es ms){m:MapEntry}(a:VR μ k m.key)(c:VR μ v m.val):∀i,MR μ (es.set i (k,v)) (ms.set i m):=by
 induction b with
 |nil=>intro i;simp;exact .nil
 |cons h1 h2 h3 ih=>
  intro i;cases i with
  |zero=>simp;exact .cons a c h3
  |succ i=>simp;exact .cons h1 h2 (ih i)
theorem MR.push(b:MR μ es ms){m:MapEntry}(a:VR μ k m.key)(c:VR μ v m.val):MR μ (es++[(k,v)]) (ms++[m]):=by
 induction b with
 |nil=>exact .cons a c .nil
 |cons h1 h2 _ ih=>exact .cons h1 h2 ih
theorem MR.del(a:MR μ es ms):∀i,MR μ (CZ es i) (ms.eraseIdx i):=by
 induction a with
 |nil=>intro i;simp[CZ];exact .nil
 |cons h1 h2 h3 ih=>
  intro i;cases i with
  |zero=>simpa[CZ]using h3
  |succ i=>simp[CZ];exact .cons h1 h2 (ih i)
variable{A:TypeId}{m:Operand}
theorem Ih(d:R P μ h w)(o:cK μ e a.tmps){I:List dZ}{ok:Bool}{k:Operand}(u:P.underlying t=some (.map A el))(g:dN P 100 A=some I)(H:iz P el=some z)(y:flat z=true)
 (F:aH P m=true)(E:aH P k=true)(h1:aop h base e (.lookup (fm P A) I z ok m k)=some (.val v h')):
 Ran P μ h w base (((Instr.lookup t (a.eval m) (a.eval k) ok).run P w).andThen λv w=> .ok (.value v) w) v h':=by
 have f:∀{x x':Value} (b:Bool),VR μ x x'→VR μ (bif ok then .tuple #[x, .bool b]else x) (if ok=true then .tuple #[x', .bool b]else x'):=λb G=>by
  cases ok
  ·exact G
  ·exact VR.lI (.cons G (.cons (.bool b) .nil))
 have i:VR μ z z:=(VR.flat y).1;simp only[aop]at h1;split at h1
 ·rename_i kv hmv hkv;simp only[cond_eq_ite,dk]at h1;obtain⟨c,h1⟩:=h1;cases h1;have s:=bW d o F hmv;have q:=bW d o E hkv;generalize a.eval m=mv' at*;generalize a.eval k=kv' at*;cases s;have:=nK (fC (jg c).2.choose_spec).1 q;subst this;refine .pure d ?_ (by have:=f (x:=z) (x':=z) false i;rwa [cond_eq_ite]at this);obtain⟨J,l,n⟩:=fN (P:=P) (μ:=μ) g c w (es:=[]) (ms:=[]) .nil (r:=none) rfl;cases l;simp only[Instr.lookup,ey,run_underlying u,b7,gR,mU g c,n,dS H]
 ·rename_i r kv hmv hkv;split at h1
  ·rename_i es he;simp only[cond_eq_ite,dk]at h1;obtain⟨c,h1⟩:=h1;have s:=bW d o F hmv;have q:=bW d o E hkv;generalize a.eval m=mv' at*;generalize a.eval k=kv' at*;cases s with
   |map hkr=>
    have:=nK (fC (jg c).2.choose_spec).1 q;subst this;obtain⟨D,p,l,n,L⟩:=d.rT he hkr;split at h1
    ·rename_i j v0 hf;cases h1;obtain⟨J,B,C⟩:=fN (P:=P) g c w n hf;obtain⟨M,rfl,_,_,_,K,_⟩:=B;refine .pure d ?_ (by have:=f true K;rwa [cond_eq_ite]at this);simp only[Instr.lookup,ey,run_underlying u,fO l (by simp),b7,gR,mU g c,C]
    ·rename_i hf;cases h1;obtain⟨J,B,C⟩:=fN (P:=P) g c w n hf;cases B;refine .pure d ?_ (by have:=f (x:=z) (x':=z) false i;rwa [cond_eq_ite]at this);simp only[Instr.lookup,ey,run_underlying u,fO l (by simp),b7,gR,mU g c,C,dS H]
    ·cases h1
  ·cases h1
 ·cases h1
theorem LW(l:R P μ h w)(y:cK μ e a.tmps){L:List dZ}{k:Operand}(K:P.underlying t=some (.map A el))(p:dN P 100 A=some L)
 (O:aH P m=true)(N:aH P k=true)(Q:aH P x=true)(h1:aop h base e (.mE (fm P A) L m k x)=some (.val v h')):
 Ran P μ h w base (((Instr.mapUpdate t (a.eval m) (a.eval k) (a.eval x)).run P w).andThen λ_ w=> .ok .skip w) v h':=by
 simp only[aop]at h1;split at h1
 ·rename_i r kv xv hmv hkv hxv;split at h1
  ·rename_i es he;simp only[cond_eq_ite,dk]at h1;obtain⟨d,h1⟩:=h1;have M:=bW l y O hmv;have u:=bW l y N hkv;have J:=bW l y Q hxv;generalize a.eval m=mv' at*;generalize a.eval k=kv' at*;generalize a.eval x=xv' at*;cases M with
   |map hkr=>
    rename_i kk;have:=nK (fC (jg d).2.choose_spec).1 u;subst this;obtain⟨b,c,H,o,I⟩:=l.obj r _ he _ hkr;split at h1
    ·rename_i j v0 hf;cases h1;obtain⟨U,B,C⟩:=fN (P:=P) p d w o hf;obtain⟨q,rfl,_,_,s,V,S⟩:=B;rw[Nat.sub_zero]at s;have f:(b.modify j λe=>{e with key:=kv',val:=xv'}).toList=b.toList.set j {q with key:=kv',val:=xv'}:=by
      apply u3;intro i;have g:b[j]? =some q:=by simpa using s
      rw[zc];simp only[Cl,yi];by_cases hij:j=i
      ·subst hij;obtain⟨z,T⟩:=Array.getElem?_eq_some_iff.1 g;subst T;simp[z]
      ·simp[hij]
     obtain⟨G,D,E,F⟩:=l.tK (base:=base) he hkr (es':=rS es j (kv',xv)) (ms':=b.modify j λe=>{e with key:=kv',val:=xv'}) (cl:=c) (by rw[f,kI];exact o.set u J j) (by rw[f];exact I.set (m:=q) s rfl);refine⟨μ,undef,G, .inr ⟨?_,rfl⟩,(VR.cE rfl).1,E,F,AS.wr _ _ _ _⟩;have n:((b[j]?).map (·.key)).getD kv'=kv':=by
      have g:b[j]? =some q:=by simpa using s
      simp[g,S]
     simp only[Instr.mapUpdate,ey,run_underlying K,fO H (by simp),b7,mU p d,C,n,Instr.keyThatStays,KG d,if_true,gR,D]
    ·rename_i hf;cases h1;obtain⟨U,B,C⟩:=fN (P:=P) p d w o hf;cases B;obtain⟨G,D,E,F⟩:=l.tK (base:=base) he hkr (es':=dP es [(kv',xv)]) (ms':=b.push {key:=kv',val:=xv',born:=c}) (cl:=c+1) (by rw[Array.toList_push,dI];exact o.push u J) (by rw[Array.toList_push];exact I.push _ rfl);refine⟨μ,undef,G, .inr ⟨?_,rfl⟩,(VR.cE rfl).1,E,F,AS.wr _ _ _ _⟩;simp only[Instr.mapUpdate,ey,run_underlying K,fO H (by simp),b7,mU p d,C,D]
    ·cases h1
  ·cases h1
 ·cases h1
theorem Ic(f:R P μ h w)(p:cK μ e a.tmps){y:TypeId}{J:List dZ}{k:Operand}(x:ts[0]? =some t)(i:xs[0]? =some (a.eval m))(l:xs[1]? =some (a.eval k))
 (u:P.underlying t=some (.map y el))(n:dN P 100 y=some J)(I:aH P m=true)(H:aH P k=true)(h1:aop h base e (.delete (fm P y) J m k)=some (.val v h')):
 Ran P μ h w base (((Builtin.delete_ ts ty xs).run P w).andThen λv w=> .ok (.value v) w) v h':=by
 simp only[aop]at h1;split at h1
 ·rename_i r kv hmv hkv;split at h1
  ·rename_i es he;simp only[cond_eq_ite,dk]at h1;obtain⟨b,h1⟩:=h1;have s:=bW f p I hmv;have q:=bW f p H hkv;generalize a.eval m=mv' at*;generalize a.eval k=kv' at*;cases s with
   |map hkr=>
    rename_i kk;have:=nK (fC (jg b).2.choose_spec).1 q;subst this;obtain⟨c,d,F,o,G⟩:=f.obj r _ he _ hkr;split at h1
    ·rename_i j v0 hf;cases h1;obtain⟨K,z,A⟩:=fN (P:=P) n b w o hf;obtain⟨L,rfl,_,_,O,M,N⟩:=z;have g:(c.eraseIdxIfInBounds j).toList=c.toList.eraseIdx j:=by
      unfold Array.eraseIdxIfInBounds;split
      ·simp
      ·rw[List.eraseIdx_of_length_le (by simp;omega)]
     obtain⟨E,B,C,D⟩:=f.tK (base:=base) he hkr (es':=CZ es j) (ms':=c.eraseIdxIfInBounds j) (cl:=d) (by rw[g];exact o.del j) (by rw[g];exact G.del j);refine⟨μ,_,E, .inl ?_,(VR.cE (v:= .tuple #[]) rfl).1,C,D,AS.wr _ _ _ _⟩;simp only[Builtin.delete_,x,i,l,ey,run_underlying u,fO F (by simp),b7,mU n b,A,B,gR]
    ·rename_i hf;cases h1;obtain⟨K,z,A⟩:=fN (P:=P) n b w o hf;cases z;obtain⟨E,B,C,D⟩:=f.tK (base:=base) he hkr (es':=es) (ms':=c) (cl:=d) o G;refine⟨μ,_,E, .inl ?_,(VR.cE (v:= .tuple #[]) rfl).1,C,D,AS.wr _ _ _ _⟩;simp only[Builtin.delete_,x,i,l,ey,run_underlying u,fO F (by simp),b7,mU n b,A,B,gR]
    ·cases h1
  ·cases h1
 ·rename_i kv hmv hkv;simp only[cond_eq_ite,dk]at h1;obtain⟨b,h1⟩:=h1;cases h1;have s:=bW f p I hmv;have q:=bW f p H hkv;generalize a.eval m=mv' at*;generalize a.eval k=kv' at*;cases s;have:=nK (fC (jg b).2.choose_spec).1 q;subst this;refine .pure f ?_ (VR.cE (v:= .tuple #[]) rfl).1;simp only[Builtin.delete_,x,i,l,ey,run_underlying u,b7,mU n b,gR]
 ·cases h1
theorem LR.string(s:List UInt8):LR μ (s.map λb=>Value.int .u8 (b.toNat:Int)) (s.map λb=>Value.int .u8 (b.toNat:Int)):=by
 induction s with
 |nil=>exact .nil
 |cons y l ih=>exact .cons (.int _ _) ih
theorem zx{a:World}(b:a.heap=w.heap)(ad:Addr):a.cell? ad=w.cell? ad:=by simp[World.cell?,b]
theorem MS(f:R P μ h w){x:Value}(i:VR μ x x')(g:dn h size x=some (l,n)):
 ∃l',LR μ l l'∧l'.length=n*size/\(∀a,(Builtin.lenOf x').run P a= .ok n a)∧
  ∀m,m<=n->∀a:World,a.heap=w.heap->(Builtin.firstCells size m x').run P a= .ok (l'.take (m*size)).toArray a:=by
 rcases u6 f i g with⟨cap,rfl,rfl,rfl⟩|⟨r,o,cap,l',rfl,g1,g2,g3⟩|⟨s,rfl,rfl,rfl,rfl⟩|⟨ad,rfl,rfl,rfl⟩
 ·exact⟨[], .nil,by simp,λa=>by simp[Builtin.lenOf],λm b a _=>by simp[Builtin.firstCells]⟩
 ·refine⟨l',g2,g1,λa=>by simp[Builtin.lenOf],λm b a e=> ?_⟩;have c:m*size<=n*size:=wx _ b;have:=run_loadCells (P:=P) (w:=a) (r:=r) (o:=o) (l:=l'.take (m*size)) (λj d=>by
   rw[zx e,g3 j (by simp at d;omega)];congr 1;have:=AN l' 0 (m*size) j (by simp at d;omega);simpa using this.symm)
  rw[m6,g1,tp c]at this;simpa[Builtin.firstCells]using this
 ·refine⟨_,LR.string _,by simp,λa=>by simp[Builtin.lenOf],λm b a e=> ?_⟩;simp only[Builtin.firstCells,gR,rt];congr 1;apply eD;simp[ByteArray.data_extract,←List.map_take]
 ·refine⟨[], .nil,by simp,λa=>by simp[Builtin.lenOf],λm b a _=> ?_⟩;obtain rfl:m=0:=by omega
  simp[Builtin.firstCells,loadCells,loadCellsFrom]
def fh(elem:TypeId)(size:Nat)(zeros:Bool)(ad:Option Addr)(sLen sCap n:Nat)(x:Value)(appended:Sem (Array Value)):Sem Value:=do
 let need:=sLen+n
 if need<=sCap then
  let new ←appended
  if let some a:=ad then storeCells (a.add (sLen*size)) new.toList
  pure (.slice ad need sCap)
 else
  if(need:Int)>IntKind.i64.max∧(zeros∨(←typeInfo elem).bytes=0)then runtimePanic (.error "growslice: len out of range")
  if Builtin.nextslicecap need sCap*(←typeInfo elem).bytes>2 ^ 48 then(if zeros then runtimePanic (.error "growslice: len out of range")else do
   if !(←Builtin.mayShare size sLen n ad x)then mark .noRoom
   unsupported (.resourceLimit "append: a slice or a string whose bytes no memory bears"))
  let newCap ←choose (.appendCap need sCap elem)
  askRoom (newCap*(←typeInfo elem).bytes)
  let old ←Builtin.firstCells size sLen (.slice ad sLen sCap)
  let new ←appended
  let rest:=Builtin.zeroCells (←zeroValue elem).cells (newCap-need)
  pure (.slice (some (←newRow elem (old++new++rest))) need newCap)
variable{zeros:Bool}{ad:Option Addr}{sCap sLen:Nat}
theorem qY{elem:TypeId}{a:Nat}{x:Value}{b:Sem (Array Value)}{old g:Array Value}
 (d:j5 P elem=some a)(f:iz P elem=some z)(l:sCap<sLen+n)(h:a≠0)(hb:(2*(sLen+n)+768)*a<=281474976710656)
 (e:∀w1:World,w1.heap=w.heap->(Builtin.firstCells size sLen (.slice ad sLen sCap)).run P w1= .ok old w1)
 (c:∀w1:World,w1.heap=w.heap->b.run P w1= .ok g w1):
 (fh elem size zeros ad sLen sCap n x b).run P w=
   .ok (.slice (some ⟨w.heap.size,0,none⟩) (sLen+n) (grownCap w (sLen+n) sCap elem))
    (w.drew.alloc (.cells (old++g++Builtin.zeroCells z.cells (grownCap w (sLen+n) sCap elem-(sLen+n))) elem)):=by
 have s:¬sLen+n<=sCap:=by omega
 have v:(2*(sLen+n)+768)*1<=(2*(sLen+n)+768)*a:=sT _ (tx h);have t:¬ (((sLen+n:Nat):Int)>IntKind.i64.max/\(zeros=true∨a=0)):=by
  intro ⟨q,_⟩;have:IntKind.i64.max=9223372036854775807:=rfl;rw[this]at q;omega
 have u:¬Builtin.nextslicecap (sLen+n) sCap*a>2 ^ 48:=by
  have A:=nextslicecap_le l;have B:Builtin.nextslicecap (sLen+n) sCap*a<=(2*(sLen+n)+768)*a:=wx _ (by omega);omega
 have m:w.drew.heap=w.heap:=rfl;obtain⟨i,o,y⟩:=nY f;have k:i.bytes=a:=by
  simp only[j5,rg]at d;obtain⟨j,p,q⟩:=d;rw[o]at p;cases p;exact q
 unfold fh;simp only[s,t,u,if_false,ey,gR,b7,run_typeInfo o,k,run_choose,Question.forced,rc,run_askRoom,dS f];have r:({w with drawn:=w.drawn+1}:World)=w.drew:=rfl;rw[r];simp only[e _ m,c _ m,b7,ig,gR,grownCap];rfl
theorem kill(e:R P μ h w){k:Blk}(hb:h.get b=some (.cells vs true sz))(g:μ b=some k):
 R P μ (h.wr base b .dead) w/\St μ h w μ (h.wr base b .dead) w:=
 e.write hb rfl rfl g rfl (λ_ _=>rfl) ⟨λc a d f=>⟨c,a,d,f,bl _⟩,λL i=>⟨L,i, .refl L⟩⟩ trivial
theorem mJ(a:Array Value)(n:Nat):(Builtin.zeroCells a n).size=n*a.size:=by simp[Builtin.zeroCells]
theorem AM{k:Heap}(D:R P μ k w)(C:k.next=h.next){elem:TypeId}{x:Value}{m:Sem (Array Value)}{olds old' d a:List Value}
 (u:j5 P elem=some b)(B:iz P elem=some z)(E:z.cells.size=size)(A:0<size)(y:sCap<sLen+n)(t:b≠0)(hb:(2*(sLen+n)+768)*b<=281474976710656)(i:LR μ olds old')(g:LR μ d a)(r:old'.length=sLen*size)(q:a.length=n*size)
 (s:∀w1:World,w1.heap=w.heap->(Builtin.firstCells size sLen (.slice ad sLen sCap)).run P w1= .ok old'.toArray w1)
 (p:∀w1:World,w1.heap=w.heap->m.run P w1= .ok a.toArray w1):
 ∃μ' v' w',(fh elem size zeros ad sLen sCap n x m).run P w= .ok v' w'∧VR μ' (.slice (some ⟨k.next,0,none⟩) (sLen+n) UNK) v'∧R P μ' (k.push (.cells (olds++d) true size)) w'∧
  St μ k w μ' (k.push (.cells (olds++d) true size)) w':=by
 have f:=grownCap_ge w (sLen+n) sCap elem;have e:=qY (P:=P) (w:=w) (elem:=elem) (zeros:=zeros) (x:=x) u B y t hb s p;generalize grownCap w (sLen+n) sCap elem=cap at f e;have v:(old'.toArray++a.toArray++Builtin.zeroCells z.cells (cap-(sLen+n))).size=cap*size:=by
  simp only[Array.size_append,List.size_toArray,r,q,mJ,E];rw[←Nat.add_mul,←Nat.add_mul];congr 1;omega
 obtain⟨F,G⟩:=D.wY (c:=old'.toArray++a.toArray++Builtin.zeroCells z.cells (cap-(sLen+n))) (own:=true) (sz:=size) (l:=olds++d) (el:=elem) (fz:=(0,0))
  (w':=w.drew.alloc (.cells (old'.toArray++a.toArray++Builtin.zeroCells z.cells (cap-(sLen+n))) elem)) rfl (λj _=>by simp)
  (by
    have:(old'.toArray++a.toArray++Builtin.zeroCells z.cells (cap-(sLen+n))).toList.take (olds++d).length=old'++a:=by
     rw[ec,i.length,g.length,←List.length_append,xj,xj];exact List.take_left' rfl
    rw[this];exact i.append g)
  (by rw[v,ec,i.length,g.length,r,q,←Nat.add_mul];exact wx _ f)
 exact⟨_,_,_,e,VR.eT (o:=0) (ek _ _ _) (by simp only;omega) A f,F,G⟩
theorem LQ(m:R P μ h w){len cap':Nat}{k:Blk}(hb:h.get b=some (.cells vs own sz))(p:μ b=some k)(e:o+len*size<=vs.length):
 ∃a,a.length=len*size/\LR μ ((vs.drop o).take (len*size)) a∧∀c:World,c.heap=w.heap->(Builtin.firstCells size len (.slice (some ⟨k.r,k.d+o,none⟩) len cap')).run P c= .ok a.toArray c:=by
 obtain⟨a,f,g,i⟩:=OR.row (m.obj b _ hb) p e;refine⟨a,f,g,λc q=> ?_⟩;have:=run_loadCells (P:=P) (w:=c) (r:=k.r) (o:=k.d+o) (l:=a) (λj n=>by rw[zx q];exact i j n);rw[f]at this;simpa[Builtin.firstCells]using this
theorem ic{elem:TypeId}{ad:Addr}{x:Value}{a:Sem (Array Value)}{c:List Value}(d:sLen+n<=sCap)
 (b:a.run P w= .ok c.toArray w)(e:(storeCells (ad.add (sLen*size)) c).run P w= .ok () w'):
 (fh elem size zeros (some ad) sLen sCap n x a).run P w= .ok (.slice (some ad) (sLen+n) sCap) w':=by
 unfold fh;simp only[d,if_true,ey,b,b7,e,gR]
theorem vU(u:R P μ h w){elem:TypeId}{p:Nat}{x s s':Value}{F:Sem (Array Value)}{j g:List Value}(U:VR μ s s')(f:LR μ j g)(D:g.length=n*size)
 (I:j5 P elem=some p)(J:iz P elem=some z)(hz:z.cells.size=size)(y:0<size)(H:p≠0)(d:∀w1:World,w1.heap=w.heap->F.run P w1= .ok g.toArray w1)(h1:jj h base size p s j n=some (v,h')):
 ∃B sLen sCap,s'= .slice B sLen sCap/\∃μ' A t,(fh elem size zeros B sLen sCap n x F).run P w= .ok A t∧VR μ' v A∧R P μ' h' t∧St μ h w μ' h' t∧AS base h h':=by
 have ba:=f.length;unfold jj at h1;split at h1
 ·rename_i a0 len cap;simp only[beq_eq,ble_eq,bX,cond_eq_ite,decide_eq_true_eq]at h1;split at h1
  ·rename_i C;subst C;rw[dk]at h1;obtain⟨q,h1⟩:=h1;cases h1;have C:g=[]:=by simpa using D
   subst C;have fin:∀B len m,len<=m→(fh elem size zeros B len m 0 x F).run P w= .ok (.slice B len m) w:=λB len m hl=>by
    cases B with
    |none=>
     unfold fh;simp only[ww,hl,if_true,ey,d w rfl,b7,gR]
    |some B=>exact ic (by omega) (d w rfl) (by simp[storeCells])
   cases U with
   |iT=>exact⟨none,len,cap,rfl,μ,_,w,fin _ _ _ q, .iT _ _,u, .refl _ _ _, .refl _ _⟩
   |kC s=>exact⟨_,0,0,rfl,μ,_,w,fin _ _ _ q, .kC s,u, .refl _ _ _, .refl _ _⟩
   |slice hk q1 q2=>exact⟨_,len,cap,rfl,μ,_,w,fin _ _ _ q2, .slice hk q1 q2,u, .refl _ _ _, .refl _ _⟩
   |eT hk q1 q2 q3=>exact⟨_,len,_,rfl,μ,_,w,fin _ _ _ q3, .eT hk q1 q2 q3,u, .refl _ _ _, .refl _ _⟩
  ·rename_i C;rw[dk]at h1;obtain⟨hb,h1⟩:=h1;split at h1
   ·rename_i _;simp only[ed,decide_eq_true_eq,dk]at h1;obtain⟨⟨G,Y⟩,h1⟩:=h1;subst G Y;cases h1;cases U with
    |iT=>
     obtain⟨μ',A,t,Q,K,L,M⟩:=AM (h:=h) u rfl (elem:=elem) (zeros:=zeros) (x:=x) (ad:=none) (sLen:=0) (sCap:=0) (olds:=[]) (old':=[]) I J hz y (by omega) H hb .nil f (by simp) D
      (λw1 _=>by simp[Builtin.firstCells]) d
     rw[hX]at K;exact⟨none,0,0,rfl,μ',A,t,Q,K,L,M,AS.push _ _ _⟩
   ·rename_i b o;split at h1
    ·rename_i vs own sz hbo;split at h1
     ·rename_i hU;subst hU;rw[dk]at h1;simp only[ed,decide_eq_true_eq]at h1;obtain⟨⟨G,Y⟩,h1⟩:=h1;subst G Y;cases U with
      |slice _ q1 _=>exact absurd q1 (pp _)
      |eT hk q1 q2 q3=>
       rename_i c k;obtain⟨z0,ca,O,fz,z1,z2,z3,z4,z5⟩:=u.obj b _ hbo k hk;obtain⟨y1,y2,y3⟩:=z5 rfl;split at h1
       ·rename_i hc;obtain⟨Z,c4⟩:=hc;cases h1;rw[y1,hX]at z2 q1;have a:len+n<=c:=by
         have:(len+n)*sz<=c*sz:=by rw[z0]at q1;omega
         exact Nat.le_of_mul_le_mul_right this y
        have E:(len+n)*sz=len*sz+n*sz:=sx _ _ _;obtain⟨t,V,W,X⟩:=u.qg (base:=base) hbo hk f (o:=o+len*sz) (by omega) c4;refine⟨_,len,c,rfl,μ,_,t,ic a (d w rfl) (by rw[fG,←Nat.add_assoc]at*;exact V), .eT hk (by rw[y1,hX];exact q1) q2 a,W,X,AS.wr _ _ _ _⟩
       ·rw[dk]at h1;obtain⟨⟨⟨Z,c4⟩,c5⟩,h1⟩:=h1;subst Z;cases h1;have q:dP vs j=vs++j:=dI _ _;have aS:AS base h ((h.wr base b .dead).push (.cells (dP vs j) true sz)):=(AS.wr base h b .dead).trans (AS.push _ _ _);rw[y1,hX]at z2 q1;by_cases a:len+n<=c
        ·have E:(len+n)*sz=len*sz+n*sz:=sx _ _ _;have aw:(len+n)*sz<=c*sz:=wx _ a;rw[z0]at q1;obtain⟨t,N,V,W,X,s4,s5,s6,s7⟩:=mG (P:=P) k.r g (0+len*sz) 0 w ca O fz z1 (by omega) y3 (by rw[Gi f];exact c5);obtain⟨t1,t2⟩:=u.move (base:=base) (k':=⟨k.r,0,k.e,sz⟩) (o':= .cells (dP vs j) true sz) hbo rfl rfl hk W X (.xe z1 s4 (by omega)) rfl (by
          intro k1 T;rw[ek]at T;cases T;refine⟨rfl,N,O,fz,s4,by rw[q];simp only[ec];omega,by simp only;omega,λi hi=> ?_,λ_=>⟨rfl,by simp only;omega,by rw[s5];exact y3⟩⟩;rw[q,ec]at hi;rw[q];simp only[hX];have ae:N[i]? =(cW ca.toList (len*sz) g)[i]? :=by
           have:=s6;rw[hX,ww]at this;rw[←this];simp
          rw[ae,nN g ca.toList (len*sz) i (by simp;omega)];have hm:∀b' k1,μ b'=some k1->upd μ h.next ⟨k.r,0,k.e,sz⟩ b'=some k1:=λb' k1 S=>by
           unfold upd;rw[if_neg];exact S;intro e;subst e;exact pp _ (u.dom _ _ S).1
          by_cases hi2:i<vs.length
          ·rw[if_neg (by omega)];obtain⟨A,p1,p2⟩:=z4 i hi2;rw[y1,hX]at p1;refine⟨A,by simpa using p1,?_⟩;have:gv (vs++j) i=gv vs i:=by simp only[gv,cH];rw[hG hi2]
           rw[this];exact p2.mono hm
          ·rw[if_pos (by omega)];have ar:i-vs.length<j.length:=by omega
           have:gv (vs++j) i=gv j (i-vs.length):=by simp only[gv,cH];rw[gK (by omega)]
           rw[this,c4];exact⟨gv g (i-vs.length),rI (by omega),(f.gv _ ar).mono hm⟩) s7
         refine⟨_,len,c,rfl,_,_,t,ic a (d w rfl) (by rw[fG];rw[y1];simpa using V),?_,t1,t2,aS⟩;have:=VR.eT (μ:=upd μ h.next ⟨k.r,0,k.e,sz⟩) (b:=h.next) (o:=0) (l:=len+n) (c:=c) (ek _ _ _) (by simp only;omega) y a;rw[y1];exact this
        ·obtain⟨l',o1,o2,o3⟩:=LQ (cap':=c) u hbo hk (o:=0) (len:=len) (size:=sz) (by omega);obtain⟨t1,t2⟩:=kill (base:=base) u hbo hk;have aE:LR μ vs l':=by
          have e:(vs.drop 0).take (len*sz)=vs:=by rw[py];exact gk (by omega)
          rw[e]at o2;exact o2
         obtain⟨μ',A,t,Q,K,L,M⟩:=AM (h:=h) t1 rfl (elem:=elem) (zeros:=zeros) (x:=x) (sLen:=len) (sCap:=c) I J hz y (by omega) H hb aE f o1 D o3 d;rw[←q]at L M;exact⟨_,len,c,rfl,μ',A,t,Q,K,L,t2.trans M (bl _),aS⟩
     ·rename_i hU;split at h1
      ·rename_i a;rw[dk]at h1;simp only[ed,decide_eq_true_eq]at h1;obtain⟨⟨⟨G,Y⟩,Z⟩,h1⟩:=h1;subst G;cases h1;have E:(len+n)*size=len*size+n*size:=sx _ _ _;cases U with
       |slice hk q1 q2=>
        obtain⟨t,V,W,X⟩:=u.qg (base:=base) hbo hk f (o:=o+len*size) (by omega) Z;exact⟨_,len,cap,rfl,μ,_,t,ic a (d w rfl) (by rw[fG,te];exact V), .slice hk q1 a,W,X,AS.wr _ _ _ _⟩
       |eT=>exact absurd rfl hU
      ·rename_i a;rw[dk]at h1;obtain⟨G,h1⟩:=h1;cases h1;cases U with
       |slice hk q1 q2=>
        obtain⟨l',o1,o2,o3⟩:=LQ (cap':=cap) u hbo hk (o:=o) (len:=len) (size:=size) G;obtain⟨μ',A,t,Q,K,L,M⟩:=AM (h:=h) u rfl (elem:=elem) (zeros:=zeros) (x:=x) (sLen:=len) (sCap:=cap) I J hz y (by omega) H hb o2 f o1 D o3 d;rw[dI,bQ,aW];exact⟨_,len,cap,rfl,μ',A,t,Q,K,L,M,AS.push _ _ _⟩
       |eT=>exact absurd rfl hU
    ·cases h1
   ·cases h1
 ·cases h1
theorem Ia(j:R P μ h w)(H:cK μ e a.tmps){m:TypeDesc}{s:Operand}
 (Q:ts[0]? =some t)(y:ts[1]? =some xt)(A:xs[0]? =some (a.eval s))(B:xs[1]? =some (a.eval x))(N:P.underlying t=some (.slice el))(C:P.underlying xt=some m)(q:∀k,m≠ .int k)
 (u:dX P el=some size)(p:j5 P el=some b)(U:iz P el=some z)(E:cF (cellsOf z)=size)(r:size≠0)(o:b≠0)(O:aH P s=true)(T:aH P x=true)
 (h1:aop h base e (.append size b s x)=some (.val v h')):Ran P μ h w base (((Builtin.append_ ts ty xs).run P w).andThen λv w=> .ok (.value v) w) v h':=by
 simp only[aop]at h1;split at h1
 ·rename_i sv xv hsv hxv;split at h1
  ·rename_i l n hsrc;have h1:=gh h1;have gs:=bW j H O hsv;have M:=bW j H T hxv;generalize a.eval s=sv' at*;generalize a.eval x=xv' at*;obtain⟨V,J,G,K,L⟩:=MS j M hsrc;have c:∀i:World,i.heap=w.heap->(Builtin.firstCells size n xv').run P i= .ok V.toArray i:=λi S=>by
    have:=L n (bl _) i S
    rwa [←G,q9]at this
   have D:z.cells.size=size:=by rw[Ed,←bX];exact E
   obtain⟨I,g,f,rfl,μ',v',w',W,X,Y,Z,q5⟩:=vU (elem:=el) (zeros:=false) (x:=xv') j gs J G p U D (tx r) o c h1;refine⟨μ',v',w', .inl ?_,X,Y,Z,q5⟩;have d:((m matches .int _):Bool)=false:=by cases m<;>first|rfl|exact(q _ rfl).elim
   have F:(Builtin.append_ ts ty xs).run P w=(fh el size false I g f n xv' (Builtin.firstCells size n xv')).run P w:=by
    unfold Builtin.append_ fh;simp only[Q,y,A,B,ey,run_underlying N,run_underlying C,run_sizeOf u,b7,gR,d,rc,if_false,K,Bool.not_false,if_true,false_or];rfl
   rw[F,W];rfl
  ·cases h1
 ·cases h1
theorem EJ(r:R P μ h w)(J:cK μ e a.tmps){W:IntKind}{s:Operand}
 (T:ts[0]? =some t)(D:ts[1]? =some xt)(F:xs[0]? =some (a.eval s))(k:xs[1]? =some (a.eval x))(Q:P.underlying t=some (.slice el))(G:P.underlying xt=some (.int W))
 (C:dX P el=some size)(c:j5 P el=some b)(H:iz P el=some z)(B:cZ (cellsOf z)=true)(l:cF (cellsOf z)=size)(A:size≠0)(u:b≠0)(S:aH P s=true)(U:aH P x=true)
 (h1:aop h base e (.kG (cellsOf z) b s x)=some (.val v h')):Ran P μ h w base (((Builtin.append_ ts ty xs).run P w).andThen λv w=> .ok (.value v) w) v h':=by
 simp only[aop]at h1;split at h1
 ·rename_i sv xv hsv hxv;split at h1
  ·rename_i n hn;simp only[blt_eq,ble_eq,cond_eq_ite,dk,ed,decide_eq_true_eq]at h1;obtain⟨⟨c1,c2⟩,h1⟩:=h1;have h1:=gh h1;have gs:=bW r J S hsv;obtain⟨M,O⟩:=nO (bW r J U hxv) hn;generalize a.eval s=sv' at*;rw[O]at k;have d:z.cells.size=size:=by rw[Ed,←bX];exact l
   rw[l]at h1;have g:LR μ (eW n (cellsOf z)) (Builtin.zeroCells z.cells n).toList:=xW B n;let app:Sem (Array Value):=if n*size=0 then pure #[]else do pure (Builtin.zeroCells (←zeroValue el).cells n)
   have f:∀p:World,p.heap=w.heap->app.run P p= .ok (Builtin.zeroCells z.cells n).toList.toArray p:=λp hw=>by
    show((if n*size=0 then pure #[]else do pure (Builtin.zeroCells (←zeroValue el).cells n)):Sem (Array Value)).run P p=_;by_cases h0:n*size=0
    ·rw[if_pos h0];have:Builtin.zeroCells z.cells n= #[]:=by
      apply Array.eq_empty_of_size_eq_zero;rw[mJ,d];exact h0
     simp[this]
    ·rw[if_neg h0];simp only[ey,dS H,b7,gR]
   obtain⟨N,o,m,rfl,μ',v',w',Z,q2,q3,q4,q5⟩:=vU (elem:=el) (zeros:=true) (x:= .int M n) r gs g (by simp[mJ,d]) c H d (tx A) u f h1;refine⟨μ',v',w', .inl ?_,q2,q3,q4,q5⟩;have E:IntKind.i64.wrap (n:Int)=n:=by rw[IntKind.wrap_i64];omega
   obtain⟨i,K,V⟩:=nY H;have y:i.bytes=b:=by
    simp only[j5,rg]at c;obtain⟨j,L,q⟩:=c;rw[K]at L;cases L;exact q
   have X:¬ ((n:Int)<0):=by omega
   have Y:¬ ((n:Int)*(b:Int)>2 ^ 48):=by rw[←Int.natCast_mul];omega
   have I:(Builtin.append_ ts ty xs).run P w=(fh el size true N o m n (.int M n) app).run P w:=by
    unfold Builtin.append_ fh;simp only[T,D,F,k,ey,run_underlying Q,run_underlying G,run_sizeOf C,b7,gR,asInt,asIntOf,if_true,Bool.not_true,rc,if_false,E,X,Y,run_typeInfo K,y,wy,true_or];rfl
   rw[I,Z];rfl
  ·cases h1
 ·cases h1
theorem Pc(j:R P μ h w)(G:cK μ e a.tmps){d s:Operand}
 (N:ts[0]? =some t)(A:xs[0]? =some (a.eval d))(B:xs[1]? =some (a.eval s))(L:P.underlying t=some (.slice el))(y:dX P el=some size)(q:aH P d=true)(u:aH P s=true)
 (h1:aop h base e (.copy size d s)=some (.val v h')):Ran P μ h w base (((Builtin.copy_ ts ty xs).run P w).andThen λv w=> .ok (.value v) w) v h':=by
 simp only[aop]at h1;split at h1
 ·rename_i a0 dl dc sv hdv hsv;split at h1
  ·rename_i l n hsrc;have F:=bW j G q hdv;have gs:=bW j G u hsv;generalize a.eval d=dv' at*;generalize a.eval s=sv' at*;obtain⟨H,J,S,K,p⟩:=MS j gs hsrc;have p:=p (Nat.min n dl) (Nat.min_le_left _ _) w rfl;have g:∀i c,dv'= .slice i dl c->∀f,(match i with|some a=>(storeCells a (H.take (Nat.min n dl*size))).run P w|none=> .ok () w)= .ok () f→(Builtin.copy_ ts ty xs).run P w= .ok (goInt (Nat.min n dl)) f:=λi c O f z=>by
    subst O;unfold Builtin.copy_;simp only[N,A,B,ey,run_underlying L,b7,K,run_sizeOf y,p,gR];cases i with
    |none=>cases z;simp
    |some i=>simp only[ey];simp only at z;rw[z];rfl
   split at h1
   ·cases h1;cases F with
    |iT=>exact⟨μ,_,w, .inl (by rw[g none _ rfl w rfl];rfl), .int _ _,j, .refl _ _ _, .refl _ _⟩
   ·rename_i b o;split at h1
    ·rename_i vs sz hbo;simp only[ble_eq,bX,bQ,cond_eq_ite,dk,ed,decide_eq_true_eq]at h1;obtain⟨⟨Q,I⟩,h1⟩:=h1;cases h1;have x:=J.take (Nat.min n dl*size);have M:(l.take (Nat.min n dl*size)).length<=Nat.min n dl*size:=by simp;omega
     have fin:∀k,μ b=some k->∃f,(storeCells ⟨k.r,k.d+o,none⟩ (H.take (Nat.min n dl*size))).run P w= .ok () f∧R P μ (h.wr base b (.cells (cW vs o (l.take (Nat.min n dl*size))) true sz)) f∧
      St μ h w μ (h.wr base b (.cells (cW vs o (l.take (Nat.min n dl*size))) true sz)) f:=λk m=>j.qg hbo m x (by omega) I
     cases F with
     |slice m q1 q2=>
      obtain⟨f,C,D,E⟩:=fin _ m;exact⟨μ,_,f, .inl (by rw[g _ _ rfl f C];rfl), .int _ _,D,E,AS.wr _ _ _ _⟩
     |eT m q1 q2 q3=>
      obtain⟨f,C,D,E⟩:=fin _ m;exact⟨μ,_,f, .inl (by rw[g _ _ rfl f C];rfl), .int _ _,D,E,AS.wr _ _ _ _⟩
    ·cases h1
   ·cases h1
  ·cases h1
 ·cases h1
theorem LS(j:R P μ h w)(F:cK μ e a.tmps)
 (p:ts[0]? =some t)(c:xs[0]? =some (a.eval x))(l:P.underlying t=some (.slice el))(C:iz P el=some z)(u:cZ (cellsOf z)=true)(s:aH P x=true)
 (h1:aop h base e (.clear (cellsOf z) x)=some (.val v h')):Ran P μ h w base (((Builtin.clear_ ts ty xs).run P w).andThen λv w=> .ok (.value v) w) v h':=by
 simp only[aop]at h1;split at h1
 ·rename_i a0 n dc hdv;have q:=bW j F s hdv;generalize a.eval x=dv' at*;simp only[cond_eq_ite,beq_eq,decide_eq_true_eq]at h1;split at h1
  ·rename_i hn;subst hn;cases h1;refine⟨μ, .tuple #[],w, .inl ?_,VR.lI .nil,j, .refl _ _ _, .refl _ _⟩;cases q<;>simp[Builtin.clear_,p,c,run_underlying l]
  ·rename_i hn;obtain⟨m,rfl⟩:∃m,n=m+1:=⟨n-1,by omega⟩;split at h1
   ·cases h1;cases q with
    |iT=>exact⟨μ, .tuple #[],w, .inl (by simp[Builtin.clear_,p,c,run_underlying l]),VR.lI .nil,j, .refl _ _ _, .refl _ _⟩
   ·rename_i b o;split at h1
    ·rename_i vs sz hbo;simp only[ble_eq,bX,dk,ed,decide_eq_true_eq]at h1;obtain⟨⟨D,E⟩,h1⟩:=h1;cases h1;have i:LR μ (eW (m+1) (cellsOf z)) (Builtin.zeroCells z.cells (m+1)).toList:=xW u (m+1);have fin:∀k,μ b=some k->∃f,(storeCells ⟨k.r,k.d+o,none⟩ (Builtin.zeroCells z.cells (m+1)).toList).run P w= .ok () f∧R P μ (h.wr base b (.cells (cW vs o (eW (m+1) (cellsOf z))) true sz)) f∧
      St μ h w μ (h.wr base b (.cells (cW vs o (eW (m+1) (cellsOf z))) true sz)) f:=λk g=>j.qg hbo g i D E
     cases q with
     |slice g q1 q2=>
      obtain⟨f,y,A,B⟩:=fin _ g;exact⟨μ, .tuple #[],f, .inl (by simp[Builtin.clear_,p,c,run_underlying l,dS C,y]),VR.lI .nil,A,B,AS.wr _ _ _ _⟩
     |eT g q1 q2 q3=>
      obtain⟨f,y,A,B⟩:=fin _ g;exact⟨μ, .tuple #[],f, .inl (by simp[Builtin.clear_,p,c,run_underlying l,dS C,y]),VR.lI .nil,A,B,AS.wr _ _ _ _⟩
    ·cases h1
   ·cases h1
 ·cases h1
theorem L5(b:R P μ h w)(i:cK μ e a.tmps)(j:P.underlying t=some .string)(l:aH P x=true)(h1:aop h base e (.range x)=some (.val v h')):
 Ran P μ h w base (((Instr.range t (a.eval x)).run P w).andThen λv w=> .ok (.value v) w) v h':=by
 simp only[aop]at h1;split at h1
 ·rename_i s hs;cases h1;have g:=bW b i l hs;generalize a.eval x=xv at*;cases g;obtain⟨d,f⟩:=b.alloc (w':={w with heap:=w.heap.push (.stringIter s 0)}) (o:= .lN s 0) (k:=⟨w.heap.size,0,0,0⟩) rfl rfl (λk c=>by
   rw[ek]at c;cases c;exact⟨rfl,by simp⟩)
  refine⟨_, .pointer (some ⟨w.heap.size,0,none⟩),_, .inl ?_,VR.ptr (o:=0) (ek _ _ _),d,f,AS.push _ _ _⟩;simp[Instr.range,run_underlying j,newObj,Sem.run]
 ·cases h1
theorem Ph(d:R P μ h w)(n:cK μ e a.tmps)(o:aH P x=true)(h1:aop h base e (.next x true)=some (.val v h')):
 Ran P μ h w base (((Instr.next (a.eval x) true ty).run P w).andThen λv w=> .ok (.value v) w) v h':=by
 simp only[aop]at h1;split at h1
 ·rename_i r hr;split at h1
  ·rename_i s pos hs;have g:=bW d n o hr;generalize a.eval x=xv at*;cases g with
   |ptr hk=>
    rename_i k;obtain⟨m,b⟩:=d.obj r _ hs k hk;have j:=(d.dom r k hk).2;simp only[blt_eq,cond_eq_ite,decide_eq_true_eq]at h1;rw[m];split at h1
    ·rename_i hp;cases h1
     obtain⟨p,q⟩:=d.write (base:=base) (o':= .lN s (pos+(Utf8.decode s pos).2)) (w':={w with heap:=w.heap.setIfInBounds k.r (.stringIter s (pos+(Utf8.decode s pos).2))}) hs rfl rfl hk (by simp)
      (fun z l=>by simp[gy,Ne.symm l]) (vL.LO (fun c t u f=>by rw[b]at f;cases f) (fun L f=>by rw[b]at f;cases f)) (fun y i=>by
        rw[hk]at i;cases i;exact⟨m,by simp[gy,j]⟩)
     refine⟨μ, .tuple #[.bool true, .int .i64 pos, .int .i32 (Utf8.decode s pos).1],_, .inl ?_,VR.lI (.cons (.bool _) (.cons (.int _ _) (.cons (.int _ _) .nil))),p,q,AS.wr _ _ _ _⟩;simp only[Instr.next,ey,fO b (by simp),b7,hp,if_true,hX];simp[setObj,Sem.run,b,goInt]
    ·rename_i hp;cases h1;refine .pure d ?_ (VR.lI (.cons (.bool false) .nil));simp only[Instr.next,ey,fO b (by simp),b7,hp,if_false,gR,hX]
  ·cases h1
 ·cases h1
theorem cV{r a:Result Next}(hr:Ran P μ h w base r v h')(b:a=r):Ran P μ h w base a v h':=b▸hr
theorem ew{β:Type}{x:Option α}{f:α->β}{y:β}(h:x.map f=some y):∃z,x=some z/\f z=y:=by simpa[rg]using h
theorem SR(j:R P μ h w)(u:cK μ e a.tmps){o:Oper}{O:AOp}(g:gO P o.op=some O)(h1:aop h base e O=some (.val v h'))(hb:∀c,o.op≠ .call c):
 Ran P μ h w base ((execOp a.eval o).run P w) v h':=by
 unfold gO at g;split at g
 ·rename_i hall;cases hop:o.op<;>rw[hop]at g hall<;>simp only[Op.operands,G5,List.all_nil,xf,ed]at hall<;>(try dsimp only at g)<;>(try (cases g;done))<;>(try (exact absurd hop (hb _)))
  case move x=>cases g;exact cV (LY j u hall h1) (by simp[execOp,hop])
  case assign x=>cases g;exact cV (LY j u hall h1) (by simp[execOp,hop])
  case pick c x y=>cases g;exact cV (Pj j u hall.1 hall.2.1 hall.2.2 h1) (by simp[execOp,hop])
  case alloc t=>
   split at g
   ·rename_i z D;split at g
    ·rename_i C;cases g;exact cV (SQ j D C h1) (by simp[execOp,hop])
    ·cases g
   ·cases g
  case box t x=>cases g;exact cV (SN (t:=t) j u hall h1) (by simp[execOp,hop])
  case build t ps=>
   have J:∀p∈ps.toList,aH P p.2=true:=λp K=>List.all_eq_true.1 hall p.2 (by simpa using⟨p.1,by simpa using K⟩);split at g
   ·rename_i z fs D hd;split at g
    ·rename_i hcc;obtain⟨S,L,rfl⟩:=ew g;exact cV (Dk j u (.inr ⟨fs,hd,hcc.2,rfl⟩) D hcc.1 J (by simpa[Program.cellsOf,dX]using L) h1) (by simp[execOp,hop])
    ·cases g
   ·rename_i z n el D hd;split at g
    ·rename_i s C;split at g
     ·rename_i hcc;obtain⟨S,L,rfl⟩:=ew g;exact cV (Dk j u (.inl ⟨_,_,s,hd,C,rfl⟩) D hcc J L h1) (by simp[execOp,hop])
     ·cases g
    ·cases g
   ·cases g
  case buildSlice t n ps=>
   have J:∀p∈ps.toList,aH P p.2=true:=λp K=>List.all_eq_true.1 hall p.2 (by simpa using⟨p.1,by simpa using K⟩);split at g
   ·rename_i el hd;split at g
    ·rename_i s z C D;split at g
     ·rename_i hcc;obtain⟨S,L,rfl⟩:=ew g;exact cV (Ib j u hd C D hcc.2.2.2 hcc.1 hcc.2.1 hcc.2.2.1 J L h1) (by simp[execOp,hop])
     ·cases g
    ·cases g
   ·cases g
  case load t x=>obtain⟨n,A,rfl⟩:=ew g;exact cV (Pg j u A hall h1) (by simp[execOp,hop])
  case store t x y=>obtain⟨n,A,rfl⟩:=ew g;exact cV (L6 j u A hall.1 hall.2 h1) (by simp[execOp,hop])
  case nilCheck x=>cases g;exact Ij j u hop hall h1
  case binOp op t x y yt=>
   have B:∀{r},Ran P μ h w base r v h'→((do eqGuard op t x y (a.eval x) (a.eval y);binOp op t (a.eval x) (a.eval y)).run P w).andThen (λv w=> .ok (.value v) w)=r->Ran P μ h w base ((execOp a.eval o).run P w) v h':=λU T=>
    cV U (by rw[←T];simp[execOp,hop];cases (eqGuard op t x y (a.eval x) (a.eval y)).run P w<;>simp[Result.andThen])
   split at g
   ·rename_i fs hd;split at g
    ·rename_i ls hl _;split at g
     ·cases g
     ·rename_i hg;cases g;exact B (tw j u rfl (by assumption) (by simpa using hg) hall.1 hall.2 h1 ⟨fs, .inl hd⟩) rfl
    ·split at g
     ·cases g
     ·rename_i hg;cases g;exact B (tw j u rfl (by assumption) (by simpa using hg) hall.1 hall.2 h1 ⟨fs, .inl hd⟩) rfl
    ·cases g
   ·rename_i n el hd;split at g
    ·split at g
     ·cases g
     ·rename_i hg;cases g;exact B (tw j u rfl (by assumption) (by simpa using hg) hall.1 hall.2 h1 ⟨#[], .inr ⟨_,_,hd⟩⟩) rfl
    ·split at g
     ·cases g
     ·rename_i hg;cases g;exact B (tw j u rfl (by assumption) (by simpa using hg) hall.1 hall.2 h1 ⟨#[], .inr ⟨_,_,hd⟩⟩) rfl
    ·cases g
   ·rename_i ms hd;split at g
    ·rename_i hcc;obtain⟨n,A,rfl⟩:=ew g;exact B (xk j u A hd (by simp[rX]) (λ_=>hcc) hall.1 hall.2 h1) rfl
    ·cases g
   ·rename_i p hd;obtain⟨n,A,rfl⟩:=ew g;exact B (xk j u A hd (by simp[rX]) (λq=>by cases q) hall.1 hall.2 h1) rfl
   ·rename_i p hd;obtain⟨n,A,rfl⟩:=ew g;exact B (xk j u A hd (by simp[rX]) (λq=>by cases q) hall.1 hall.2 h1) rfl
   ·rename_i p q hd;obtain⟨n,A,rfl⟩:=ew g;exact B (xk j u A hd (by simp[rX]) (λq=>by cases q) hall.1 hall.2 h1) rfl
   ·rename_i p q r hd;obtain⟨n,A,rfl⟩:=ew g;exact B (xk j u A hd (by simp[rX]) (λq=>by cases q) hall.1 hall.2 h1) rfl
   ·rename_i hd;obtain⟨n,A,rfl⟩:=ew g;exact B (SM j u A hd hall.1 hall.2 h1) rfl
   ·cases g;exact B (LZ j u hall.1 hall.2 h1) rfl
   ·cases g;exact B (LZ j u hall.1 hall.2 h1) rfl
   ·cases g
  case unOp op t x=>cases g;exact cV (VK j u hall h1) (by simp[execOp,hop])
  case convert s d x=>
   split at g
   ·rename_i k k' C hd;cases g;exact cV (EK j u C hd hall h1) (by simp[execOp,hop])
   ·rename_i C hd;cases g;exact cV (Dl j u C hd hall h1) (by simp[execOp,hop])
   ·rename_i el C hd;split at g
    ·rename_i hel;cases g;exact cV (Bb j u C hel hd hall h1) (by simp[execOp,hop])
    ·cases g
   ·rename_i el C hd;split at g
    ·rename_i hel;cases g;exact cV (xg j u C hd hel hall h1) (by simp[execOp,hop])
    ·cases g
   ·cases g
  case makeInterface t x=>
   split at g
   ·cases g
   ·rename_i d hni hd;cases g;exact cV (EN j u hd (λm N=>hni m N) hall h1) (by simp[execOp,hop])
   ·cases g
  case makeFunc fn fs cs=>
   cases fn<;>(try (cases g;done))
   cases g;simp only[xj,List.all_append,ed]at hall;exact cV (Ii j u hall.1 hall.2 h1) (by simp[execOp,hop])
  case makeMap t r=>
   cases r with
   |none=>cases g;exact cV (Dn (t:=t) j (r:=none) (.inl rfl) h1) (by simp[execOp,hop])
   |some r=>
    cases r<;>simp only at g<;>(try (cases g;done))
    rename_i c;cases c<;>simp only at g<;>(try (cases g;done))
    rename_i k n;split at g
    ·rename_i kt el hd;cases g;exact cV (Dn (t:=t) j (r:=some (.int k n)) (.inr ⟨k,n,kt,el,rfl,hd⟩) h1) (by simp[execOp,hop,Act.eval])
    ·cases g
  case makeSlice t l c=>
   split at g
   ·rename_i el hd;split at g
    ·rename_i s z b C D hb;split at g
     ·rename_i hcc;cases g;exact cV (EO j u hd C D hb hcc.2.2 hcc.1 hcc.2.1 hall.1 hall.2 h1) (by simp[execOp,hop])
     ·cases g
    ·cases g
   ·cases g
  case slice t x lo hi mx=>
   simp only[xn,xj,List.all_append,G5,List.all_nil,xf,ed]at hall;have I:∀(y:Option Operand),(y.toArray.toList.all (aH P))=true->∀z,y=some z->aH P z=true:=λy V z D=>by subst D;simpa using V
   obtain⟨⟨⟨M,F⟩,E⟩,H⟩:=hall;have F:=I _ F;have E:=I _ E;have H:=I _ H;split at g
   ·cases g
   ·rename_i hmh;have G:mx.isSome=true->hi.isSome=true:=λq=>by cases hi<;>simp_all
    split at g
    ·rename_i hd;split at g
     ·cases g;exact cV (Dp j u hd M F E h1) (by simp[execOp,hop])
     ·cases g
    ·rename_i el hd;obtain⟨n,A,rfl⟩:=ew g;exact cV (ES j u hd A M G F E H h1) (by simp[execOp,hop])
    ·rename_i n el hd;split at g
     ·rename_i hU;obtain⟨s,A,rfl⟩:=ew g;exact cV (uV j u (.inl hd) hU A M G F E H h1) (by simp[execOp,hop])
     ·cases g
    ·rename_i p hd;split at g
     ·rename_i n el K;split at g
      ·rename_i hU;obtain⟨s,A,rfl⟩:=ew g;exact cV (uV j u (.inr ⟨p,hd,K⟩) hU A M G F E H h1) (by simp[execOp,hop])
      ·cases g
     ·cases g
    ·cases g
  case fieldAddr s x f=>
   split at g
   ·rename_i fs hd;split at g
    ·rename_i fl hf;split at g
     ·rename_i n A;cases g;exact cV (LU j u hd hf A hall h1) (by simp[execOp,hop])
     ·cases g
    ·cases g
   ·cases g
  case field s x f=>
   split at g
   ·rename_i fs hd;split at g
    ·rename_i fl hf;obtain⟨n,A,rfl⟩:=ew g;exact cV (LV j u hd hf A hall h1) (by simp[execOp,hop])
    ·cases g
   ·cases g
  case indexAddr t x i=>
   split at g
   ·rename_i n el hd;obtain⟨s,C,rfl⟩:=ew g;exact cV (Ie j u hd C hall.1 hall.2 h1) (by simp[execOp,hop])
   ·rename_i el hd;obtain⟨s,C,rfl⟩:=ew g;exact cV (Ig j u hd C hall.1 hall.2 h1) (by simp[execOp,hop])
   ·cases g
  case index t x i=>
   split at g
   ·rename_i n el hd;split at g
    ·rename_i s ag C hag;cases g;exact cV (Pe j u hd C hag hall.1 hall.2 h1) (by simp[execOp,hop])
    ·cases g
   ·rename_i hd;cases g;exact cV (Pf j u hd hall.1 hall.2 h1) (by simp[execOp,hop])
   ·cases g
  case lookup t m k ok=>
   split at g
   ·rename_i kt el hd;split at g
    ·rename_i ls z hl D;split at g
     ·rename_i hf;cases g;exact cV (Ih j u hd hl D hf hall.1 hall.2 h1) (by simp[execOp,hop])
     ·cases g
    ·cases g
   ·cases g
  case mapUpdate t m k x=>
   split at g
   ·rename_i kt el hd;split at g
    ·rename_i ls hl;cases g;exact cV (LW j u hd hl hall.1 hall.2.1 hall.2.2 h1) (by simp[execOp,hop])
    ·cases g
   ·cases g
  case range t x=>
   split at g
   ·rename_i hd;cases g;exact cV (L5 j u hd hall h1) (by simp[execOp,hop])
   ·cases g;cases h1
   ·cases g
  case entry x=>cases g;cases h1
  case next x s=>
   cases g;cases s with
   |true=>exact cV (Ph (ty:=o.type) j u hall h1) (by simp[execOp,hop])
   |false=>cases h1
  case typeAssert x xt t ok=>
   split at g
   ·cases g
   ·rename_i d hni hd;split at g
    ·rename_i z D;split at g
     ·rename_i hf;cases g;exact cV (ET (xt:=xt) j u hd (λm N=>hni m N) D hf hall h1) (by simp[execOp,hop])
     ·cases g
    ·cases g
   ·cases g
  case extract x i=>cases g;exact cV (EL j u hall h1) (by simp[execOp,hop])
  case defer c=>
   split at g
   ·cases g;simp only[aop]at h1;split at h1<;>cases h1
   ·cases g
  case panic x=>
   cases g;obtain⟨W,_,Q⟩:=aA h1;split at Q<;>cases Q
 ·cases g
end Go.A
end
