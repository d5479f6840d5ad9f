/- What relates the machine to the model; its operations are sound. -/
import Derived.Test.YtalmahakphchfaaGreatDoorNA
import Derived.Laws.Sem
import Derived.Laws.StructEq
import Derived.ChangeKeysEq
import Derived.Laws.Tables
import Derived.Laws.MakeOwn
import Derived.Laws.IdiomStrings
import Derived.Laws.Slices
set_option linter.all false
section
namespace Go.A
structure Blk where
 r:Nat
 d:Nat
 e:Nat
 sz:Nat
abbrev Mu:=Nat->Option Blk
def gv(l:List Value)(i:Nat):Value:=(aT l i).getD undef
inductive FnR (μ:Mu):Fn->Fn->Prop
 |func f:FnR μ (.func f) (.func f)
 |yield {l k}:μ l=some k->FnR μ (.yield l) (.yield k.r)
def Bc:Option Nat->Nat
 |none=>0
 |some s=>s+1
theorem E6{a b:Option Nat}(h:Bc a=Bc b):a=b:=by
 cases a<;>cases b<;>simp[Bc]at h⊢
 exact h
inductive VR (μ:Mu):Value->Value->Prop
 |bool b:VR μ (.bool b) (.bool b)
 |int k n:VR μ (.int k n) (.int k n)
 |float k n:VR μ (.float k n) (.float k n)
 |complex k n m:VR μ (.complex k n m) (.complex k n m)
 |string s:VR μ (.string s) (.string s)
 |Le:VR μ (.pointer none) (.pointer none)
 |ptr {b o k}:μ b=some k->VR μ (.pointer (some ⟨b,o,none⟩)) (.pointer (some ⟨k.r,k.d+o,none⟩))
 |iN l c:VR μ (.slice none l c) (.slice none l c)
 |slice {b o l c k}:μ b=some k->c<UNK->l<=c->VR μ (.slice (some ⟨b,o,none⟩) l c) (.slice (some ⟨k.r,k.d+o,none⟩) l c)
 |eO {b o l c k}:μ b=some k->k.d+o+c*k.sz=k.e->0<k.sz->l<=c->VR μ (.slice (some ⟨b,o,none⟩) l UNK) (.slice (some ⟨k.r,k.d+o,none⟩) l c)
 |jY {b o:Nat} (s:Option Nat):VR μ (.slice (some ⟨b,o,some (Bc s)⟩) 0 0) (.slice (some ⟨b,o,s⟩) 0 0)
 |KF:VR μ (.map none) (.map none)
 |map {b k}:μ b=some k->VR μ (.map (some b)) (.map (some k.r))
 |C5:VR μ (.chan none) (.chan none)
 |func {f f':Fn} {a a' c c':Array Value}:FnR μ f f'→a.toList.length=a'.toList.length->(∀i,i<a.toList.length->VR μ (gv a.toList i) (gv a'.toList i))→
  c.toList.length=c'.toList.length->(∀i,i<c.toList.length->VR μ (gv c.toList i) (gv c'.toList i))->VR μ (.func f a c) (.func f' a' c')
 |nilFunc:VR μ .nilFunc .nilFunc
 |nilIface:VR μ .nilIface .nilIface
 |iface {t v v'}:VR μ v v'→VR μ (.iface t v) (.iface t v')
 |agg {c c':Array Value}:c.toList.length=c'.toList.length->(∀i,i<c.toList.length->VR μ (gv c.toList i) (gv c'.toList i))->VR μ (.agg c) (.agg c')
 |tuple {c c':Array Value}:c.toList.length=c'.toList.length->(∀i,i<c.toList.length->VR μ (gv c.toList i) (gv c'.toList i))->VR μ (.tuple c) (.tuple c')
inductive LR (μ:Mu):List Value->List Value->Prop
 |nil:LR μ [] []
 |cons {x y xs ys}:VR μ x y->LR μ xs ys->LR μ (x::xs) (y::ys)
theorem LR.length{μ}{a b}(h:LR μ a b):a.length=b.length:=by
 induction h with
 |nil=>rfl
 |cons _ _ ih=>simp[ih]
theorem LR.gv{μ}{a b}(h:LR μ a b):∀i,i<a.length->VR μ (gv a i) (gv b i):=by
 induction h with
 |nil=>intro i hi;simp at hi
 |cons h1 _ ih=>
  intro i hi;cases i with
  |zero=>exact h1
  |succ i=>exact ih i (by simpa using hi)
theorem LR.wu{μ}:∀{a b:List Value},a.length=b.length->(∀i,i<a.length->VR μ (A.gv a i) (A.gv b i))->LR μ a b
 |[],[],_,_=> .nil
 |[],_::_,h,_=>by simp at h
 |_::_,[],h,_=>by simp at h
 |x::xs,y::ys,h,hv=> .cons (hv 0 (by simp)) (LR.wu (by simpa using h) λi hi=>hv (i+1) (by simpa using hi))
theorem LR.tJ{μ}{x}(h:LR μ [] x):x=[]:=by cases h;rfl
theorem VR.DY{μ}{c c':Array Value}(h:LR μ c.toList c'.toList):VR μ (.agg c) (.agg c'):= .agg h.length h.gv
theorem VR.jZ{μ}{c c':Array Value}(h:LR μ c.toList c'.toList):VR μ (.tuple c) (.tuple c'):= .tuple h.length h.gv
theorem VR.GH{μ}{f f':Fn}{a a' c c':Array Value}(hf:FnR μ f f')(h:LR μ a.toList a'.toList)(h':LR μ c.toList c'.toList):VR μ (.func f a c) (.func f' a' c'):=
 .func hf h.length h.gv h'.length h'.gv
theorem VR.oK{μ}{c:Array Value}{v}(h:VR μ (.agg c) v):∃c',v= .agg c'∧LR μ c.toList c'.toList:=by
 cases h with
 |agg h1 h2=>exact⟨_,rfl, .wu h1 h2⟩
theorem VR.wW{μ}{c:Array Value}{v}(h:VR μ (.tuple c) v):∃c',v= .tuple c'∧LR μ c.toList c'.toList:=by
 cases h with
 |tuple h1 h2=>exact⟨_,rfl, .wu h1 h2⟩
theorem VR.nP{μ}{f:Fn}{a c:Array Value}{v}(h:VR μ (.func f a c) v):∃f' a' c',v= .func f' a' c'∧FnR μ f f'∧LR μ a.toList a'.toList/\LR μ c.toList c'.toList:=by
 cases h with
 |func hf h1 h2 h3 h4=>exact⟨_,_,_,rfl,hf, .wu h1 h2, .wu h3 h4⟩
theorem FnR.mono{μ μ':Mu}(hm:∀b k,μ b=some k->μ' b=some k){f f'}(h:FnR μ f f'):FnR μ' f f':=by
 cases h with
 |func f=>exact .func f
 |yield h=>exact .yield (hm _ _ h)
theorem VR.mono{μ μ':Mu}(hm:∀b k,μ b=some k->μ' b=some k){v v'}(h:VR μ v v'):VR μ' v v':=by
 induction h with
 |bool b=>exact .bool b
 |int k n=>exact .int k n
 |float k n=>exact .float k n
 |complex k n m=>exact .complex k n m
 |string s=>exact .string s
 |Le=>exact .Le
 |ptr h=>exact .ptr (hm _ _ h)
 |iN l c=>exact .iN l c
 |slice h hc hl=>exact .slice (hm _ _ h) hc hl
 |eO h h1 h2 h3=>exact .eO (hm _ _ h) h1 h2 h3
 |jY s=>exact .jY s
 |KF=>exact .KF
 |map h=>exact .map (hm _ _ h)
 |C5=>exact .C5
 |func hf h1 _ h3 _ i1 i2=>exact .func (hf.mono hm) h1 i1 h3 i2
 |nilFunc=>exact .nilFunc
 |nilIface=>exact .nilIface
 |iface _ ih=>exact .iface ih
 |agg h1 _ ih=>exact .agg h1 ih
 |tuple h1 _ ih=>exact .tuple h1 ih
theorem LR.mono{μ μ':Mu}(hm:∀b k,μ b=some k->μ' b=some k){v v'}(h:LR μ v v'):LR μ' v v':=by
 induction h with
 |nil=>exact .nil
 |cons h1 _ ih=>exact .cons (h1.mono hm) ih
theorem FnR.inj{μ μ':Mu}(hm:∀b k,μ b=some k->μ' b=some k){f x y}(h:FnR μ f x)(h':FnR μ' f y):x=y:=by
 cases h with
 |func f=>cases h';rfl
 |yield h=>cases h' with|yield h'=>rw[hm _ _ h]at h';cases h';rfl
theorem uv:∀{a b:List Value},a.length=b.length->(∀i,i<a.length->gv a i=gv b i)->a=b
 |[],[],_,_=>rfl
 |[],_::_,h,_=>by simp at h
 |_::_,[],h,_=>by simp at h
 |x::xs,y::ys,h,hv=>by
  have h0:x=y:=hv 0 (by simp);rw[h0,uv (a:=xs) (b:=ys) (by simpa using h) λi hi=>hv (i+1) (by simpa using hi)]
theorem dO{a b:Array Value}(h:a.toList=b.toList):a=b:=by
 cases a;cases b;simp at h;rw[h]
theorem VR.inj{μ μ':Mu}(hm:∀b k,μ b=some k->μ' b=some k){v x y}(h:VR μ v x)(h':VR μ' v y):x=y:=by
 induction h generalizing y with
 |bool b=>cases h';rfl
 |int k n=>cases h';rfl
 |float k n=>cases h';rfl
 |complex k n m=>cases h';rfl
 |string s=>cases h';rfl
 |Le=>cases h';rfl
 |ptr h=>cases h' with|ptr h'=>rw[hm _ _ h]at h';cases h';rfl
 |iN l c=>cases h';rfl
 |slice h hc hl=>
  cases h' with
  |slice h' _ _=>rw[hm _ _ h]at h';cases h';rfl
  |eO _ _ _ _=>exact absurd hc (Nat.lt_irrefl _)
 |eO h h1 h2 h3=>
  cases h' with
  |slice _ hc _=>exact absurd hc (Nat.lt_irrefl _)
  |eO h' g1 g2 g3=>
   rw[hm _ _ h]at h';cases h';have:=Nat.eq_of_mul_eq_mul_right h2 (Nat.add_left_cancel (h1.trans g1.symm));rw[this]
 |jY s=>
  generalize hs:Bc s=t at h';cases h' with
  |jY s'=>rw[E6 hs]
 |KF=>cases h';rfl
 |map h=>cases h' with|map h'=>rw[hm _ _ h]at h';cases h';rfl
 |C5=>cases h';rfl
 |func hf h1 _ h3 _ i1 i2=>
  cases h' with
  |func hf' g1 g2 g3 g4=>
   rw[hf.inj hm hf',dO (uv (h1.symm.trans g1) λi hi=>i1 i (h1▸hi) (g2 i (h1▸hi))),dO (uv (h3.symm.trans g3) λi hi=>i2 i (h3▸hi) (g4 i (h3▸hi)))]
 |nilFunc=>cases h';rfl
 |nilIface=>cases h';rfl
 |iface _ ih=>cases h' with|iface h'=>rw[ih h']
 |agg h1 _ ih=>cases h' with|agg g1 g2=>rw[dO (uv (h1.symm.trans g1) λi hi=>ih i (h1▸hi) (g2 i (h1▸hi)))]
 |tuple h1 _ ih=>cases h' with|tuple g1 g2=>rw[dO (uv (h1.symm.trans g1) λi hi=>ih i (h1▸hi) (g2 i (h1▸hi)))]
theorem VR.ji{μ}:∀{v:Value},ji v=true->VR μ v v/\∀x,VR μ v x->x=v:=by
 intro v h;cases v with
 |bool b=>exact⟨.bool b,λx h=>by cases h;rfl⟩
 |int k n=>exact⟨.int k n,λx h=>by cases h;rfl⟩
 |float k n=>exact⟨.float k n,λx h=>by cases h;rfl⟩
 |complex k n m=>exact⟨.complex k n m,λx h=>by cases h;rfl⟩
 |string s=>exact⟨.string s,λx h=>by cases h;rfl⟩
 |pointer a=>cases a with
  |none=>exact⟨.Le,λx h=>by cases h;rfl⟩
  |some a=>simp[A.ji]at h
 |slice a l c=>cases a with
  |none=>exact⟨.iN l c,λx h=>by cases h;rfl⟩
  |some a=>simp[A.ji]at h
 |map r=>cases r with
  |none=>exact⟨.KF,λx h=>by cases h;rfl⟩
  |some a=>simp[A.ji]at h
 |chan r=>cases r with
  |none=>exact⟨.C5,λx h=>by cases h;rfl⟩
  |some a=>simp[A.ji]at h
 |func f a c=>
  cases f<;>simp[A.ji]at h
  rename_i f;obtain⟨h1,h2⟩:=h;subst h1 h2;refine⟨.GH (.func f) .nil .nil,λx h=> ?_⟩;obtain⟨f',a',c',rfl,hf,h1,h2⟩:=h.nP;cases hf;have e1:a'= #[]:=dO (LR.tJ h1);have e2:c'= #[]:=dO (LR.tJ h2);rw[e1,e2]
 |nilFunc=>exact⟨.nilFunc,λx h=>by cases h;rfl⟩
 |nilIface=>exact⟨.nilIface,λx h=>by cases h;rfl⟩
 |iface t v=>simp[A.ji]at h
 |agg c=>simp[A.ji]at h
 |tuple c=>simp[A.ji]at h
theorem VR.jV{μ}{v:Value}(h:jV v=true):VR μ v v/\∀x,VR μ v x->x=v:=by
 cases v with
 |iface t v=>
  have:=VR.ji (μ:=μ) (v:=v) (by simpa[A.jV]using h);exact⟨.iface this.1,λx h=>by cases h with|iface h=>rw[this.2 _ h]⟩
 |_=>exact VR.ji (by simpa[A.jV]using h)
theorem LR.cU{μ}:∀{l:List Value},cU l=true->LR μ l l/\∀x,LR μ l x->x=l
 |[],_=>⟨.nil,λx h=>by cases h;rfl⟩
 |v::l,h=>by
  simp only[A.cU,cond_eq_ite]at h;split at h
  ·rename_i h1;have a:=VR.jV (μ:=μ) h1;have b:=LR.cU (μ:=μ) h;exact⟨.cons a.1 b.1,λx h=>by cases h with|cons h1 h2=>rw[a.2 _ h1,b.2 _ h2]⟩
  ·simp at h
theorem VR.flat{μ}{v:Value}(h:flat v=true):VR μ v v/\∀x,VR μ v x->x=v:=by
 have agg:∀c:Array Value,A.cU c.toList=true->VR μ (.agg c) (.agg c)/\∀x,VR μ (.agg c) x->x= .agg c:=λc h=>by
  have a:=LR.cU (μ:=μ) h;refine⟨.DY a.1,λx h=> ?_⟩;obtain⟨c',rfl,h'⟩:=h.oK;rw[dO (a.2 _ h')]
 cases v with
 |agg c=>exact agg c (by simpa[A.flat]using h)
 |iface t v=>
  cases v with
  |agg c=>
   have:=agg c (by simpa[A.flat]using h);exact⟨.iface this.1,λx h=>by cases h with|iface h=>rw[this.2 _ h]⟩
  |_=>exact VR.jV (by simpa[A.flat]using h)
 |_=>exact VR.jV (by simpa[A.flat]using h)
theorem LR.iP{μ}:∀{l:List Value},iP l=true->LR μ l l/\∀x,LR μ l x->x=l
 |[],_=>⟨.nil,λx h=>by cases h;rfl⟩
 |v::l,h=>by
  simp only[A.iP,cond_eq_ite]at h;split at h
  ·rename_i h1;have a:=VR.flat (μ:=μ) h1;have b:=LR.iP (μ:=μ) h;exact⟨.cons a.1 b.1,λx h=>by cases h with|cons h1 h2=>rw[a.2 _ h1,b.2 _ h2]⟩
  ·simp at h
theorem VR.cT{μ}{v:Value}(h:cT v=true):VR μ v v/\∀x,VR μ v x->x=v:=by
 cases v with
 |tuple c=>
  have a:=LR.iP (μ:=μ) (l:=c.toList) (by simpa[A.cT]using h);refine⟨.jZ a.1,λx h=> ?_⟩;obtain⟨c',rfl,h'⟩:=h.wW;rw[dO (a.2 _ h')]
 |_=>exact VR.flat (by simpa[A.cT]using h)
def cm(μ:Mu)(e:Env)(tmps:Array Value):Prop:=∀t v,geT e t=some v->∃v',tmps[t]? =some v'∧VR μ v v'
def fP(P:Program)(nt:Nat)(c:Code)(ac:aQ):Prop:=∃ks ks',comp P nt c ks=some (ac,ks')
inductive MR (μ:Mu):List (Value×Value)->List MapEntry->Prop
 |nil:MR μ [] []
 |cons {k v es m ms}:VR μ k m.key->VR μ v m.val->MR μ es ms->MR μ ((k,v)::es) (m::ms)
def oU(l:List MapEntry)(cl:Nat):Prop:=(l.map (·.born)).Nodup/\∀n∈l.map (·.born),n<cl
def JR:br->Option Code->Prop
 | .normal,j=>j=none
 | .exit i,j=>j=some (.exit i)
 | .ret,j=>j=some .ret
 | .panic _,_=>False
def StR(st:Nat)(ic:br)(L:Loop):Prop:=
 (st=0/\L.state= .ready/\L.pending=none/\ic= .normal)∨(st=1/\L.state= .busy)∨(st=2/\L.state= .done/\JR ic L.pending)
def bO.live:bO->Bool
 | .dead=>false
 | .cells vs own _=>own|| !vs.isEmpty
 |_=>true
def bO.ro:bO->Bool
 | .cells _ false _=>true
 | .tw _=>true
 |_=>false
def OR(P:Program)(μ:Mu)(w:World)(b:Nat):bO->Prop
 | .cells vs own sz=>∀k,μ b=some k->k.sz=sz/\∃c el fz,w.heap[k.r]? =some (.cells c el fz)/\k.d+vs.length<=k.e/\k.e<=c.size∧
  (∀i,i<vs.length->∃v',c[k.d+i]? =some v'∧VR μ (gv vs i) v')/\(own=true->k.d=0/\k.e=c.size/\∀j,j<c.size->¬ (fz.1<=j/\j<fz.2))
 | .map es=>∀k,μ b=some k->∃ents clock,w.heap[k.r]? =some (.map ents clock)/\MR μ es ents.toList/\oU ents.toList clock
 | .tw es=>∀k,μ b=some k->∃ents clock,w.heap[k.r]? =some (.map ents clock)/\MR μ es ents.toList/\oU ents.toList clock
 | .loop e ps asg body st ic=>∀k,μ b=some k->∃L,w.heap[k.r]? =some (.loop L)/\cm μ e L.tmps/\L.params.toList=ps/\(∃nt,nt<=L.tmps.size/\(∀t∈ps,t<nt)/\fP P nt L.assign asg/\fP P nt L.body body)/\StR st ic L
 | .j7 s pos=>∀k,μ b=some k->k.d=0/\w.heap[k.r]? =some (.stringIter s pos)
 | .dead=>True
def bO.len:bO->Nat
 | .cells vs _ _=>vs.length
 |_=>0
def CJ(w:World)(o:bO)(k:Blk):Prop:=o.ro=true->o.live=true->∀c t fz,w.heap[k.r]? =some (.cells c t fz)->o.len=c.size
theorem CJ.get{w w':World}{o:bO}{k:Blk}(x:CJ w o k)(h:w'.heap[k.r]? =w.heap[k.r]?):CJ w' o k:=λh1 h2 c t fz hc=>x h1 h2 c t fz (h▸hc)
structure R (P:Program) (μ:Mu) (h:Heap) (w:World):Prop where
 big:P.globals.size<=h.next
 j8:∀g o,g<P.globals.size->h.get g=some o->∃k,μ g=some k/\k.r=g/\k.d=0/\CJ w o k
 obj:∀b o,h.get b=some o->OR P μ w b o
 lt:∀b o,h.get b=some o->b<h.next
 dom:∀b k,μ b=some k->b<h.next/\k.r<w.heap.size
 jP:∀b b' o o' k k',b≠b'→h.get b=some o->h.get b'=some o'→o.live=true->o'.live=true->μ b=some k->μ b'=some k'→k.r=k'.r->o.ro=true/\o'.ro=true
def Wr(μ:Mu)(h:Heap)(r:Nat):Prop:=∃b o k,h.get b=some o/\o.live=true/\o.ro=false/\μ b=some k/\k.r=r
structure gF (L L':Loop):Prop where
 fn:L'.fn=L.fn
 tmps:L'.tmps=L.tmps
 params:L'.params=L.params
 assign:L'.assign=L.assign
 body:L'.body=L.body
 defers:L'.defers=L.defers
theorem gF.refl(L:Loop):gF L L:=⟨rfl,rfl,rfl,rfl,rfl,rfl⟩
theorem gF.trans{a b c:Loop}(h:gF a b)(g:gF b c):gF a c:=
 ⟨g.fn.trans h.fn,g.tmps.trans h.tmps,g.params.trans h.params,g.assign.trans h.assign,g.body.trans h.body,g.defers.trans h.defers⟩
structure Same (w w':World):Prop where
 os:w'.os=w.os
 tape:w'.tape=w.tape
 out:w'.output=w.output
 drawn:w.drawn<=w'.drawn
theorem Same.refl(w:World):Same w w:=⟨rfl,rfl,rfl,Nat.le_refl _⟩
theorem Same.trans{a b c:World}(h:Same a b)(g:Same b c):Same a c:=⟨g.os.trans h.os,g.tape.trans h.tape,g.out.trans h.out,Nat.le_trans h.drawn g.drawn⟩
structure St (μ:Mu) (h:Heap) (w:World) (μ':Mu) (h':Heap) (w':World):Prop where
 ext:∀b,b<h.next->μ' b=μ b
 le:w.heap.size<=w'.heap.size
 keep:∀r,r<w.heap.size->¬Wr μ h r->w'.heap[r]? =w.heap[r]?
 wr:∀r,r<w.heap.size->Wr μ' h' r->Wr μ h r
 loops:∀(r:Nat) (L:Loop),w.heap[r]? =some (Obj.loop L)->∃L':Loop,w'.heap[r]? =some (Obj.loop L')/\gF L L'
 same:Same w w'
def cW(a:Nat):Nat->List Nat
 |0=>[]
 |n+1=>(a+n)::cW a n
structure AS (base:Nat) (h h':Heap):Prop where
 next:h.next<=h'.next
 keys:h'.b8.map (·.1)=cW h.next (h'.next-h.next)++h.b8.map (·.1)
 mono:∀b,b<base->fB h.log b=true->fB h'.log b=true
 same:∀b,b<base->b<h.next->fB h'.log b=false->h'.get b=h.get b
theorem mI(a m n:Nat):cW a (m+n)=cW (a+m) n++cW a m:=by
 induction n with
 |zero=>rfl
 |succ n ih=>
  rw[←Nat.add_assoc];simp only[cW,ih,List.cons_append,List.cons.injEq,and_true];omega
theorem AS.refl(base:Nat)(h:Heap):AS base h h:=⟨Nat.le_refl _,by simp[cW],λ_ _ h=>h,λ_ _ _ _=>rfl⟩
theorem AS.trans{base:Nat}{h h1 h2:Heap}(a:AS base h h1)(b:AS base h1 h2):AS base h h2 where
 next:=Nat.le_trans a.next b.next
 keys:=by
  rw[b.keys,a.keys,←List.append_assoc];have:h2.next-h.next=(h1.next-h.next)+(h2.next-h1.next):=by have:=a.next;have:=b.next;omega
  rw[this,mI,show h.next+(h1.next-h.next)=h1.next by have:=a.next;omega]
 mono:=λx hx h=>b.mono x hx (a.mono x hx h)
 same:=λx hx hn hl=>by
  have h1:fB h1.log x=false:=by
   cases e:fB h1.log x with
   |false=>rfl
   |true=>rw[b.mono x hx e]at hl;cases hl
  rw[b.same x hx (Nat.lt_of_lt_of_le hn a.next) hl,a.same x hx hn h1]
theorem St.refl(μ:Mu)(h:Heap)(w:World):St μ h w μ h w:=⟨λ_ _=>rfl,Nat.le_refl _,λ_ _ _=>rfl,λ_ _ h=>h,λ_ L h=>⟨L,h, .refl L⟩, .refl w⟩
theorem St.trans{μ h w μ1 h1 w1 μ2 h2 w2}(a:St μ h w μ1 h1 w1)(b:St μ1 h1 w1 μ2 h2 w2)(hn:h.next<=h1.next):St μ h w μ2 h2 w2 where
 ext:=λx hx=>(b.ext x (Nat.lt_of_lt_of_le hx hn)).trans (a.ext x hx)
 le:=Nat.le_trans a.le b.le
 keep:=λr hr hw=>(b.keep r (Nat.lt_of_lt_of_le hr a.le) λh=>hw (a.wr r hr h)).trans (a.keep r hr hw)
 wr:=λr hr h=>a.wr r hr (b.wr r (Nat.lt_of_lt_of_le hr a.le) h)
 loops:=λr L h=>let⟨L1,h1,l1⟩:=a.loops r L h;let⟨L2,h2,l2⟩:=b.loops r L1 h1;⟨L2,h2,l1.trans l2⟩
 same:=a.same.trans b.same
theorem St.mono{P μ h w μ' h' w'}(hR:R P μ h w)(s:St μ h w μ' h' w'):∀b k,μ b=some k->μ' b=some k:=
 λb k hb=>by rw[s.ext b (hR.dom b k hb).1];exact hb
theorem cm.mono{μ μ':Mu}(hm:∀b k,μ b=some k->μ' b=some k){e t}(h:cm μ e t):cm μ' e t:=
 λx v hv=>let⟨v',h1,h2⟩:=h x v hv;⟨v',h1,h2.mono hm⟩
theorem MR.mono{μ μ':Mu}(hm:∀b k,μ b=some k->μ' b=some k){e t}(h:MR μ e t):MR μ' e t:=by
 induction h with
 |nil=>exact .nil
 |cons h1 h2 _ ih=>exact .cons (h1.mono hm) (h2.mono hm) ih
theorem OR.mono{P}{μ μ':Mu}{w w':World}{b:Nat}{o:bO}(hm:∀b k,μ b=some k->μ' b=some k)(hb:μ' b=μ b)
 (hw:∀k,μ b=some k->w'.heap[k.r]? =w.heap[k.r]?)(h:OR P μ w b o):OR P μ' w' b o:=by
 cases o with
 |cells vs own sz=>
  intro k hk;rw[hb]at hk;obtain⟨h0,c,el,fz,h1,h2,h3,h4,h5⟩:=h k hk;exact⟨h0,c,el,fz,(hw k hk).trans h1,h2,h3,λi hi=>let⟨v',a,b⟩:=h4 i hi;⟨v',a,b.mono hm⟩,h5⟩
 |map es=>
  intro k hk;rw[hb]at hk;obtain⟨ents,clock,h1,h2,h3⟩:=h k hk;exact⟨ents,clock,(hw k hk).trans h1,h2.mono hm,h3⟩
 |tw es=>
  intro k hk;rw[hb]at hk;obtain⟨ents,clock,h1,h2,h3⟩:=h k hk;exact⟨ents,clock,(hw k hk).trans h1,h2.mono hm,h3⟩
 |loop e ps asg body st ic=>
  intro k hk;rw[hb]at hk;obtain⟨L,h1,h2,h3⟩:=h k hk;exact⟨L,(hw k hk).trans h1,h2.mono hm,h3⟩
 |j7 s pos=>
  intro k hk;rw[hb]at hk;exact⟨(h k hk).1,(hw k hk).trans (h k hk).2⟩
 |dead=>trivial
theorem rV(l:List (Nat×bO))(b:Nat)(o:bO)(x:Nat):eZ (iA l b o) x=if x=b then(eZ l b).map (λ_=>o)else eZ l x:=by
 induction l with
 |nil=>simp[iA,eZ]
 |cons p l ih=>
  obtain⟨k,q⟩:=p;simp only[iA,eZ,cond_eq_ite,Nat.beq_eq];by_cases hk:k=b
  ·subst hk;by_cases hx:x=k
   ·subst hx;simp[eZ]
   ·have:¬k=x:=λh=>hx h.symm;simp[eZ,hx,cond_eq_ite,this]
  ·by_cases hx:x=b
   ·subst hx;simp[eZ,hk,cond_eq_ite,ih]
   ·by_cases hkx:k=x
    ·subst hkx;simp[eZ,hk,cond_eq_ite]
    ·simp[eZ,hk,hkx,hx,cond_eq_ite,ih]
theorem kC(l:List (Nat×bO))(b:Nat)(o:bO):(iA l b o).map (·.1)=l.map (·.1):=by
 induction l with
 |nil=>rfl
 |cons p l ih=>
  obtain⟨k,q⟩:=p;simp only[iA,cond_eq_ite];split<;>simp[ih]
theorem Heap.di(h:Heap)(o:bO)(x:Nat):(h.push o).get x=if x=h.next then some o else h.get x:=by
 simp only[Heap.push,Heap.get,eZ,cond_eq_ite,Nat.beq_eq];by_cases hx:h.next=x
 ·simp[hx]
 ·have:¬x=h.next:=λh=>hx h.symm
  simp[hx,this]
theorem Heap.kK(h:Heap)(base b:Nat)(o:bO)(x:Nat):(h.wr base b o).get x=if x=b then(h.get b).map (λ_=>o)else h.get x:=
 rV _ _ _ _
theorem kE(l:List Nat)(a b:Nat):fB (a::l) b=(decide (a=b)||fB l b):=by
 simp only[fB,cond_eq_ite,Nat.beq_eq];by_cases h:a=b<;>simp[h]
theorem Heap.BL(h:Heap)(base b:Nat)(o:bO)(x:Nat):fB (h.wr base b o).log x=(fB h.log x||(decide (b<base)&&decide (b=x))):=by
 have hb:Nat.blt b base=decide (b<base):=by
  rw[Bool.eq_iff_iff];simp[Nat.blt_eq]
 simp only[Heap.wr,cond_eq_ite,hb];by_cases h1:b<base
 ·by_cases h2:fB h.log b=true
  ·by_cases h3:b=x
   ·subst h3;simp[h1,h2]
   ·simp[h1,h2,h3]
  ·simp[h1,h2,kE,Bool.or_comm]
 ·simp[h1]
theorem AS.push(base:Nat)(h:Heap)(o:bO):AS base h (h.push o)where
 next:=Nat.le_succ _
 keys:=by simp[Heap.push,cW,Nat.add_sub_cancel_left]
 mono:=λ_ _ h=>h
 same:=λb _ hb _=>by rw[Heap.di,if_neg (by omega)]
theorem AS.wr(base:Nat)(h:Heap)(b:Nat)(o:bO):AS base h (h.wr base b o)where
 next:=Nat.le_refl _
 keys:=by simp[Heap.wr,kC,cW]
 mono:=λx _ hx=>by rw[Heap.BL,hx];rfl
 same:=λx hx _ hl=>by
  rw[Heap.BL]at hl;rw[Heap.kK,if_neg];intro e;subst e;simp[hx]at hl
def upd(μ:Mu)(b:Nat)(k:Blk):Mu:=λx=>if x=b then some k else μ x
theorem size_push{w w':World}{obj:Obj}(hw:w'.heap=w.heap.push obj):w'.heap.size=w.heap.size+1:=by rw[hw];simp
theorem eW{w w':World}{obj:Obj}(hw:w'.heap=w.heap.push obj)(r:Nat)(hr:r<w.heap.size):w'.heap[r]? =w.heap[r]? :=by
 rw[hw,Array.getElem?_push];rw[if_neg (by omega)]
theorem R.alloc{P μ h w}(hR:R P μ h w){w':World}{obj:Obj}{o:bO}{k:Blk}(hw:w'.heap=w.heap.push obj)(hk:k.r=w.heap.size)
 (ho:OR P (upd μ h.next k) w' h.next o)(hsm:Same w w':=by exact⟨rfl,rfl,rfl,by first|exact Nat.le_refl _|exact Nat.le_add_right _ _⟩):R P (upd μ h.next k) (h.push o) w'∧St μ h w (upd μ h.next k) (h.push o) w':=by
 have hno:∀k',μ h.next=some k'→False:=λk' h'=>Nat.lt_irrefl _ (hR.dom _ _ h').1
 have hm:∀b k',μ b=some k'→upd μ h.next k b=some k':=λb k' hb=>by
  unfold upd;rw[if_neg];exact hb;intro e;subst e;exact hno _ hb
 have hs:=size_push hw;have hbig:=hR.big;refine⟨⟨Nat.le_succ_of_le hbig,λg q hg hq=> ?_,λb o' hb=> ?_,λb o' hb=> ?_,λb k' hb=> ?_,λb b' o1 o2 k1 k2 hne hb hb' l1 l2 m1 m2 hr=> ?_⟩,⟨λb hb=> ?_,by omega,λr hr _=>eW hw r hr,λr hr hwr=> ?_,λr L hl=>⟨L,(eW hw r (Array.getElem?_eq_some_iff.1 hl).1).trans hl, .refl L⟩,hsm⟩⟩
 ·rw[Heap.di,if_neg (by omega)]at hq;obtain⟨k1,g1,g2,g3,gx⟩:=hR.j8 g q hg hq;exact⟨k1,hm _ _ g1,g2,g3,gx.get (eW hw _ (hR.dom _ _ g1).2)⟩
 ·rw[Heap.di]at hb;split at hb
  ·rename_i e;subst e;cases hb;exact ho
  ·rename_i e;refine OR.mono hm (by unfold upd;rw[if_neg e]) (λk' hk'=>eW hw _ (hR.dom _ _ hk').2) (hR.obj b o' hb)
 ·rw[Heap.di]at hb;split at hb
  ·rename_i e;subst e;exact Nat.lt_succ_self _
  ·exact Nat.lt_succ_of_lt (hR.lt b o' hb)
 ·unfold upd at hb;split at hb
  ·rename_i e;subst e;cases hb;exact⟨Nat.lt_succ_self _,by omega⟩
  ·have:=hR.dom b k' hb;exact⟨Nat.lt_succ_of_lt this.1,by omega⟩
 ·rw[Heap.di]at hb hb';unfold upd at m1 m2;by_cases e1:b=h.next
  ·rw[if_pos e1]at m1;cases m1;by_cases e2:b'=h.next
   ·exact absurd (e1.trans e2.symm) hne
   ·rw[if_neg e2]at m2;have:=(hR.dom _ _ m2).2;omega
  ·rw[if_neg e1]at m1 hb;by_cases e2:b'=h.next
   ·rw[if_pos e2]at m2;cases m2;have:=(hR.dom _ _ m1).2;omega
   ·rw[if_neg e2]at m2 hb';exact hR.jP b b' o1 o2 k1 k2 hne hb hb' l1 l2 m1 m2 hr
 ·unfold upd;rw[if_neg (by omega)]
 ·obtain⟨b,o1,k1,hb,l1,r1,m1,e1⟩:=hwr;rw[Heap.di]at hb;unfold upd at m1;by_cases e:b=h.next
  ·rw[if_pos e]at m1;cases m1;omega
  ·rw[if_neg e]at m1 hb;exact⟨b,o1,k1,hb,l1,r1,m1,e1⟩
theorem R.T6{P μ h w}(hR:R P μ h w)(o:bO):R P μ (h.push o) w/\St μ h w μ (h.push o) w:=by
 have hno:∀k',μ h.next=some k'→False:=λk' h'=>Nat.lt_irrefl _ (hR.dom _ _ h').1
 have hbig:=hR.big;refine⟨⟨Nat.le_succ_of_le hbig,λg q hg hq=>by rw[Heap.di,if_neg (by omega)]at hq;exact hR.j8 g q hg hq,λb o' hb=> ?_,λb o' hb=> ?_,λb k' hb=>⟨Nat.lt_succ_of_lt (hR.dom b k' hb).1,(hR.dom b k' hb).2⟩,λb b' o1 o2 k1 k2 hne hb hb' l1 l2 m1 m2 hr=> ?_⟩,⟨λ_ _=>rfl,Nat.le_refl _,λ_ _ _=>rfl,λr hr hwr=> ?_,λ_ L h=>⟨L,h, .refl L⟩, .refl w⟩⟩
 ·rw[Heap.di]at hb;split at hb
  ·rename_i e;subst e;cases o'<;>first|trivial|exact λk hk=>(hno k hk).elim
  ·exact hR.obj b o' hb
 ·rw[Heap.di]at hb;split at hb
  ·rename_i e;subst e;exact Nat.lt_succ_self _
  ·exact Nat.lt_succ_of_lt (hR.lt b o' hb)
 ·rw[Heap.di]at hb hb';split at hb
  ·rename_i e;subst e;exact(hno _ m1).elim
  ·split at hb'
   ·rename_i e;subst e;exact(hno _ m2).elim
   ·exact hR.jP b b' o1 o2 k1 k2 hne hb hb' l1 l2 m1 m2 hr
 ·obtain⟨b,o1,k1,hb,l1,r1,m1,e1⟩:=hwr;rw[Heap.di]at hb;split at hb
  ·rename_i e;subst e;exact(hno _ m1).elim
  ·exact⟨b,o1,k1,hb,l1,r1,m1,e1⟩
structure tU (w w':World) (r:Nat):Prop where
 cells:∀c el fz,w.heap[r]? =some (.cells c el fz)->∃c' el' fz',w'.heap[r]? =some (.cells c' el' fz')/\c.size<=c'.size
 loop:∀L:Loop,w.heap[r]? =some (Obj.loop L)->∃L':Loop,w'.heap[r]? =some (Obj.loop L')/\gF L L'
theorem tU.Ik{w w':World}{r:Nat}(h:∀c el fz,w.heap[r]? ≠some (.cells c el fz))(h':∀L:Loop,w.heap[r]? ≠some (Obj.loop L)):tU w w' r:=⟨λc el fz hc=>(h c el fz hc).elim,λL hl=>(h' L hl).elim⟩
theorem tU.AK{w w':World}{r:Nat}{c0 c':Array Value}{el0 el':TypeId}{fz0 fz':Nat×Nat}(h0:w.heap[r]? =some (.cells c0 el0 fz0))(h1:w'.heap[r]? =some (.cells c' el' fz'))(hs:c0.size<=c'.size):tU w w' r:=
 ⟨λc el fz hc=>by rw[h0]at hc;cases hc;exact⟨c',el',fz',h1,hs⟩,λL hl=>by rw[h0]at hl;cases hl⟩
theorem tU.loops{w w':World}{r0:Nat}(hz:tU w w' r0)(hw:∀r,r≠r0->w'.heap[r]? =w.heap[r]?)(r:Nat)(L:Loop)(hl:w.heap[r]? =some (.loop L)):∃L',w'.heap[r]? =some (.loop L')/\gF L L':=by
 by_cases h:r=r0
 ·subst h;exact hz.loop L hl
 ·exact⟨L,(hw r h).trans hl, .refl L⟩
theorem OR.Qe{P}{μ μ':Mu}{w w':World}{b:Nat}{o:bO}(hl:o.live=false)(hb:∀k,μ' b=some k->μ b=some k)(hw:∀r,w'.heap[r]? =w.heap[r]? ∨tU w w' r)(h:OR P μ w b o):OR P μ' w' b o:=by
 cases o with
 |dead=>trivial
 |cells vs own sz=>
  cases own with
  |true=>cases vs<;>cases hl
  |false=>
   cases vs with
   |cons _ _=>cases hl
   |nil=>
    intro k hk;obtain⟨h0,c,el,fz,h1,h2,h3,_,_⟩:=h k (hb k hk);rcases hw k.r with e|e
    ·exact⟨h0,c,el,fz,e.trans h1,h2,h3,λi hi=>(Nat.not_lt_zero _ hi).elim,λh=>by cases h⟩
    ·obtain⟨c',el',fz',g1,g2⟩:=e.cells c el fz h1;exact⟨h0,c',el',fz',g1,h2,Nat.le_trans h3 g2,λi hi=>(Nat.not_lt_zero _ hi).elim,λh=>by cases h⟩
 |map _=>cases hl
 |tw _=>cases hl
 |loop _ _ _ _ _ _=>cases hl
 |j7 _ _=>cases hl
theorem R.uD{P μ h w}(hR:R P μ h w){b:Nat}{es:List (Value×Value)}{k:Blk}(hb:uD (h.get b)=some es)(hk:μ b=some k):
 ∃ents clock,w.heap[k.r]? =some (.map ents clock)/\MR μ es ents.toList/\oU ents.toList clock:=by
 unfold Go.A.uD at hb;split at hb
 ·rename_i es' he;cases hb;exact hR.obj b _ he k hk
 ·rename_i es' he;cases hb;exact hR.obj b _ he k hk
 ·cases hb
theorem R.write{P μ h w}(hR:R P μ h w){base b:Nat}{o o':bO}{k:Blk}{w':World}(hb:h.get b=some o)(hl:o.live=true)(hro:o.ro=false)(hk:μ b=some k)
 (hs:w'.heap.size=w.heap.size)(hw:∀r,r≠k.r->w'.heap[r]? =w.heap[r]?)(hz:tU w w' k.r)(ho:OR P μ w' b o')(hsm:Same w w':=by exact⟨rfl,rfl,rfl,by first|exact Nat.le_refl _|exact Nat.le_add_right _ _⟩)(hrn:o'.ro=false:=by exact rfl):
 R P μ (h.wr base b o') w'∧St μ h w μ (h.wr base b o') w':=by
 refine⟨⟨hR.big,λg q hg hq=> ?_,λx q hx=> ?_,λx q hx=> ?_,λx k' hx=>⟨(hR.dom x k' hx).1,by rw[hs];exact(hR.dom x k' hx).2⟩,λx x' o1 o2 k1 k2 hne hx hx' l1 l2 m1 m2 hr=> ?_⟩,⟨λ_ _=>rfl,by omega,λr hr hn=> ?_,λr hr hwr=> ?_,λr L hl=>hz.loops hw r L hl,hsm⟩⟩
 ·rw[Heap.kK]at hq;split at hq
  ·rename_i e;subst e;rw[hb]at hq;cases hq;obtain⟨k1,g1,g2,g3,_⟩:=hR.j8 _ o hg hb;exact⟨k1,g1,g2,g3,λh1=>by rw[hrn]at h1;cases h1⟩
  ·rename_i e;obtain⟨k1,g1,g2,g3,gx⟩:=hR.j8 g q hg hq;refine⟨k1,g1,g2,g3,λh1 h2=>gx.get (hw _ λer=> ?_) h1 h2⟩;have:=(hR.jP g b q o k1 k e hq hb h2 hl g1 hk er).2;rw[hro]at this;cases this
 ·rw[Heap.kK]at hx;split at hx
  ·rename_i e;subst e;rw[hb]at hx;cases hx;exact ho
  ·rename_i e;cases hq:q.live with
   |false=>exact OR.Qe hq (λ_ h=>h) (λr=>if he:r=k.r then .inr (he▸hz)else .inl (hw r he)) (hR.obj x q hx)
   |true=>
    refine OR.mono (λ_ _ h=>h) rfl (λk' hk'=>hw _ λer=> ?_) (hR.obj x q hx);have:=(hR.jP x b q o k' k e hx hb hq hl hk' hk er).2;rw[hro]at this;cases this
 ·rw[Heap.kK]at hx;split at hx
  ·rename_i e;subst e;exact hR.lt _ o hb
  ·exact hR.lt x q hx
 ·have conv:∀x q,(h.wr base b o').get x=some q->q.live=true->∃q0,h.get x=some q0/\q0.live=true/\(q0.ro=true->x≠b/\q=q0):=by
   intro x q hx lq;rw[Heap.kK]at hx;split at hx
   ·rename_i e;subst e;exact⟨o,hb,hl,λh=>by rw[hro]at h;cases h⟩
   ·rename_i e;exact⟨q,hx,lq,λ_=>⟨e,rfl⟩⟩
  obtain⟨q1,g1,gl1,c1⟩:=conv x o1 hx l1
  obtain⟨q2,g2,gl2,c2⟩:=conv x' o2 hx' l2
  obtain⟨r1,r2⟩:=hR.jP x x' q1 q2 k1 k2 hne g1 g2 gl1 gl2 m1 m2 hr;exact⟨by rw[(c1 r1).2];exact r1,by rw[(c2 r2).2];exact r2⟩
 ·exact hw r λe=>hn ⟨b,o,k,hb,hl,hro,hk,e.symm⟩
 ·obtain⟨x,q,k1,hx,l1,r1,m1,e1⟩:=hwr;rw[Heap.kK]at hx;split at hx
  ·rename_i e;subst e;exact⟨x,o,k1,hb,hl,hro,m1,e1⟩
  ·exact⟨x,q,k1,hx,l1,r1,m1,e1⟩
theorem R.move{P μ h w}(hR:R P μ h w){base b:Nat}{o o':bO}{k k':Blk}{w':World}(hb:h.get b=some o)(hl:o.live=true)(hro:o.ro=false)(hk:μ b=some k)
 (hs:w'.heap.size=w.heap.size)(hw:∀r,r≠k.r->w'.heap[r]? =w.heap[r]?)(hz:tU w w' k.r)(hkr:k'.r=k.r)(ho:OR P (upd μ h.next k') w' h.next o')(hsm:Same w w':=by exact⟨rfl,rfl,rfl,by first|exact Nat.le_refl _|exact Nat.le_add_right _ _⟩):
 R P (upd μ h.next k') ((h.wr base b .dead).push o') w'∧St μ h w (upd μ h.next k') ((h.wr base b .dead).push o') w':=by
 have hno:∀k',μ h.next=some k'→False:=λk' h'=>Nat.lt_irrefl _ (hR.dom _ _ h').1
 have hbn:b≠h.next:=λe=>Nat.lt_irrefl _ (e▸hR.lt b o hb)
 have hm:∀b k1,μ b=some k1->upd μ h.next k' b=some k1:=λb k1 hb=>by
  unfold upd;rw[if_neg];exact hb;intro e;subst e;exact hno _ hb
 have hn:(h.wr base b .dead).next=h.next:=rfl
 have hg':∀x q,((h.wr base b .dead).push o').get x=some q->(x=h.next/\q=o')∨(x≠h.next/\x=b/\q= .dead)∨(x≠h.next/\x≠b/\h.get x=some q):=by
  intro x q hx;rw[Heap.di,hn]at hx;split at hx
  ·rename_i e;cases hx;exact .inl ⟨e,rfl⟩
  ·rename_i e;rw[Heap.kK]at hx;split at hx
   ·rename_i e';rw[hb]at hx;cases hx;exact .inr (.inl ⟨e,e',rfl⟩)
   ·rename_i e';exact .inr (.inr ⟨e,e',hx⟩)
 have hbig:=hR.big;refine⟨⟨Nat.le_succ_of_le hbig,λg q hg hq=> ?_,λx q hx=> ?_,λx q hx=> ?_,λx k1 hx=> ?_,λx x' o1 o2 k1 k2 hne hx hx' l1 l2 m1 m2 hr=> ?_⟩,⟨λx hx=> ?_,by omega,λr hr hn'=> ?_,λr hr hwr=> ?_,λr L hl=>hz.loops hw r L hl,hsm⟩⟩
 ·rcases hg' g q hq with⟨e,_⟩|⟨_,e,e2⟩|⟨_,e,hq⟩
  ·omega
  ·subst e;obtain⟨k1,g1,g2,g3,_⟩:=hR.j8 _ o hg hb;refine⟨k1,hm _ _ g1,g2,g3,λ_ h2=> ?_⟩;rw[e2]at h2;cases h2
  ·obtain⟨k1,g1,g2,g3,gx⟩:=hR.j8 g q hg hq;refine⟨k1,hm _ _ g1,g2,g3,λh1 h2=>gx.get (hw _ λer=> ?_) h1 h2⟩;have:=(hR.jP g b q o k1 k e hq hb h2 hl g1 hk er).2;rw[hro]at this;cases this
 ·rcases hg' x q hx with⟨e,rfl⟩|⟨_,_,rfl⟩|⟨e1,e2,hx⟩
  ·subst e;exact ho
  ·trivial
  ·cases hq:q.live with
   |false=>exact OR.Qe hq (λk1 h1=>by unfold upd at h1;rw[if_neg e1]at h1;exact h1) (λr=>if he:r=k.r then .inr (he▸hz)else .inl (hw r he)) (hR.obj x q hx)
   |true=>
    refine OR.mono hm (by unfold upd;rw[if_neg e1]) (λk1 hk1=>hw _ λer=> ?_) (hR.obj x q hx);have:=(hR.jP x b q o k1 k e2 hx hb hq hl hk1 hk er).2;rw[hro]at this;cases this
 ·show x<h.next+1
  rcases hg' x q hx with⟨e,rfl⟩|⟨_,e,_⟩|⟨_,_,hx⟩
  ·omega
  ·have:=hR.lt b o hb;omega
  ·have:=hR.lt x q hx;omega
 ·show x<h.next+1/\_
  unfold upd at hx;split at hx
  ·cases hx;have:=(hR.dom b k hk).2;exact⟨by omega,by omega⟩
  ·have:=hR.dom x k1 hx;exact⟨by omega,by omega⟩
 ·have old:∀x q k1,h.get x=some q->x≠b->q.live=true->μ x=some k1->k1.r=k.r->False:=λx q k1 hx e lq mx er=>by
   have:=(hR.jP x b q o k1 k e hx hb lq hl mx hk er).2;rw[hro]at this;cases this
  unfold upd at m1 m2;rcases hg' x o1 hx with⟨e,rfl⟩|⟨_,_,rfl⟩|⟨e1,e2,gx⟩
  ·rw[if_pos e]at m1;cases m1;rcases hg' x' o2 hx' with⟨e',rfl⟩|⟨_,_,rfl⟩|⟨e1',e2',hx'⟩
   ·exact absurd (e.trans e'.symm) hne
   ·cases l2
   ·rw[if_neg e1']at m2;exact(old x' o2 k2 hx' e2' l2 m2 (by omega)).elim
  ·cases l1
  ·rw[if_neg e1]at m1;rcases hg' x' o2 hx' with⟨e',rfl⟩|⟨_,_,rfl⟩|⟨e1',e2',hx'⟩
   ·rw[if_pos e']at m2;cases m2;exact(old x o1 k1 gx e2 l1 m1 (by omega)).elim
   ·cases l2
   ·rw[if_neg e1']at m2;exact hR.jP x x' o1 o2 k1 k2 hne gx hx' l1 l2 m1 m2 hr
 ·unfold upd;rw[if_neg (by omega)]
 ·exact hw r λe=>hn' ⟨b,o,k,hb,hl,hro,hk,e.symm⟩
 ·obtain⟨x,q,k1,hx,l1,r1,m1,e1⟩:=hwr;unfold upd at m1;rcases hg' x q hx with⟨e,rfl⟩|⟨_,_,rfl⟩|⟨e1',e2',hx⟩
  ·rw[if_pos e]at m1;cases m1;exact⟨b,o,k,hb,hl,hro,hk,by omega⟩
  ·cases l1
  ·rw[if_neg e1']at m1;exact⟨x,q,k1,hx,l1,r1,m1,e1⟩
theorem R.world{P μ h w}(hR:R P μ h w){w':World}(hw:w'.heap=w.heap)(hsm:Same w w':=by exact⟨rfl,rfl,rfl,by first|exact Nat.le_refl _|exact Nat.le_add_right _ _⟩):R P μ h w'∧St μ h w μ h w':=
 ⟨⟨hR.big,λg o h1 h2=>let⟨k,a,b,c,x⟩:=hR.j8 g o h1 h2;⟨k,a,b,c,x.get (by rw[hw])⟩,λb o hb=>OR.mono (λ_ _ h=>h) rfl (λ_ _=>by rw[hw]) (hR.obj b o hb),hR.lt,λb k hb=>by rw[hw];exact hR.dom b k hb,hR.jP⟩,⟨λ_ _=>rfl,by rw[hw];exact Nat.le_refl _,λ_ _ _=>by rw[hw],λ_ _ h=>h,λr L h=>⟨L,by rw[hw];exact h, .refl L⟩,hsm⟩⟩
theorem R.Km{P μ h w}(hR:R P μ h w){sz:Nat}{k:Blk}(hk:k.r<w.heap.size)(ho:OR P (upd μ h.next k) w h.next (.cells [] false sz)):
 R P (upd μ h.next k) (h.push (.cells [] false sz)) w/\St μ h w (upd μ h.next k) (h.push (.cells [] false sz)) w:=by
 have hno:∀k',μ h.next=some k'→False:=λk' h'=>Nat.lt_irrefl _ (hR.dom _ _ h').1
 have hm:∀b k',μ b=some k'→upd μ h.next k b=some k':=λb k' hb=>by
  unfold upd;rw[if_neg];exact hb;intro e;subst e;exact hno _ hb
 have hbig:=hR.big;refine⟨⟨Nat.le_succ_of_le hbig,λg q hg hq=> ?_,λb o' hb=> ?_,λb o' hb=> ?_,λb k' hb=> ?_,λb b' o1 o2 k1 k2 hne hb hb' l1 l2 m1 m2 hr=> ?_⟩,⟨λb hb=> ?_,Nat.le_refl _,λ_ _ _=>rfl,λr hr hwr=> ?_,λ_ L h=>⟨L,h, .refl L⟩, .refl w⟩⟩
 ·rw[Heap.di,if_neg (by omega)]at hq;obtain⟨k1,g1,g2⟩:=hR.j8 g q hg hq;exact⟨k1,hm _ _ g1,g2⟩
 ·rw[Heap.di]at hb;split at hb
  ·rename_i e;subst e;cases hb;exact ho
  ·rename_i e;exact OR.mono hm (by unfold upd;rw[if_neg e]) (λ_ _=>rfl) (hR.obj b o' hb)
 ·rw[Heap.di]at hb;split at hb
  ·rename_i e;subst e;exact Nat.lt_succ_self _
  ·exact Nat.lt_succ_of_lt (hR.lt b o' hb)
 ·unfold upd at hb;split at hb
  ·rename_i e;subst e;cases hb;exact⟨Nat.lt_succ_self _,hk⟩
  ·have:=hR.dom b k' hb;exact⟨Nat.lt_succ_of_lt this.1,this.2⟩
 ·rw[Heap.di]at hb hb';unfold upd at m1 m2;split at hb
  ·cases hb;cases l1
  ·rename_i e1;rw[if_neg e1]at m1;split at hb'
   ·cases hb';cases l2
   ·rename_i e2;rw[if_neg e2]at m2;exact hR.jP b b' o1 o2 k1 k2 hne hb hb' l1 l2 m1 m2 hr
 ·unfold upd;rw[if_neg (by omega)]
 ·obtain⟨b,o1,k1,hb,l1,r1,m1,e1⟩:=hwr;rw[Heap.di]at hb;unfold upd at m1;split at hb
  ·cases hb;cases l1
  ·rename_i e;rw[if_neg e]at m1;exact⟨b,o1,k1,hb,l1,r1,m1,e1⟩
theorem bM{α:Type}(l:List α):bK l=l.length:=by induction l<;>simp[bK, *]
theorem cA{α:Type}:∀(l:List α) (i:Nat),aT l i=l[i]?
 |[],_=>by simp[aT]
 |_::_,0=>by simp[aT]
 |_::l,i+1=>by simp[aT,cA l i]
theorem cZ{α:Type}:∀(n:Nat) (l:List α),bB n l=l.take n
 |0,_=>by simp[bB]
 |_+1,[]=>by simp[bB]
 |n+1,_::l=>by simp[bB,cZ n l]
theorem cw{α:Type}:∀(n:Nat) (l:List α),bA n l=l.drop n
 |0,_=>by simp[bA]
 |_+1,[]=>by simp[bA]
 |n+1,_::l=>by simp[bA,cw n l]
theorem j9{α:Type}:∀(l:List α) (i:Nat) (x:α),qD l i x=l.set i x
 |[],_,_=>by simp[qD]
 |_::_,0,_=>by simp[qD]
 |_::l,i+1,x=>by simp[qD,j9 l i x]
theorem dQ{α:Type}(l m:List α):dP l m=l++m:=by induction l<;>simp[dP, *]
theorem yc{α:Type}(n:Nat)(x:α):aL n x=List.replicate n x:=by induction n<;>simp[aL,List.replicate_succ, *]
theorem blt_eq(a b:Nat):Nat.blt a b=decide (a<b):=by rw[Bool.eq_iff_iff];simp[Nat.blt_eq]
theorem ble_eq(a b:Nat):Nat.ble a b=decide (a<=b):=by rw[Bool.eq_iff_iff];simp[Nat.ble_eq]
theorem beq_eq(a b:Nat):Nat.beq a b=decide (a=b):=by rw[Bool.eq_iff_iff];simp[Nat.beq_eq]
theorem GM{l:List Value}{i:Nat}{v:Value}(h:aT l i=some v):gv l i=v/\i<l.length:=by
 rw[cA]at h;exact⟨by simp[gv,cA,h],(List.getElem?_eq_some_iff.1 h).1⟩
theorem pJ{l:List Value}{i:Nat}(h:i<l.length):l[i]? =some (gv l i):=by
 simp[gv,cA,h]
theorem xX(l:List Value)(o n i:Nat)(hi:i<n):gv ((l.drop o).take n) i=gv l (o+i):=by
 simp only[gv,cA];rw[List.getElem?_take_of_lt hi,List.getElem?_drop]
theorem LR.get{μ}{a b:List Value}(h:LR μ a b){i v}(hv:aT a i=some v):∃v',b[i]? =some v'∧VR μ v v':=by
 obtain⟨e,hi⟩:=GM hv;exact⟨_,pJ (h.length▸hi),e▸h.gv i hi⟩
theorem LR.take{μ}{a b:List Value}(h:LR μ a b):∀n,LR μ (a.take n) (b.take n):=by
 induction h with
 |nil=>intro n;simp;exact .nil
 |cons h1 _ ih=>intro n;cases n with
  |zero=>simp;exact .nil
  |succ n=>simp;exact .cons h1 (ih n)
theorem LR.drop{μ}{a b:List Value}(h:LR μ a b):∀n,LR μ (a.drop n) (b.drop n):=by
 induction h with
 |nil=>intro n;simp;exact .nil
 |cons h1 h2 ih=>intro n;cases n with
  |zero=>simp;exact .cons h1 h2
  |succ n=>simp;exact ih n
theorem LR.append{μ}{a b c d:List Value}(h:LR μ a b)(h':LR μ c d):LR μ (a++c) (b++d):=by
 induction h with
 |nil=>exact h'
 |cons h1 _ ih=>exact .cons h1 ih
theorem LR.set{μ}{a b:List Value}(h:LR μ a b){x y}(hx:VR μ x y):∀i,LR μ (a.set i x) (b.set i y):=by
 induction h with
 |nil=>intro i;simp;exact .nil
 |cons h1 h2 ih=>intro i;cases i with
  |zero=>simp;exact .cons hx h2
  |succ i=>simp;exact .cons h1 (ih i)
variable {P:Program} {μ:Mu} {h:Heap} {w:World} {e:Env} {a:Act}
theorem bQ(hR:R P μ h w)(hE:cm μ e a.tmps){x:Operand}{v:Value}(hc:aC P x=true)(hv:ev h e x=some v):VR μ v (a.eval x):=by
 cases x with
 |tmp t=>
  obtain⟨v',h1,h2⟩:=hE t v hv;simp only[Act.eval,Array.getD_eq_getD_getElem?,h1];exact h2
 |const c=>cases hv;exact(VR.cT hc).1
 |global g=>
  simp only[ev]at hv;split at hv
  ·rename_i o ho;cases hv;obtain⟨k,h1,h2,h3,_⟩:=hR.j8 g o (by simpa[aC,Nat.blt_eq]using hc) ho;have:=VR.ptr (o:=0) h1;rw[h2,h3]at this;exact this
  ·cases hv
 |func f=>cases hv;exact(VR.cT (by simp[cT,flat,jV,ji])).1
theorem rS(hR:R P μ h w)(hE:cm μ e a.tmps):∀{xs:List Operand} {vs:List Value},xs.all (aC P)=true->evs h e xs=some vs->LR μ vs (xs.map a.eval)
 |[],vs,_,hv=>by cases hv;exact .nil
 |x::xs,vs,hc,hv=>by
  simp only[List.all_cons,Bool.and_eq_true]at hc;simp only[evs]at hv;split at hv
  ·rename_i v h1;split at hv
   ·rename_i vs' h2;cases hv;exact .cons (bQ hR hE hc.1 h1) (rS hR hE hc.2 h2)
   ·cases hv
  ·cases hv
def Ran(P:Program)(μ:Mu)(h:Heap)(w:World)(base:Nat)(r:Result Next)(v:Value)(h':Heap):Prop:=
 ∃μ' v' w',(r= .ok (.value v') w'∨(r= .ok .skip w'∧v'=undef))/\VR μ' v v'∧R P μ' h' w'∧St μ h w μ' h' w'∧AS base h h'
theorem Ran.pure(hR:R P μ h w){base:Nat}{r:Result Next}{v v':Value}(hr:r= .ok (.value v') w)(hv:VR μ v v'):Ran P μ h w base r v h:=
 ⟨μ,v',w, .inl hr,hv,hR,St.refl _ _ _,AS.refl _ _⟩
theorem an{α:Type}{x:Option Value}{k:Value->Option α}{y:α}(hh:cM x k=some y):∃v,x=some v/\k v=some y:=by
 cases x with
 |none=>cases hh
 |some v=>exact⟨v,rfl,hh⟩
theorem run_underlying{t:TypeId}{d:TypeDesc}(hd:P.underlying t=some d)(w:World):(underlying t).run P w= .ok d w:=by
 simp[underlying,program,Sem.run,hd]
theorem run_typeInfo{t:TypeId}{i:TypeInfo}(hi:P.info? t=some i)(w:World):(typeInfo t).run P w= .ok i w:=by
 simp[typeInfo,program,Sem.run,hi]
theorem run_sizeOf{t:TypeId}{n:Nat}(hi:dH P t=some n)(w:World):(sizeOf t).run P w= .ok n w:=by
 simp only[dH,Option.map_eq_some_iff]at hi;obtain⟨i,hi,rfl⟩:=hi;simp[sizeOf,run_typeInfo hi]
theorem dF{t:TypeId}{z:Value}(hi:gJ P t=some z)(w:World):(zeroValue t).run P w= .ok z w:=by
 simp only[gJ,Option.bind_eq_some_iff]at hi;obtain⟨i,hi,hz⟩:=hi;simp[zeroValue,run_typeInfo hi,hz]
theorem wF{t:TypeId}{n:Option Nat}(hi:tW P t=some n)(w:World):(isAgg t).run P w= .ok n.isSome w/\∀m,n=some m->dH P t=some m:=by
 unfold tW at hi;split at hi
 ·rename_i fs hd;simp only[Option.map_eq_some_iff]at hi;obtain⟨m,hm,rfl⟩:=hi;exact⟨by simp[isAgg,run_underlying hd],λ_ h=>by cases h;exact hm⟩
 ·rename_i l el hd;simp only[Option.map_eq_some_iff]at hi;obtain⟨m,hm,rfl⟩:=hi;exact⟨by simp[isAgg,run_underlying hd],λ_ h=>by cases h;exact hm⟩
 ·rename_i d h1 h2 hd;cases hi;refine⟨?_,λ_ h=>by cases h⟩;simp only[isAgg,Sem.run_bind,run_underlying hd,Result.andThen_ok];cases d<;>first|rfl|(exact(h2 _ rfl).elim)|(exact(h1 _ _ rfl).elim)
 ·cases hi
end Go.A
end
section
namespace Go.A
variable {P:Program} {μ:Mu} {h:Heap} {w:World} {e:Env} {a:Act} {base:Nat}
theorem fu(r o i:Nat):(Addr.add ⟨r,o,none⟩ i)=⟨r,o+i,none⟩:=by
 unfold Addr.add;split
 ·rename_i hi;subst hi;rfl
 ·rfl
theorem cell_of{r:Nat}{c:Array Value}{el:TypeId}{fz:Nat×Nat}(hr:w.heap[r]? =some (.cells c el fz))(o:Nat):w.cell? ⟨r,o,none⟩=c[o]? :=by
 simp[World.cell?,hr]
theorem run_loadCellsFrom(r o:Nat):∀(l:List Value) (i:Nat) (acc:Array Value),(∀j,j<l.length->w.cell? ⟨r,o+(i+j),none⟩=some (gv l j))→
 (loadCellsFrom ⟨r,o,none⟩ i l.length acc).run P w= .ok (acc++l.toArray) w
 |[],i,acc,_=>by simp[loadCellsFrom]
 |x::l,i,acc,hc=>by
  have h0:w.cell? ⟨r,o+i,none⟩=some x:=by simpa[gv,aT]using hc 0 (by simp)
  simp only[List.length_cons,loadCellsFrom,Sem.run_bind,fu,Go.run_load,h0,Result.andThen_ok];rw[run_loadCellsFrom r o l (i+1) (acc.push x) λj hj=>by
   have:=hc (j+1) (by simpa using hj);rw[show i+1+j=i+(j+1)by omega];simpa[gv,aT]using this]
  congr 1;apply dO;simp
theorem run_loadCells{r o:Nat}{l:List Value}(hc:∀j,j<l.length->w.cell? ⟨r,o+j,none⟩=some (gv l j)):
 (loadCells ⟨r,o,none⟩ l.length).run P w= .ok l.toArray w:=by
 unfold loadCells;rw[run_loadCellsFrom r o l 0 #[] λj hj=>by rw[Nat.zero_add];exact hc j hj];simp
theorem OR.row{b:Nat}{vs:List Value}{own:Bool}{sz:Nat}{k:Blk}(ho:OR P μ w b (.cells vs own sz))(hk:μ b=some k){o n:Nat}(hn:o+n<=vs.length):
 ∃l,l.length=n/\LR μ ((vs.drop o).take n) l/\∀j,j<l.length->w.cell? ⟨k.r,k.d+o+j,none⟩=some (gv l j):=by
 obtain⟨_,c,el,fz,hr,h1,h2,h3,_⟩:=ho k hk;induction n generalizing o with
 |zero=>exact⟨[],rfl,by simp;exact .nil,λj hj=>by simp at hj⟩
 |succ n ih=>
  obtain⟨l,g1,g2,g3⟩:=ih (o:=o+1) (by omega);obtain⟨v',c1,c2⟩:=h3 o (by omega);refine⟨v'::l,by simp[g1],?_,λj hj=> ?_⟩
  ·have:(vs.drop o).take (n+1)=gv vs o::(vs.drop (o+1)).take n:=by
    rw[List.drop_eq_getElem_cons (by omega),List.take_succ_cons];congr 1;simp[gv,cA,show o<vs.length by omega]
   rw[this];exact .cons c2 g2
  ·cases j with
   |zero=>rw[cell_of hr];exact c1
   |succ j=>
    have:=g3 j (by simpa using hj);rw[show k.d+o+(j+1)=k.d+(o+1)+j by omega];exact this
def uB(P:Program)(w:World)(n:Option Nat)(ad:Addr):Result Value:=
 match n with
 |none=>(load ad).run P w
 |some n=>((loadCells ad n).run P w).andThen λc w=> .ok (.agg c) w
theorem Aw(hR:R P μ h w){n:Option Nat}{x x' v:Value}(hx:VR μ x x')(hl:nT h n x=some v):
 ∃r o v',x'= .pointer (some ⟨r,o,none⟩)/\VR μ v v'∧
  uB P w n ⟨r,o,none⟩= .ok v' w:=by
 unfold nT at hl;split at hl
 ·rename_i b o;cases hx with
  |ptr hk=>
   rename_i k;split at hl
   ·rename_i vs own sz ho;have hor:=hR.obj b _ ho;cases n with
    |none=>
     obtain⟨e1,hi⟩:=GM hl;obtain⟨_,c,el,fz,hr,h1,h2,h3,_⟩:=hor k hk;obtain⟨v',c1,c2⟩:=h3 o hi;refine⟨_,_,v',rfl,e1▸c2,?_⟩;simp[uB,cell_of hr,c1]
    |some n=>
     simp only[bM,cZ,cw,beq_eq,cond_eq_ite]at hl;split at hl
     ·rename_i hlen;cases hl;have hlen:o+n<=vs.length∨n=0:=by simp at hlen;omega
      rcases hlen with hlen|rfl
      ·obtain⟨l,g1,g2,g3⟩:=OR.row hor hk hlen;refine⟨_,_, .agg l.toArray,rfl, .DY (by simpa using g2),?_⟩;have:=run_loadCells (P:=P) g3;rw[g1]at this;simp[uB,this]
      ·refine⟨_,_, .agg #[],rfl, .DY (by simp;exact .nil),?_⟩;simp[uB,loadCells,loadCellsFrom]
     ·cases hl
   ·cases hl
 ·cases hl
theorem tf{t:TypeId}{n:Option Nat}(hn:tW P t=some n)(ad:Addr):
 (loadVar t ad).run P w=uB P w n ad:=by
 obtain⟨h1,h2⟩:=wF hn w;unfold loadVar;simp only[Sem.run_bind,h1,Result.andThen_ok];cases n with
 |none=>simp[uB]
 |some n=>simp[uB,run_sizeOf (h2 n rfl)]
theorem Is(hR:R P μ h w)(hE:cm μ e a.tmps){x:Operand}{v:Value}{h':Heap}(hc:aC P x=true)(h1:aop h base e (.mov x)=some (.val v h')):
 Ran P μ h w base (.ok (.value (a.eval x)) w) v h':=by
 obtain⟨v0,hv,hh⟩:=an h1;cases hh;exact .pure hR rfl (bQ hR hE hc hv)
theorem K6(hR:R P μ h w)(hE:cm μ e a.tmps){t:TypeId}{n:Option Nat}{x:Operand}{v:Value}{h':Heap}(hn:tW P t=some n)(hc:aC P x=true)
 (h1:aop h base e (.load n x)=some (.val v h')):Ran P μ h w base (((Instr.loadAt t (a.eval x)).run P w).andThen λv w=> .ok (.value v) w) v h':=by
 obtain⟨v0,hv,hh⟩:=an h1;obtain⟨v1,hv1,hh⟩:=an hh;cases hh;obtain⟨r,o,v',hx,hvr,hrun⟩:=Aw (P:=P) (w:=w) hR (bQ hR hE hc hv) hv1;refine .pure hR ?_ hvr;simp only[Instr.loadAt,hx,Instr.sureAddr,Sem.run_bind,Sem.run_pure,Result.andThen_ok,tf hn,hrun]
theorem K8(hR:R P μ h w)(hE:cm μ e a.tmps){c x y:Operand}{v:Value}{h':Heap}(hc:aC P c=true)(hx:aC P x=true)(hy:aC P y=true)
 (h1:aop h base e (.pick c x y)=some (.val v h')):Ran P μ h w base (((asBool (a.eval c)).run P w).andThen λb w=> .ok (.value (if b then a.eval x else a.eval y)) w) v h':=by
 simp only[aop]at h1;split at h1
 ·rename_i hb;obtain⟨v0,hv,hh⟩:=an h1;cases hh;have:=bQ hR hE hc hb;generalize a.eval c=cv at*;cases this;exact .pure hR (by simp[asBool]) (bQ hR hE hx hv)
 ·rename_i hb;obtain⟨v0,hv,hh⟩:=an h1;cases hh;have:=bQ hR hE hc hb;generalize a.eval c=cv at*;cases this;exact .pure hR (by simp[asBool]) (bQ hR hE hy hv)
 ·cases h1
theorem BX(hR:R P μ h w)(hE:cm μ e a.tmps){x:Operand}{i:Nat}{v:Value}{h':Heap}(hc:aC P x=true)
 (h1:aop h base e (.extract x i)=some (.val v h')):Ran P μ h w base (((Instr.extract (a.eval x) i).run P w).andThen λv w=> .ok (.value v) w) v h':=by
 simp only[aop]at h1;split at h1
 ·rename_i vs hb;obtain⟨v0,hv,hh⟩:=an h1;cases hh;obtain⟨c',he,hl⟩:=(bQ hR hE hc hb).wW;obtain⟨v',g1,g2⟩:=hl.get hv;refine .pure hR ?_ g2;have:c'[i]? =some v':=by simpa using g1
  simp[Instr.extract,he,this]
 ·cases h1
theorem Ip(hR:R P μ h w)(hE:cm μ e a.tmps){s:TypeId}{fs:Array Field}{i:Nat}{f:Field}{n:Nat}{x:Operand}{v:Value}{h':Heap}(hd:P.underlying s=some (.struct fs))
 (hf:fs[i]? =some f)(hn:dH P f.type=some (n+1))(hc:aC P x=true)(h1:aop h base e (.bF f.offset x)=some (.val v h')):
 Ran P μ h w base (((Instr.fieldAt s (a.eval x) i).run P w).andThen λv w=> .ok (.value v) w) v h':=by
 simp only[aop]at h1;split at h1
 ·rename_i b o hb;cases h1;have:=bQ hR hE hc hb;generalize a.eval x=xv at*;cases this with
  |ptr hk=>
   rename_i k;refine .pure hR (v':= .pointer (some ⟨k.r,k.d+(o+f.offset),none⟩)) ?_ (.ptr hk);simp[Instr.fieldAt,run_underlying hd,hf,Instr.sureAddr,fieldPlace,run_sizeOf hn,fu,Nat.add_assoc]
 ·cases h1
theorem EG(hR:R P μ h w)(hE:cm μ e a.tmps){t el:TypeId}{n size:Nat}{x i:Operand}{v:Value}{h':Heap}(hd:P.underlying t=some (.array n el))(hn:dH P el=some size)
 (hc:aC P x=true)(hi:aC P i=true)(h1:aop h base e (.bI n size x i)=some (.val v h')):
 Ran P μ h w base (((Instr.indexAt t (a.eval x) (a.eval i)).run P w).andThen λv w=> .ok (.value v) w) v h':=by
 simp only[aop]at h1;split at h1
 ·rename_i b o kk j hb hj;simp only[blt_eq,cond_eq_ite]at h1;split at h1
  ·rename_i hlt;simp only[decide_eq_true_eq]at hlt;cases h1;have g1:=bQ hR hE hc hb;have g2:=bQ hR hE hi hj;generalize a.eval x=xv at*;generalize a.eval i=iv at*;cases g1 with
   |ptr hk=>
    rename_i k;cases g2;refine .pure hR (v':= .pointer (some ⟨k.r,k.d+(o+j*size),none⟩)) ?_ (.ptr hk);simp[Instr.indexAt,asIntOf,run_underlying hd,Instr.sureAddr,run_sizeOf hn,fu,Nat.add_assoc,Nat.not_le.2 hlt]
  ·cases h1
 ·cases h1
theorem EH(hR:R P μ h w)(hE:cm μ e a.tmps){t el:TypeId}{size:Nat}{x i:Operand}{v:Value}{h':Heap}(hd:P.underlying t=some (.slice el))(hn:dH P el=some size)
 (hc:aC P x=true)(hi:aC P i=true)(h1:aop h base e (.aH size x i)=some (.val v h')):
 Ran P μ h w base (((Instr.indexAt t (a.eval x) (a.eval i)).run P w).andThen λv w=> .ok (.value v) w) v h':=by
 simp only[aop]at h1;split at h1
 ·rename_i b o n cap kk j hb hj;simp only[blt_eq,cond_eq_ite]at h1;split at h1
  ·rename_i hlt;simp only[decide_eq_true_eq]at hlt;cases h1;have g1:=bQ hR hE hc hb;have g2:=bQ hR hE hi hj;generalize a.eval x=xv at*;generalize a.eval i=iv at*;cases g1 with
   |slice hk hq1 hq2=>
    rename_i k;cases g2;refine .pure hR (v':= .pointer (some ⟨k.r,k.d+(o+j*size),none⟩)) ?_ (.ptr hk);simp[Instr.indexAt,asIntOf,run_underlying hd,run_sizeOf hn,fu,Nat.add_assoc,Nat.not_le.2 hlt]
   |eO hk hq1 hq2 hq3=>
    rename_i k;cases g2;refine .pure hR (v':= .pointer (some ⟨k.r,k.d+(o+j*size),none⟩)) ?_ (.ptr hk);simp[Instr.indexAt,asIntOf,run_underlying hd,run_sizeOf hn,fu,Nat.add_assoc,Nat.not_le.2 hlt]
  ·cases h1
 ·cases h1
theorem sJ(k:IntKind)(n:Int)(h1:k.min<=n)(h2:n<=k.max):k.wrap n=n:=by
 cases k<;>simp[IntKind.min,IntKind.max,IntKind.wrap,IntKind.bits,IntKind.signed]at* <;>omega
theorem rC(k:IntKind)(n:Int):fG k n=k.wrap n:=by
 cases n with
 |ofNat m=>
  cases k<;>simp only[fG,blt_eq,cond_eq_ite]<;>split<;>first
   |(rename_i hb
     simp only[decide_eq_true_eq]at hb;refine(sJ _ _ ?_ ?_).symm<;>simp[IntKind.min,IntKind.max,IntKind.bits,IntKind.signed]<;>omega)
   |rfl
 |negSucc m=>
  cases k<;>simp only[fG,blt_eq,cond_eq_ite]<;>split<;>first
   |(rename_i hb
     simp only[decide_eq_true_eq]at hb;first
     |omega
     |(refine(sJ _ _ ?_ ?_).symm<;>simp[IntKind.min,IntKind.max,IntKind.bits,IntKind.signed]<;>omega))
   |rfl
theorem wrap_u64(n:Nat)(hn:n<18446744073709551616):IntKind.u64.wrap (n:Int)=n:=sJ _ _ (by simp[IntKind.min,IntKind.signed]) (by simp[IntKind.max,IntKind.signed,IntKind.bits];omega)
theorem nW(a:Nat)(ha:a<18446744073709551616):(BitVec.ofInt IntKind.u64.bits (Int.ofNat a)).toNat=a:=by
 simp[IntKind.bits];omega
theorem Bt(x y:BitVec 64):(x&&& ~~~y).toNat=Nat.xor x.toNat (Nat.land x.toNat y.toNat):=by
 have:x&&& ~~~y=x ^^^ (x&&&y):=by ext i hi;simp;cases x[i]<;>cases y[i]<;>rfl
 rw[this,BitVec.toNat_xor,BitVec.toNat_and];rfl
theorem By{op:BinOp}{k:IntKind}{x y:Int}{v:Value}(hv:mC op k x y=some v)(w:World):(Op.intBits op k x y).run P w= .ok v w:=by
 have slow:∀v,(match op with
  | .and=>some (.int k (k.wrap (BitVec.ofInt k.bits x&&&BitVec.ofInt k.bits y).toNat))
  | .or=>some (.int k (k.wrap (BitVec.ofInt k.bits x|||BitVec.ofInt k.bits y).toNat))
  | .xor=>some (.int k (k.wrap (BitVec.ofInt k.bits x ^^^ BitVec.ofInt k.bits y).toNat))
  | .andNot=>some (.int k (k.wrap (BitVec.ofInt k.bits x&&& ~~~BitVec.ofInt k.bits y).toNat))
  |_=>(none:Option Value))=some v->(Op.intBits op k x y).run P w= .ok v w:=by
  intro v hv;cases op<;>simp only[Option.some.injEq,reduceCtorEq]at hv<;>subst hv<;>simp[Op.intBits]
 unfold mC at hv;simp only[]at hv;split at hv
 ·rename_i a b;simp only[blt_eq,cond_eq_ite]at hv;split at hv
  ·rename_i hb;simp only[Bool.and_eq_true,decide_eq_true_eq]at hb;have ea:=nW a hb.1;have eb:=nW b hb.2;have ha64:a<2 ^ 64:=hb.1;have hb64:b<2 ^ 64:=hb.2;cases op<;>simp only[Option.some.injEq,reduceCtorEq]at hv<;>subst hv
   ·have h1:(BitVec.ofInt IntKind.u64.bits (Int.ofNat a)&&&BitVec.ofInt IntKind.u64.bits (Int.ofNat b)).toNat=Nat.land a b:=by rw[BitVec.toNat_and,ea,eb];rfl
    simp only[Op.intBits,h1,Sem.run_pure];have hw:=wrap_u64 (Nat.land a b) (Nat.lt_of_le_of_lt Nat.and_le_left hb.1);rw[hw];rfl
   ·have h1:(BitVec.ofInt IntKind.u64.bits (Int.ofNat a)|||BitVec.ofInt IntKind.u64.bits (Int.ofNat b)).toNat=Nat.lor a b:=by rw[BitVec.toNat_or,ea,eb];rfl
    simp only[Op.intBits,h1,Sem.run_pure];have hw:=wrap_u64 (Nat.lor a b) (Nat.or_lt_two_pow ha64 hb64);rw[hw];rfl
   ·have h1:(BitVec.ofInt IntKind.u64.bits (Int.ofNat a) ^^^ BitVec.ofInt IntKind.u64.bits (Int.ofNat b)).toNat=Nat.xor a b:=by rw[BitVec.toNat_xor,ea,eb];rfl
    simp only[Op.intBits,h1,Sem.run_pure];have hw:=wrap_u64 (Nat.xor a b) (Nat.xor_lt_two_pow ha64 hb64);rw[hw];rfl
   ·have h1:(BitVec.ofInt IntKind.u64.bits (Int.ofNat a)&&& ~~~BitVec.ofInt IntKind.u64.bits (Int.ofNat b)).toNat=Nat.xor a (Nat.land a b):=by
     have:=Bt (BitVec.ofInt 64 (Int.ofNat a)) (BitVec.ofInt 64 (Int.ofNat b));rw[show(BitVec.ofInt 64 (Int.ofNat a)).toNat=a from ea,show(BitVec.ofInt 64 (Int.ofNat b)).toNat=b from eb]at this;exact this
    simp only[Op.intBits,h1,Sem.run_pure];have hw:=wrap_u64 (Nat.xor a (Nat.land a b)) (Nat.xor_lt_two_pow ha64 (Nat.lt_of_le_of_lt Nat.and_le_left ha64));rw[hw];rfl
  ·exact slow v hv
 ·exact slow v hv
theorem Gd{op:BinOp}{k:IntKind}{t:TypeId}{x y:Int}{v:Value}(h1:op≠ .shl)(h2:op≠ .shr)(hv:arith op k x y=some v)(w:World):(binOp op t (.int k x) (.int k y)).run P w= .ok v w:=by
 cases op<;>simp only[arith,lP,rC,reduceCtorEq,Option.some.injEq]at hv<;>simp only[binOp,ne_eq,not_true_eq_false,if_false]<;>
  first
  |(subst hv;simp[Op.intArith];done)
  |(subst hv;simp[Op.intCmp];done)
  |exact By hv w
  |exact absurd rfl h1
  |exact absurd rfl h2
  |(split at hv
    ·cases hv
    ·rename_i hz;cases hv;simp[Op.intDiv,hz])
theorem Ba{op:BinOp}{k yk:IntKind}{t:TypeId}{x y:Int}{v:Value}(hop:op= .shl∨op= .shr)(hv:mT op k x y=some v)(w:World):
 (binOp op t (.int k x) (.int yk y)).run P w= .ok v w:=by
 unfold mT at hv;cases y with
 |negSucc n=>cases hv
 |ofNat n=>
  have hy:¬ (Int.ofNat n<0):=by simp
  rcases hop with rfl|rfl
  ·simp only[binOp,Op.shift,if_neg hy,Sem.run_pure];simp only[]at hv;split at hv
   ·rename_i a;cases hv;congr 2;have:IntKind.u64.wrap (Int.ofNat a*2 ^ min (Int.ofNat n).toNat IntKind.u64.bits)=Int.ofNat (Nat.mod (Nat.shiftLeft a (Nat.min n 64)) 18446744073709551616):=by
     have e1:(Int.ofNat a*2 ^ min (Int.ofNat n).toNat IntKind.u64.bits:Int)=((Nat.shiftLeft a (Nat.min n 64):Nat):Int):=by
      show _=((a<<<(min n 64):Nat):Int);rw[Nat.shiftLeft_eq];simp[IntKind.bits]
     rw[e1];simp only[IntKind.wrap,IntKind.bits,IntKind.signed,Bool.false_and,Bool.false_eq_true,if_false];show((Nat.shiftLeft a (Nat.min n 64):Nat):Int) % 18446744073709551616=((Nat.shiftLeft a (Nat.min n 64) % 18446744073709551616:Nat):Int);rw[Int.natCast_emod];rfl
    rw[this]
   ·cases hv;simp
  ·simp only[binOp,Op.shift,if_neg hy,Sem.run_pure];simp only[]at hv;split at hv
   ·rename_i a;cases hv;congr 2;have:(Int.ofNat a).fdiv (2 ^ min (Int.ofNat n).toNat IntKind.u64.bits)=Int.ofNat (Nat.shiftRight a (Nat.min n 64)):=by
     rw[Int.fdiv_eq_ediv_of_nonneg _ (by exact Int.pow_nonneg (by decide))];show _=((a>>>(min n 64):Nat):Int);rw[Nat.shiftRight_eq_div_pow];simp[IntKind.bits]
    rw[this]
   ·cases hv;simp
theorem Jq{op:BinOp}{t:TypeId}{x y:ByteArray}{v:Value}(h1:op≠ .shl)(h2:op≠ .shr)(hv:Bd op x y=some v)(w:World):(binOp op t (.string x) (.string y)).run P w= .ok v w:=by
 cases op<;>simp only[Bd,reduceCtorEq,Option.some.injEq]at hv<;>simp only[binOp]<;>
  first
  |(subst hv;simp[Op.stringOp];done)
  |(simp only[blt_eq,cond_eq_ite]at hv
    split at hv
    ·rename_i hb;simp only[decide_eq_true_eq]at hb;cases hv;have:¬ ((x.size+y.size:Nat):Int)>IntKind.i64.max:=by simp[IntKind.max,IntKind.signed,IntKind.bits];omega
     simp only[Op.stringOp,if_neg this,Sem.run_pure]
    ·cases hv)
theorem HY{op:BinOp}{t:TypeId}{x y v:Value}(hv:ah op x y=some v)(w:World):
 (∀μ x',VR μ x x'→x'=x)/\(∀μ y',VR μ y y'→y'=y)/\(∀μ,VR μ v v)/\(binOp op t x y).run P w= .ok v w/\(∀(xo yo:Operand),(eqGuard op t xo yo x y).run P w= .ok () w):=by
 have hi:∀k n μ x',VR μ (.int k n) x'→x'= .int k n:=λk n μ x' h=>by cases h;rfl
 have hs:∀n μ x',VR μ (.string n) x'→x'= .string n:=λn μ x' h=>by cases h;rfl
 have vb:∀b μ,VR μ (.bool b) (.bool b):=λb μ=> .bool b;have vi:∀k n μ,VR μ (.int k n) (.int k n):=λk n μ=> .int k n;unfold ah at hv;split at hv
 ·rename_i k a yk b;refine⟨hi _ _,hi _ _,?_,Ba (.inl rfl) hv w,by simp[eqGuard]⟩;unfold mT at hv;split at hv<;>try cases hv
  split at hv<;>split at hv<;>cases hv<;>exact vi _ _
 ·rename_i k a yk b;refine⟨hi _ _,hi _ _,?_,Ba (.inr rfl) hv w,by simp[eqGuard]⟩;unfold mT at hv;split at hv<;>try cases hv
  split at hv<;>split at hv<;>cases hv<;>exact vi _ _
 ·rename_i k a k' b g1 g2;split at hv
  ·rename_i hk;subst hk;refine⟨hi _ _,hi _ _,?_,Gd g1 g2 hv w,?_⟩
   ·intro μ
    cases op<;>simp only[arith,lP,reduceCtorEq,Option.some.injEq]at hv<;>first
     |(subst hv;first|exact vb _ _|exact vi _ _ _)
     |(split at hv<;>cases hv;exact vi _ _ _)
     |(unfold mC at hv
       simp only[]at hv;split at hv
       ·simp only[cond_eq_ite]at hv;split at hv<;>cases hv<;>exact vi _ _ _
       ·cases hv;exact vi _ _ _)
   ·intro xo yo;cases op<;>simp[eqGuard]
  ·cases hv
 ·rename_i a b;have g1:op≠ .shl:=λe=>by subst e;cases hv
  have g2:op≠ .shr:=λe=>by subst e;cases hv
  refine⟨hs _,hs _,?_,Jq g1 g2 hv w,?_⟩
  ·intro μ
   cases op<;>simp only[Bd,reduceCtorEq,Option.some.injEq]at hv<;>first
    |(subst hv;exact vb _ _)
    |(simp only[cond_eq_ite]at hv;split at hv<;>cases hv;exact .string _)
  ·intro xo yo;cases op<;>simp[eqGuard]
 ·cases hv
theorem It(hR:R P μ h w)(hE:cm μ e a.tmps){op:BinOp}{t:TypeId}{x y:Operand}{v:Value}{h':Heap}(hx:aC P x=true)(hy:aC P y=true)
 (h1:aop h base e (.bin (.num op) x y)=some (.val v h')):
 Ran P μ h w base (((do eqGuard op t x y (a.eval x) (a.eval y);binOp op t (a.eval x) (a.eval y)).run P w).andThen λv w=> .ok (.value v) w) v h':=by
 obtain⟨xv,hxv,hh⟩:=an h1;obtain⟨yv,hyv,hh⟩:=an hh;obtain⟨v0,hv,hh⟩:=an hh;cases hh;obtain⟨g1,g2,g3,g4,g5⟩:=HY (P:=P) (t:=t) hv w;rw[g1 _ _ (bQ hR hE hx hxv),g2 _ _ (bQ hR hE hy hyv)];refine .pure hR ?_ (g3 μ);simp[g4,g5]
theorem oh{op:BinOp}{t:TypeId}{xo yo:Operand}{x y:Value}(h1:x≠ .nilIface∨y≠ .nilIface)(h2:(∀c,x≠ .agg c)∨∀c,y≠ .agg c)(w:World):
 (eqGuard op t xo yo x y).run P w= .ok () w:=by
 unfold eqGuard
 cases op<;>simp only[Bool.not_true,Bool.not_false,Bool.false_eq_true,if_false,if_true,Sem.run_pure]<;>
  (split
   ·rcases h1 with h1|h1<;>exact absurd rfl h1
   ·rcases h2 with h2|h2<;>exact absurd rfl (h2 _)
   ·rfl)
theorem um(t:TypeId)(x y:Value):Op.equal t x y=Op.equalIn (9999+1) t x y:=rfl
theorem yx{op:BinOp}{n:Bool}(h:uK op=some n):(n=false/\op= .eql)∨(n=true/\op= .neq):=by
 cases op<;>simp[uK]at h
 ·exact .inl ⟨h,rfl⟩
 ·exact .inr ⟨h,rfl⟩
theorem Oe(hR:R P μ h w)(hE:cm μ e a.tmps){op:BinOp}{t:TypeId}{n:Bool}{x y:Operand}{v:Value}{h':Heap}(hn:uK op=some n)(hd:P.underlying t=some .bool)(hx:aC P x=true)(hy:aC P y=true)
 (h1:aop h base e (.bin (.beq n) x y)=some (.val v h')):
 Ran P μ h w base (((do eqGuard op t x y (a.eval x) (a.eval y);binOp op t (a.eval x) (a.eval y)).run P w).andThen λv w=> .ok (.value v) w) v h':=by
 simp only[aop]at h1;split at h1
 ·rename_i b c hb hc;cases h1;have g1:=bQ hR hE hx hb;have g2:=bQ hR hE hy hc;generalize a.eval x=xv at*;generalize a.eval y=yv at*;cases g1;cases g2;refine .pure hR ?_ (.bool _);have hg:=oh (P:=P) (op:=op) (t:=t) (xo:=x) (yo:=y) (x:= .bool b) (y:= .bool c) (.inl (by simp)) (.inl (by simp)) w;have he:(Op.equal t (.bool b) (.bool c)).run P w= .ok (b==c) w:=by
   rw[um];exact run_equalIn_bool w 9999 t b c hd
  rcases yx hn with⟨rfl,rfl⟩|⟨rfl,rfl⟩<;>simp[hg,binOp,he]
 ·cases h1
theorem we{k:NK}{v v':Value}(hv:VR μ v v'):gP k v'=gP k v:=by
 cases hv<;>cases k<;>rfl
def pQ:NK->TypeDesc->Prop
 | .ptr, .pointer _=>True
 | .sl, .slice _=>True
 | .map, .map _ _=>True
 | .func, .func _ _ _=>True
 | .iface, .interface _=>True
 |_,_=>False
inductive gZ:NK->Value->Value->Bool->Prop
 |p1 b:gZ .ptr (.pointer none) (.pointer b) b.isNone
 |p2 a:gZ .ptr (.pointer (some a)) (.pointer none) false
 |s1 l c b l' c':gZ .sl (.slice none l c) (.slice b l' c') b.isNone
 |s2 a l c l' c':gZ .sl (.slice (some a) l c) (.slice none l' c') false
 |m1 b:gZ .map (.map none) (.map b) b.isNone
 |m2 a:gZ .map (.map (some a)) (.map none) false
 |f1:gZ .func .nilFunc .nilFunc true
 |f2 f x y:gZ .func .nilFunc (.func f x y) false
 |f3 f x y:gZ .func (.func f x y) .nilFunc false
 |i1:gZ .iface .nilIface .nilIface true
 |i2 t v:gZ .iface .nilIface (.iface t v) false
 |i3 t v:gZ .iface (.iface t v) .nilIface false
theorem pP{k:NK}{x y:Value}{b:Bool}(hb:pe k x y=some b):gZ k x y b:=by
 cases k<;>cases x<;>simp only[pe,gP,reduceCtorEq]at hb
 case ptr.pointer p=>cases p<;>cases y<;>simp only[gP,reduceCtorEq]at hb<;>rename_i q<;>cases q<;>simp only[gP,Option.some.injEq,reduceCtorEq]at hb<;>subst hb<;>constructor
 case sl.slice p l c=>cases p<;>cases y<;>simp only[gP,reduceCtorEq]at hb<;>rename_i q _ _<;>cases q<;>simp only[gP,Option.some.injEq,reduceCtorEq]at hb<;>subst hb<;>constructor
 case map.map p=>cases p<;>cases y<;>simp only[gP,reduceCtorEq]at hb<;>rename_i q<;>cases q<;>simp only[gP,Option.some.injEq,reduceCtorEq]at hb<;>subst hb<;>constructor
 case func.func=>cases y<;>simp only[gP,Option.some.injEq,reduceCtorEq]at hb<;>subst hb<;>constructor
 case func.nilFunc=>cases y<;>simp only[gP,Option.some.injEq,reduceCtorEq]at hb<;>subst hb<;>constructor
 case iface.iface=>cases y<;>simp only[gP,Option.some.injEq,reduceCtorEq]at hb<;>subst hb<;>constructor
 case iface.nilIface=>cases y<;>simp only[gP,Option.some.injEq,reduceCtorEq]at hb<;>subst hb<;>constructor
theorem Af{t:TypeId}{d:TypeDesc}{k:NK}(n:Nat)(hd:P.underlying t=some d)(hk:pQ k d){x y:Value}{b:Bool}(hb:pe k x y=some b)(w:World):(Op.equalIn (n+1) t x y).run P w= .ok b w:=by
 have run:=run_underlying hd w;clear hd;have hp:=pP hb;clear hb;cases hp<;>cases d<;>first|exact hk.elim|(simp only[Op.equalIn,Sem.run_bind,run,Result.andThen_ok,Sem.run_pure])
theorem uP(hR:R P μ h w)(hE:cm μ e a.tmps){op:BinOp}{t:TypeId}{d:TypeDesc}{k:NK}{n:Bool}{x y:Operand}{v:Value}{h':Heap}(hn:uK op=some n)(hd:P.underlying t=some d)(hk:pQ k d)
 (hif:k= .iface->lY x||lY y)(hx:aC P x=true)(hy:aC P y=true)(h1:aop h base e (.bin (.nil k n) x y)=some (.val v h')):
 Ran P μ h w base (((do eqGuard op t x y (a.eval x) (a.eval y);binOp op t (a.eval x) (a.eval y)).run P w).andThen λv w=> .ok (.value v) w) v h':=by
 obtain⟨xv,hxv,hh⟩:=an h1;obtain⟨yv,hyv,hh⟩:=an hh;split at hh
 ·rename_i b hb;cases hh;have g1:=bQ hR hE hx hxv;have g2:=bQ hR hE hy hyv;generalize a.eval x=xv' at*;generalize a.eval y=yv' at*;have hb':pe k xv' yv'=some b:=by
   unfold pe at hb⊢;rw[we g1,we g2];exact hb
  have hq:=Af 9999 hd hk hb' w;rw[←um]at hq;have hg:(eqGuard op t x y xv' yv').run P w= .ok () w:=by
   by_cases hni:k= .iface
   ·have hc:=hif hni;unfold eqGuard
    cases op<;>simp only[Bool.not_true,Bool.not_false,Bool.false_eq_true,if_false,if_true,Sem.run_pure]<;>
     (split
      ·have:(match x with| .const _=>true|_=>false)=true∨(match y with| .const _=>true|_=>false)=true:=by
        cases x<;>cases y<;>simp[lY]at hc⊢
       cases x<;>cases y<;>simp[lY]at hc⊢
      ·subst hni;simp[pe,gP]at hb'
      ·rfl)
   ·refine oh (.inl λe=> ?_) (.inl λc e=> ?_) w
    ·subst e;cases k<;>simp[pe,gP]at hb' hni
    ·subst e;cases k<;>simp[pe,gP]at hb'
  have hbin:(binOp op t xv' yv').run P w= .ok (.bool (bif n then !b else b)) w:=by
   rcases yx hn with⟨rfl,rfl⟩|⟨rfl,rfl⟩
   ·have:binOp .eql t xv' yv'=(do pure (.bool (←Op.equal t xv' yv'))):=by
     cases pP hb'<;>rfl
    simp[this,hq]
   ·have:binOp .neq t xv' yv'=(do pure (.bool (!(←Op.equal t xv' yv')))):=by
     cases pP hb'<;>rfl
    simp[this,hq]
  refine .pure hR ?_ (.bool _);simp[hg,hbin]
 ·cases hh
theorem iK:∀{ls:List dN} {xs ys:List Value} {b:Bool},bG ls xs ys=some b->xs.length=ls.length/\ys.length=ls.length
 |[],[],[],_,_=>⟨rfl,rfl⟩
 |[],[],_::_,_,h=>by cases h
 |[],_::_,_,_,h=>by cases h
 |_::_,[],_,_,h=>by cases h
 |_::_,_::_,[],_,h=>by cases h
 |l::ls,x::xs,y::ys,b,h=>by
  simp only[bG]at h;split at h
  ·obtain⟨h1,h2⟩:=iK h;simp[h1,h2]
  ·split at h
   ·rename_i q hq;obtain⟨h1,h2⟩:=iK hq;simp[h1,h2]
   ·cases h
  ·cases h
theorem iJ:∀{l m:List dN} {xs ys:List Value} {b:Bool},bG (l++m) xs ys=some b→
 ∃b1 b2,bG l (xs.take l.length) (ys.take l.length)=some b1/\bG m (xs.drop l.length) (ys.drop l.length)=some b2/\b=(b1&&b2)
 |[],m,xs,ys,b,h=>⟨true,b,by simp[bG],by simpa using h,by simp⟩
 |_::_,_,[],_,_,h=>by cases h
 |_::_,_,_::_,[],_,h=>by cases h
 |l::ls,m,x::xs,y::ys,b,h=>by
  simp only[List.cons_append,bG]at h;split at h
  ·rename_i h1;obtain⟨b1,b2,g1,g2,g3⟩:=iJ h;exact⟨b1,b2,by simp[bG,h1,g1],by simpa using g2,g3⟩
  ·rename_i h1;split at h
   ·rename_i q hq;obtain⟨b1,b2,g1,g2,g3⟩:=iJ hq;cases h;exact⟨false,b2,by simp[bG,h1,g1],by simpa using g2,rfl⟩
   ·cases h
  ·cases h
inductive qg:dN->Value->Value->Bool->Prop
 |b a c:qg .b (.bool a) (.bool c) (a==c)
 |i k a c:qg (.i k) (.int k a) (.int k c) (a==c)
 |s a c:qg .s (.string a) (.string c) (a.toList==c.toList)
theorem gi{l:dN}{x y:Value}{c:Bool}(h:iy l x y=some c):qg l x y c:=by
 unfold iy at h;split at h
 ·cases h;constructor
 ·split at h
  ·split at h
   ·cases h;rename_i e1 e2;subst e1;subst e2;constructor
   ·cases h
  ·cases h
 ·cases h;constructor
 ·cases h
theorem fh:∀{ls:List dN} {xs ys:List Value} {b:Bool},bG ls xs ys=some b->(∀μ xs',LR μ xs xs'→xs'=xs)/\(∀μ ys',LR μ ys ys'→ys'=ys)
 |[],[],[],_,_=>⟨λ_ _ h=>LR.tJ h,λ_ _ h=>LR.tJ h⟩
 |[],[],_::_,_,h=>by cases h
 |[],_::_,_,_,h=>by cases h
 |_::_,[],_,_,h=>by cases h
 |_::_,_::_,[],_,h=>by cases h
 |l::ls,x::xs,y::ys,b,h=>by
  have:∃c q,iy l x y=some c/\bG ls xs ys=some q:=by
   simp only[bG]at h;split at h
   ·rename_i h1;exact⟨_,_,h1,h⟩
   ·rename_i h1;split at h
    ·rename_i q hq;exact⟨_,_,h1,hq⟩
    ·cases h
   ·cases h
  obtain⟨c,q,h1,h2⟩:=this;have g:=fh h2;cases gi h1<;>exact⟨λμ xs' h=>by cases h with|cons h3 h4=>cases h3;rw[g.1 _ _ h4],λμ xs' h=>by cases h with|cons h3 h4=>cases h3;rw[g.2 _ _ h4]⟩
def EqT(P:Program)(n:Nat)(t:TypeId)(ls:List dN):Prop:=
 (((isAgg t).run P=λw=> .ok true w)/\∀(w:World) (xs ys:Array Value) (b:Bool),bG ls xs.toList ys.toList=some b->(Op.equalIn n t (.agg xs) (.agg ys)).run P w= .ok b w)∨
 (((isAgg t).run P=λw=> .ok false w)/\∃l,ls=[l]/\∀(w:World) (x y:Value) (b:Bool),iy l x y=some b->(Op.equalIn n t x y).run P w= .ok b w)
theorem take_one{α:Type}{c:List α}{off:Nat}(h:off<c.length):(c.drop off).take 1=[c[off]]:=by
 rw[List.drop_eq_getElem_cons h,List.take_succ_cons,List.take_zero]
theorem A8{t:TypeId}{ls:List dN}{n off:Nat}{xs ys:Array Value}{b:Bool}(hs:dH P t=some ls.length)(hE:EqT P n t ls)
 (hb:bG ls ((xs.toList.drop off).take ls.length) ((ys.toList.drop off).take ls.length)=some b)(w:World):
 ∃x y,(part t xs off).run P w= .ok x w/\(part t ys off).run P w= .ok y w/\(Op.equalIn n t x y).run P w= .ok b w:=by
 have ex:∀(c:Array Value),(c.extract off (off+ls.length)).toList=(c.toList.drop off).take ls.length:=by intro c;simp
 rcases hE with⟨hag,hE⟩|⟨hag,l,rfl,hE⟩
 ·refine⟨_,_,?_,?_,hE w (xs.extract off (off+ls.length)) (ys.extract off (off+ls.length)) b (by rw[ex,ex];exact hb)⟩<;>
   simp[part,hag,run_sizeOf hs]
 ·have hl:=iK hb;have hx:off<xs.toList.length:=by have:=hl.1;simp at this;simp;omega
  have hy:off<ys.toList.length:=by have:=hl.2;simp at this;simp;omega
  rw[show [l].length=1 from rfl,take_one hx,take_one hy]at hb;simp only[bG]at hb;have hb':iy l xs.toList[off] ys.toList[off]=some b:=by
   split at hb
   ·rename_i h;cases hb;exact h
   ·rename_i h;cases hb;exact h
   ·cases hb
  have h1:off<xs.size:=by simpa using hx
  have h2:off<ys.size:=by simpa using hy
  exact⟨xs.toList[off],ys.toList[off],by simp[part,hag,h1],by simp[part,hag,h2],hE w _ _ b hb'⟩
theorem uk{n:Nat}{t:TypeId}{l:List dN}(hs:dH P t=some l.length)(hE:EqT P n t l)(w:World)(xs ys:Array Value):∀(k i:Nat) (b:Bool),
 bG (fR k l) (xs.toList.drop (i*l.length)) (ys.toList.drop (i*l.length))=some b->(Op.eqItems n t l.length xs ys (List.range' i k)).run P w= .ok b w
 |0,i,b,h=>by
  simp only[fR]at h;have hb:b=true:=by
   revert h;cases xs.toList.drop (i*l.length)<;>cases ys.toList.drop (i*l.length)<;>simp[bG]
  subst hb;simp[Op.eqItems]
 |k+1,i,b,h=>by
  simp only[fR,dQ]at h;obtain⟨b1,b2,g1,g2,rfl⟩:=iJ h;obtain⟨x,y,p1,p2,p3⟩:=A8 hs hE g1 w;rw[List.drop_drop,List.drop_drop,show i*l.length+l.length=(i+1)*l.length by rw[Nat.add_mul,Nat.one_mul]]at g2;have ih:=uk hs hE w xs ys k (i+1) b2 g2;simp only[List.range'_succ,Op.eqItems,Sem.run_bind,p1,p2,p3,Result.andThen_ok];cases b1
  ·simp
  ·simpa using ih
theorem sQ{d n:Nat}(ih:∀t ls,dA P d t=some ls->EqT P n t ls)(w:World)(xs ys:Array Value):∀(fs:List Field) (off:Nat) (ls:List dN) (b:Bool),
 goL P (dA P d) off fs=some ls->bG ls (xs.toList.drop off) (ys.toList.drop off)=some b->(Op.eqFields n xs ys fs).run P w= .ok b w
 |[],off,ls,b,hl,h=>by
  simp only[goL]at hl;cases hl;have hb:b=true:=by
   revert h;cases xs.toList.drop off<;>cases ys.toList.drop off<;>simp[bG]
  subst hb;simp[Op.eqFields]
 |f::fs,off,ls,b,hl,h=>by
  simp only[goL]at hl;split at hl
  ·cases hl
  ·rename_i hne;have hn:f.name≠ "_" :=fun e=>hne (.inl e)
   have ho:f.offset=off:=Classical.byContradiction λe=>hne (.inr e);split at hl
   ·rename_i l s h1 h2;split at hl
    ·rename_i hls;split at hl
     ·rename_i m hm;cases hl;rw[dQ]at h;obtain⟨b1,b2,g1,g2,rfl⟩:=iJ h;rw[←ho]at g1;obtain⟨x,y,p1,p2,p3⟩:=A8 (by rw[h2,hls]) (ih _ _ h1) g1 w;rw[List.drop_drop,List.drop_drop,hls]at g2;have ih':=sQ ih w xs ys fs (off+s) m b2 hm g2;simp only[Op.eqFields,hn,ne_eq,not_false_eq_true,if_true,Sem.run_bind,p1,p2,p3,Result.andThen_ok];cases b1
      ·simp
      ·simpa using ih'
     ·cases hl
    ·cases hl
   ·cases hl
theorem mK:∀(d:Nat) (t:TypeId) (ls:List dN),dA P d t=some ls->∀n,EqT P (d+n) t ls
 |0,_,_,h,_=>by simp[dA]at h
 |d+1,t,ls,h,n=>by
  have hdn:d+1+n=(d+n)+1:=by omega
  rw[hdn];unfold dA at h;have ag:∀de b,P.underlying t=some de->(match de with| .struct _| .array _ _=>true|_=>false)=b->(isAgg t).run P=λw=> .ok b w:=by
   intro de b hd hb;funext w;simp only[isAgg,Sem.run_bind,run_underlying hd,Result.andThen_ok];cases de<;>cases hb<;>rfl
  split at h
  ·rename_i hd;cases h;refine .inr ⟨ag _ _ hd rfl, .b,rfl,λw x y b hb=> ?_⟩;cases gi hb;simp[Op.equalIn,run_underlying hd]
  ·rename_i k hd;cases h;refine .inr ⟨ag _ _ hd rfl, .i k,rfl,λw x y b hb=> ?_⟩;cases gi hb;simp[Op.equalIn,run_underlying hd]
  ·rename_i hd;cases h;refine .inr ⟨ag _ _ hd rfl, .s,rfl,λw x y b hb=> ?_⟩;cases gi hb;simp[Op.equalIn,run_underlying hd,beq_toListBytes]
  ·rename_i k el hd;split at h
   ·rename_i l s h1 h2;split at h
    ·rename_i hls;cases h;refine .inl ⟨ag _ _ hd rfl,λw xs ys b hb=> ?_⟩;have h2':=h2;simp only[dH,Option.map_eq_some_iff]at h2';obtain⟨i,hi,hs⟩:=h2';rw[run_equalIn_array w (d+n) xs ys hd hi];have hc:P.cellsOf el=l.length:=by simp[Program.cellsOf,hi,hs,hls]
     rw[hc,List.range_eq_range'];exact uk (by rw[h2,hls]) (mK d el l h1 n) w xs ys k 0 b (by simpa using hb)
    ·cases h
   ·cases h
  ·rename_i fs hd;split at h
   ·cases h
   ·rename_i hst;refine .inl ⟨ag _ _ hd rfl,λw xs ys b hb=> ?_⟩;have hfs:P.fieldsOf t=fs:=by simp[Program.fieldsOf,hd]
    rw[run_equalIn_struct w (d+n) t xs ys (by rw[hfs];exact hd) (by simpa using hst),hfs];exact sQ (λt ls h=>mK d t ls h n) w xs ys fs.toList 0 ls b h (by simpa using hb)
  ·cases h
theorem qR(hR:R P μ h w)(hE:cm μ e a.tmps){op:BinOp}{t:TypeId}{n:Bool}{ls:List dN}{x y:Operand}{v:Value}{h':Heap}(hn:uK op=some n)(hl:dA P 100 t=some ls)
 (hg:P.eqGuardType P.depth t=false)(hx:aC P x=true)(hy:aC P y=true)(h1:aop h base e (.bin (.agg n ls) x y)=some (.val v h'))
 (hag:∃fs,P.underlying t=some (.struct fs)∨∃k el,P.underlying t=some (.array k el)):
 Ran P μ h w base (((do eqGuard op t x y (a.eval x) (a.eval y);binOp op t (a.eval x) (a.eval y)).run P w).andThen λv w=> .ok (.value v) w) v h':=by
 obtain⟨xv,hxv,hh⟩:=an h1;obtain⟨yv,hyv,hh⟩:=an hh;have key:∃xs ys b,xv= .agg xs/\yv= .agg ys/\bG ls xs.toList ys.toList=some b/\v= .bool (bif n then !b else b)/\h'=h:=by
  split at hh
  ·rename_i q1 q2;split at hh
   ·rename_i b hb;cases hh;exact⟨_,_,b,rfl,rfl,hb,rfl,rfl⟩
   ·cases hh
  ·cases hh
 obtain⟨xs,ys,b,rfl,rfl,hb,rfl,rfl⟩:=key;clear hh;obtain⟨xs',ex,hx'⟩:=(bQ hR hE hx hxv).oK;obtain⟨ys',ey,hy'⟩:=(bQ hR hE hy hyv).oK;have g:=fh hb;have e1:xs'=xs:=dO (g.1 _ _ hx');have e2:ys'=ys:=dO (g.2 _ _ hy');subst e1;subst e2;rw[ex,ey];have hq:(Op.equalIn 10000 t (.agg xs') (.agg ys')).run P w= .ok b w:=by
  have:=mK 100 t ls hl 9900;rcases this with⟨_,hE⟩|⟨hag',_⟩
  ·exact hE w xs' ys' b hb
  ·have:=congrFun hag' w;rcases hag with⟨fs,hd|⟨k,el,hd⟩⟩<;>simp[isAgg,run_underlying hd]at this
 refine .pure hR (v':= .bool (bif n then !b else b)) ?_ (.bool _);rcases yx hn with⟨rfl,rfl⟩|⟨rfl,rfl⟩
 ·simp[run_eqGuard_agg w .eql t x y xs' ys' hg,run_eql_struct w t xs' ys',hq]
 ·simp[run_eqGuard_agg w .neq t x y xs' ys' hg,run_neq_struct w t xs' ys',hq]
theorem QU(hR:R P μ h w)(hE:cm μ e a.tmps){op:UnOp}{x:Operand}{v:Value}{h':Heap}(hx:aC P x=true)(h1:aop h base e (.un op x)=some (.val v h')):
 Ran P μ h w base (((Op.unary op (a.eval x)).run P w).andThen λv w=> .ok (.value v) w) v h':=by
 obtain⟨xv,hxv,hh⟩:=an h1;obtain⟨v0,hv,hh⟩:=an hh;cases hh;have g:=bQ hR hE hx hxv;generalize a.eval x=xv' at*;unfold ry at hv;split at hv
 ·cases hv;cases g;refine .pure hR ?_ (.int _ _);simp[Op.unary,Op.intArith,rC]
 ·simp only[blt_eq,cond_eq_ite]at hv;split at hv
  ·rename_i n hb;simp only[decide_eq_true_eq]at hb;cases hv;cases g;refine .pure hR (v':= .int .u64 (.ofNat (18446744073709551615-n))) ?_ (.int _ _);have e1:(BitVec.ofInt IntKind.u64.bits IntKind.u64.max ^^^ BitVec.ofInt IntKind.u64.bits (Int.ofNat n)).toNat=18446744073709551615-n:=by
    have e0:BitVec.ofInt 64 IntKind.u64.max=BitVec.allOnes 64:=by decide
    show(BitVec.ofInt 64 IntKind.u64.max ^^^ BitVec.ofInt 64 (Int.ofNat n)).toNat=_;rw[e0,BitVec.allOnes_xor,BitVec.toNat_not,show(BitVec.ofInt 64 (Int.ofNat n)).toNat=n from nW n hb]
   have e2:(Op.intBits .xor .u64 IntKind.u64.max (Int.ofNat n)).run P w= .ok (.int .u64 (IntKind.u64.wrap ((18446744073709551615-n:Nat):Int))) w:=by
    simp only[Op.intBits,e1,Sem.run_pure]
   have e3:Op.unary .xor (.int .u64 (Int.ofNat n))=Op.intBits .xor .u64 IntKind.u64.max (Int.ofNat n):=rfl;rw[e3,e2,wrap_u64 _ (by omega)];rfl
  ·cases hv
 ·cases hv;cases g;refine .pure hR ?_ (.bool _);simp[Op.unary]
 ·cases hv
theorem BZ(hR:R P μ h w)(hE:cm μ e a.tmps){t:TypeId}{d:TypeDesc}{x:Operand}{v:Value}{h':Heap}(hd:P.underlying t=some d)(hni:∀m,d≠ .interface m)(hx:aC P x=true)(h1:aop h base e (.ia t x)=some (.val v h')):
 Ran P μ h w base (((Instr.makeInterface t (a.eval x)).run P w).andThen λv w=> .ok (.value v) w) v h':=by
 obtain⟨xv,hxv,hh⟩:=an h1;cases hh;refine .pure hR (v':= .iface t (a.eval x)) ?_ (.iface (bQ hR hE hx hxv));simp only[Instr.makeInterface,Sem.run_bind,run_underlying hd,Result.andThen_ok];cases d<;>first|rfl|exact(hni _ rfl).elim
theorem EJ(hR:R P μ h w)(hE:cm μ e a.tmps){f:FuncId}{fs cs:Array Operand}{v:Value}{h':Heap}(hf:fs.toList.all (aC P)=true)(hc:cs.toList.all (aC P)=true)
 (h1:aop h base e (.dU (.func f) fs.toList cs.toList)=some (.val v h')):
 Ran P μ h w base (((Instr.makeFunc (.func f) (fs.map a.eval) (cs.map a.eval)).run P w).andThen λv w=> .ok (.value v) w) v h':=by
 simp only[aop]at h1;split at h1
 ·rename_i fv cv hfv hcv;cases h1;refine .pure hR (v':= .func (.func f) (fs.map a.eval) (cs.map a.eval)) (by simp[Instr.makeFunc]) (.GH (.func f) ?_ ?_)
  ·simpa using rS hR hE hf hfv
  ·simpa using rS hR hE hc hcv
 ·cases h1
theorem EK(hR:R P μ h w)(hE:cm μ e a.tmps){o:Oper}{x:Operand}{v:Value}{h':Heap}(ho:o.op= .nilCheck x)(hx:aC P x=true)(h1:aop h base e (.bC x)=some (.val v h')):
 Ran P μ h w base ((execOp a.eval o).run P w) v h':=by
 obtain⟨xv,hxv,hh⟩:=an h1;have g:=bQ hR hE hx hxv;split at hh<;>first|(cases hh;done)|skip
 rename_i n1 n2 n3 n4;cases hh;refine .pure hR (v':=a.eval x) ?_ g;simp only[execOp,ho];generalize a.eval x=xv' at*;cases g<;>first|rfl|(exact(n1 rfl).elim)|(exact(n2 rfl).elim)|(exact(n3 rfl).elim)|skip
 rename_i hf _ _ _ _;cases hf<;>rfl
def E8(cs:List Value)(off:Nat):Option Nat->Option Value
 |none=>aT cs off
 |some n=>bif Nat.beq (bK (bB n (bA off cs))) n then some (.agg (bB n (bA off cs)).toArray)else none
theorem wH{t:TypeId}{n:Option Nat}(hn:tW P t=some n){cs:List Value}{cs':Array Value}(hc:LR μ cs cs'.toList){off:Nat}{v:Value}(hv:E8 cs off n=some v)(w:World):
 ∃v',(part t cs' off).run P w= .ok v' w/\VR μ v v':=by
 obtain⟨g1,g2⟩:=wF hn w;cases n with
 |none=>
  obtain⟨v',q1,q2⟩:=hc.get hv;have:cs'[off]? =some v':=by simpa using q1
  exact⟨v',by simp[part,g1,this],q2⟩
 |some n=>
  simp only[E8,cond_eq_ite,cZ,cw,bM]at hv;split at hv
  ·cases hv;have hl:=(hc.drop off).take n;refine⟨.agg (cs'.extract off (off+n)),by simp[part,g1,run_sizeOf (g2 n rfl)], .DY ?_⟩;simpa using hl
  ·cases hv
theorem Iq(hR:R P μ h w)(hE:cm μ e a.tmps){s:TypeId}{fs:Array Field}{i:Nat}{f:Field}{n:Option Nat}{x:Operand}{v:Value}{h':Heap}(hd:P.underlying s=some (.struct fs))
 (hf:fs[i]? =some f)(hn:tW P f.type=some n)(hx:aC P x=true)(h1:aop h base e (.field f.offset n x)=some (.val v h')):
 Ran P μ h w base (((Instr.field s (a.eval x) i).run P w).andThen λv w=> .ok (.value v) w) v h':=by
 have key:∃cs,ev h e x=some (.agg cs)/\E8 cs.toList f.offset n=some v/\h'=h:=by
  simp only[aop]at h1;split at h1
  ·rename_i cs hc;cases n with
   |none=>obtain⟨v0,g1,g2⟩:=an h1;cases g2;exact⟨cs,hc,g1,rfl⟩
   |some n=>
    simp only[cond_eq_ite]at h1;split at h1
    ·rename_i hb;cases h1;exact⟨cs,hc,by simp[E8,hb],rfl⟩
    ·cases h1
  ·cases h1
 obtain⟨cs,hc,hv,rfl⟩:=key;obtain⟨cs',e1,hl⟩:=(bQ hR hE hx hc).oK;obtain⟨v',g1,g2⟩:=wH hn hl hv w;refine .pure hR ?_ g2;simp[Instr.field,run_underlying hd,hf,e1,asAgg,g1]
theorem K4(hR:R P μ h w)(hE:cm μ e a.tmps){t el:TypeId}{len size:Nat}{n:Option Nat}{x i:Operand}{v:Value}{h':Heap}(hd:P.underlying t=some (.array len el))
 (hs:dH P el=some size)(hn:tW P el=some n)(hx:aC P x=true)(hi:aC P i=true)(h1:aop h base e (.rW len size n x i)=some (.val v h')):
 Ran P μ h w base (((Instr.index t (a.eval x) (a.eval i)).run P w).andThen λv w=> .ok (.value v) w) v h':=by
 have key:∃cs k j,ev h e x=some (.agg cs)/\ev h e i=some (.int k (.ofNat j))/\j<len/\E8 cs.toList (j*size) n=some v/\h'=h:=by
  simp only[aop]at h1;split at h1
  ·rename_i cs k j hc hj;simp only[blt_eq,cond_eq_ite]at h1;split at h1
   ·rename_i hlt;simp only[decide_eq_true_eq]at hlt;cases n with
    |none=>obtain⟨v0,g1,g2⟩:=an h1;cases g2;exact⟨cs,k,j,hc,hj,hlt,g1,rfl⟩
    |some n=>
     simp only[]at h1;split at h1
     ·rename_i hb;cases h1;exact⟨cs,k,j,hc,hj,hlt,by simp[E8,hb],rfl⟩
     ·cases h1
   ·cases h1
  ·cases h1
 obtain⟨cs,k,j,hc,hj,hlt,hv,rfl⟩:=key;obtain⟨cs',e1,hl⟩:=(bQ hR hE hx hc).oK;have g:=bQ hR hE hi hj;generalize a.eval i=iv at*;cases g;obtain⟨v',g1,g2⟩:=wH hn hl hv w;refine .pure hR ?_ g2;simp[Instr.index,run_underlying hd,asIntOf,e1,run_sizeOf hs,g1,hlt]
theorem K5(hR:R P μ h w)(hE:cm μ e a.tmps){t:TypeId}{x i:Operand}{v:Value}{h':Heap}(hd:P.underlying t=some .string)(hx:aC P x=true)(hi:aC P i=true)
 (h1:aop h base e (.tv x i)=some (.val v h')):Ran P μ h w base (((Instr.index t (a.eval x) (a.eval i)).run P w).andThen λv w=> .ok (.value v) w) v h':=by
 simp only[aop]at h1;split at h1
 ·rename_i s k j hs hj;split at h1
  ·rename_i b hb;cases h1;have g1:=bQ hR hE hx hs;have g2:=bQ hR hE hi hj;generalize a.eval x=xv at*;generalize a.eval i=iv at*;cases g1;cases g2;rw[cA]at hb;have hlt:j<s.data.toList.length:=(List.getElem?_eq_some_iff.1 hb).1;have hb':s[j]? =some b:=by
    have h0:j<s.size:=by show j<s.data.size;simpa using hlt
    rw[getElem?_pos s j h0];have:=(List.getElem?_eq_some_iff.1 hb).2;rw[←this];rfl
   refine .pure hR (v':= .int .u8 b.toNat) ?_ (.int _ _);have hif:(if(0:Int)<=Int.ofNat j then s[(Int.ofNat j).toNat]? else none)=some b:=(if_pos (Int.natCast_nonneg j)).trans hb';simp only[Instr.index,asIntOf,Sem.run_bind,Sem.run_pure,Result.andThen_ok,run_underlying hd,hif]
  ·cases h1
 ·cases h1
theorem wv(hR:R P μ h w){ts:Array TypeId}{t ty:TypeId}{xs:Array Value}{x:Value}{n:Nat}{v:Value}{h':Heap}(ht:ts[0]? =some t)(hxs:xs[0]? =some x)
 (hd:(∃el,P.underlying t=some (.array n el))∨∃p el,P.underlying t=some (.pointer p)/\P.underlying p=some (.array n el))(h1:aop h base e (.jA n)=some (.val v h')):
 Ran P μ h w base (((Builtin.len_ ts ty xs).run P w).andThen λv w=> .ok (.value v) w) v h':=by
 cases h1;refine .pure hR ?_ (.int _ _);rcases hd with⟨el,hd⟩|⟨p,el,hd,hp⟩
 ·simp only[Builtin.len_,ht,hxs,Sem.run_bind,run_underlying hd,Result.andThen_ok];cases x<;>rfl
 ·simp only[Builtin.len_,ht,hxs,Sem.run_bind,run_underlying hd,Result.andThen_ok];cases x<;>simp[run_underlying hp,goInt]
theorem MR.length{es:List (Value×Value)}{ms:List MapEntry}(hm:MR μ es ms):es.length=ms.length:=by
 induction hm with
 |nil=>rfl
 |cons _ _ _ ih=>simp[ih]
theorem fD{r:Nat}{o:Obj}(hr:w.heap[r]? =some o)(hn:∀c el fz,o≠ .cells c el fz):(getObj r).run P w= .ok o w:=by
 cases o<;>first|(simp only[getObj,Sem.run,hr];done)|exact(hn _ _ _ rfl).elim
theorem BY(hR:R P μ h w)(hE:cm μ e a.tmps){ts:Array TypeId}{t ty:TypeId}{xs:Array Value}{x:Operand}{v:Value}{h':Heap}{k:Nat}(ht:ts[0]? =some t)(hxs:xs[0]? =some (a.eval x))
 (hd:(k=0/\P.underlying t=some .string)∨(k=1/\∃el,P.underlying t=some (.slice el))∨(k=2/\∃q el,P.underlying t=some (.map q el)))(hx:aC P x=true)(h1:aop h base e (.len k x)=some (.val v h')):
 Ran P μ h w base (((Builtin.len_ ts ty xs).run P w).andThen λv w=> .ok (.value v) w) v h':=by
 rcases hd with⟨rfl,hd⟩|⟨rfl,el,hd⟩|⟨rfl,q,el,hd⟩<;>simp only[aop]at h1
 ·split at h1
  ·rename_i s hs;cases h1;have g:=bQ hR hE hx hs;generalize a.eval x=xv at*;cases g;refine .pure hR ?_ (.int _ _);simp[Builtin.len_,ht,hxs,run_underlying hd,goInt]
  ·cases h1
 ·split at h1
  ·rename_i s hs;cases h1;have g:=bQ hR hE hx hs;generalize a.eval x=xv at*;cases g<;>(refine .pure hR ?_ (.int _ _);simp[Builtin.len_,ht,hxs,run_underlying hd,goInt])
  ·cases h1
 ·split at h1
  ·rename_i hs;cases h1;have g:=bQ hR hE hx hs;generalize a.eval x=xv at*;cases g;refine .pure hR ?_ (.int _ _);simp[Builtin.len_,ht,hxs,run_underlying hd,goInt]
  ·rename_i r hs;split at h1
   ·rename_i es he;cases h1;have g:=bQ hR hE hx hs;generalize a.eval x=xv at*;cases g with
    |map hk=>
     obtain⟨ents,clock,g1,g2,_⟩:=hR.uD he hk;refine .pure hR (v':= .int .i64 (bK es)) ?_ (.int _ _);have hl:ents.size=bK es:=by rw[bM,g2.length];simp
     simp[Builtin.len_,ht,hxs,run_underlying hd,goInt,fD g1 (by simp),hl]
   ·cases h1
  ·cases h1
theorem Og(hR:R P μ h w)(hE:cm μ e a.tmps){ts:Array TypeId}{t ty el:TypeId}{xs:Array Value}{x:Operand}{v:Value}{h':Heap}(ht:ts[0]? =some t)(hxs:xs[0]? =some (a.eval x))
 (hd:P.underlying t=some (.slice el))(hx:aC P x=true)(h1:aop h base e (.cap x)=some (.val v h')):
 Ran P μ h w base (((Builtin.cap_ ts ty xs).run P w).andThen λv w=> .ok (.value v) w) v h':=by
 simp only[aop]at h1;split at h1
 ·rename_i b n c hs;simp only[beq_eq,cond_eq_ite]at h1;split at h1
  ·cases h1
  ·rename_i hc;cases h1;have g:=bQ hR hE hx hs;generalize a.eval x=xv at*;cases g with
   |iN _ _=>refine .pure hR ?_ (.int _ _);simp[Builtin.cap_,ht,hxs,run_underlying hd,goInt]
   |slice _ _ _=>refine .pure hR ?_ (.int _ _);simp[Builtin.cap_,ht,hxs,run_underlying hd,goInt]
   |eO _ _ _ _=>simp at hc
   |jY s=>refine .pure hR ?_ (.int _ _);simp[Builtin.cap_,ht,hxs,run_underlying hd,goInt]
 ·cases h1
theorem MW{mx:Bool}:∀{l:List Value} {x v:Value} {l':List Value} {x':Value},mmA mx x l=some v->VR μ x x'→LR μ l l'→l≠[]→
 (∃k n,v= .int k n)/\(l'.foldlM (if mx then Builtin.max2 else Builtin.min2) x').run P w= .ok v w
 |[],_,_,_,_,_,_,_,h=>absurd rfl h
 |y::l,x,v,l',x',hm,hx,hl,hne0=>by
  clear hne0;cases hl with
  |cons hy hl=>
   simp only[mmA]at hm;split at hm
   ·rename_i k p k' q;split at hm
    ·rename_i hk;subst hk;cases hx;cases hy;have step:(if mx then Builtin.max2 else Builtin.min2) (.int k p) (.int k q)=Pure.pure (.int k (if mx then(if q>p then q else p)else(if q<p then q else p))):=by
      cases mx<;>rfl
     simp only[List.foldlM_cons,Sem.run_bind,step,Sem.run_pure,Result.andThen_ok];cases l with
     |nil=>
      cases hl;simp only[mmA]at hm;cases hm;exact⟨⟨_,_,rfl⟩,by simp⟩
     |cons z l=>exact MW hm (.int _ _) hl (by simp)
    ·cases hm
   ·cases hm
theorem wz(hR:R P μ h w)(hE:cm μ e a.tmps){ts:Array TypeId}{ty:TypeId}{mx:Bool}{args:Array Operand}{v:Value}{h':Heap}(ha:args.toList.all (aC P)=true)(h2:2<=args.size)
 (h1:aop h base e (.dK mx args.toList)=some (.val v h')):
 Ran P μ h w base (((if mx then Builtin.max_ ts ty (args.map a.eval)else Builtin.min_ ts ty (args.map a.eval)).run P w).andThen λv w=> .ok (.value v) w) v h':=by
 simp only[aop]at h1;split at h1
 ·rename_i x l hev;obtain⟨v0,hv,hh⟩:=an h1;cases hh;have g:=rS hR hE ha hev;have hmap:(args.map a.eval).toList=args.toList.map a.eval:=by simp
  have hlen:(x::l).length=args.size:=by rw[g.length];simp
  cases hq:args.toList.map a.eval with
  |nil=>rw[hq]at g;cases g
  |cons x' l'=>
   rw[hq]at g;cases g with
   |cons gx gl=>
    have hne:l≠[]:=by intro e;subst e;simp at hlen;omega
    obtain⟨⟨k,n,rfl⟩,hrun⟩:=MW (P:=P) (w:=w) hv gx gl hne;refine .pure hR (v':= .int k n) ?_ (.int _ _);cases mx
    ·simp only[Bool.false_eq_true,if_false]at hrun⊢;simp only[Builtin.min_,hmap,hq,hrun,Result.andThen_ok]
    ·simp only[if_true]at hrun⊢;simp only[Builtin.max_,hmap,hq,hrun,Result.andThen_ok]
 ·cases h1
theorem B8(hR:R P μ h w)(hE:cm μ e a.tmps){xt t:TypeId}{d:TypeDesc}{ok:Bool}{z:Value}{x:Operand}{v:Value}{h':Heap}(hd:P.underlying t=some d)(hni:∀m,d≠ .interface m)(hz:gJ P t=some z)(hzn:flat z=true)
 (hx:aC P x=true)(h1:aop h base e (.jM t ok z x)=some (.val v h')):
 Ran P μ h w base (((Instr.typeAssert (a.eval x) xt t ok).run P w).andThen λv w=> .ok (.value v) w) v h':=by
 have zz:VR μ z z:=(VR.flat hzn).1;have tup:∀{v v'},VR μ v v'→∀b,VR μ (.tuple #[v, .bool b]) (.tuple #[v', .bool b]):=λhv b=> .jZ (.cons hv (.cons (.bool b) .nil));simp only[aop]at h1;split at h1
 ·rename_i hs;have g:=bQ hR hE hx hs;generalize a.eval x=xv at*;cases g;cases ok
  ·cases h1
  ·cases h1;refine .pure hR (v':= .tuple #[z, .bool false]) ?_ (tup zz false);simp only[Instr.typeAssert,Sem.run_bind,run_underlying hd,Result.andThen_ok];cases d<;>first|exact(hni _ rfl).elim|simp[dF hz]
 ·rename_i t' q hs;have g:=bQ hR hE hx hs;generalize a.eval x=xv at*;cases g with
  |iface gv=>
   rename_i q';split at h1
   ·rename_i ht;cases ok
    ·cases h1;refine .pure hR (v':=q') ?_ gv;simp only[Instr.typeAssert,Sem.run_bind,run_underlying hd,Result.andThen_ok];cases d<;>first|exact(hni _ rfl).elim|simp[ht]
    ·cases h1;refine .pure hR (v':= .tuple #[q', .bool true]) ?_ (tup gv true);simp only[Instr.typeAssert,Sem.run_bind,run_underlying hd,Result.andThen_ok];cases d<;>first|exact(hni _ rfl).elim|simp[ht]
   ·rename_i ht;cases ok
    ·cases h1
    ·cases h1;refine .pure hR (v':= .tuple #[z, .bool false]) ?_ (tup zz false);simp only[Instr.typeAssert,Sem.run_bind,run_underlying hd,Result.andThen_ok];cases d<;>first|exact(hni _ rfl).elim|simp[ht,dF hz]
 ·cases h1
theorem qv{v v':Value}(hv:VR μ v v'):LR μ (cellsOf v) v'.cells.toList:=by
 cases hv with
 |agg h1 h2=>exact .wu h1 h2
 |_=>refine .cons ?_ .nil;constructor<;>assumption
theorem Dt{l l':List Value}(hl:LR μ l l'):cK l'=cK l:=by
 induction hl with
 |nil=>rfl
 |cons hv _ ih=>cases hv<;>simp[cK,ih]
theorem sV{α:Type}(l:List α)(i:Nat)(x:α):(qD l i x).length=l.length:=by simp[j9]
theorem mN{α:Type}:∀(m:List α) (l:List α) (o:Nat),(bZ l o m).length=l.length
 |[],l,o=>by cases l<;>rfl
 |y::m,l,o=>by
  have:bZ l o (y::m)=bZ (qD l o y) (o+1) m:=by cases l<;>rfl
  rw[this,mN m,sV]
theorem kN{α:Type}(l:List α)(o:Nat)(y:α)(m:List α):bZ l o (y::m)=bZ (qD l o y) (o+1) m:=by cases l<;>rfl
theorem l8{α:Type}:∀(m:List α) (l:List α) (o i:Nat),o+m.length<=l.length->(bZ l o m)[i]? =if o<=i/\i<o+m.length then m[i-o]? else l[i]?
 |[],l,o,i,_=>by
  have:bZ l o []=l:=by cases l<;>rfl
  rw[this,if_neg (by intro ⟨h1,h2⟩;simp at h2;omega)]
 |y::m,l,o,i,ho=>by
  simp only[List.length_cons]at ho;rw[kN,l8 m _ _ _ (by rw[sV];omega),j9,List.getElem?_set];by_cases h1:o+1<=i/\i<o+1+m.length
  ·rw[if_pos h1,if_pos (by simp;omega),show i-o=(i-(o+1))+1 by omega];simp
  ·rw[if_neg h1];by_cases h2:o=i
   ·subst h2;rw[if_pos rfl,if_pos (by omega),if_pos (by simp)];simp
   ·rw[if_neg h2,if_neg (by simp;omega)]
theorem kX(r:Nat):∀(l:List Value) (o i:Nat) (w:World) (c:Array Value) (el:TypeId) (fz:Nat×Nat),w.heap[r]? =some (.cells c el fz)->o+i+l.length<=c.size→
 (∀j,j<c.size→¬ (fz.1≤j∧j<fz.2))→cK l=true→∃w' c',(storeCells ⟨r,o,none⟩ l i).run P w= .ok () w'∧w'.heap.size=w.heap.size∧(∀r',r'≠r→w'.heap[r']? =w.heap[r']?)∧
   w'.heap[r]? =some (.cells c' el fz)/\c'.size=c.size/\c'.toList=bZ c.toList (o+i) l/\Same w w'
 |[],o,i,w,c,el,fz,hr,_,_,_=>⟨w,c,by simp[storeCells],rfl,λ_ _=>rfl,hr,rfl,by cases c.toList<;>rfl, .refl w⟩
 |v::l,o,i,w,c,el,fz,hr,hn,hf,hone=>by
  simp only[List.length_cons]at hn;have hone':cK l=true:=by cases v<;>simp[cK]at hone<;>exact hone
  have hcell:∃x,w.cell? ⟨r,o+i,none⟩=some x:=⟨c[o+i]'(by omega),by rw[cell_of hr];simp[show o+i<c.size by omega]⟩;obtain⟨x,hcell⟩:=hcell;have hfz:w.frozen? ⟨r,o+i,none⟩=false:=by
   have:=hf (o+i) (by omega);simp only[World.frozen?,hr];simpa using this
  have hrun:(store ⟨r,o+i,none⟩ v).run P w= .ok () (w.setCell ⟨r,o+i,none⟩ v):=by
   cases v<;>simp[cK]at hone<;>simp[store,Sem.run,hcell,hfz]
  have h1:(w.setCell ⟨r,o+i,none⟩ v).heap[r]? =some (.cells (c.setIfInBounds (o+i) v) el fz):=by
   simp[World.setCell,Array.getElem?_modify,hr]
  have h2:∀r',r'≠r->(w.setCell ⟨r,o+i,none⟩ v).heap[r']? =w.heap[r']? :=by
   intro r' hne;simp[World.setCell,Array.getElem?_modify,Ne.symm hne]
  have h3:(w.setCell ⟨r,o+i,none⟩ v).heap.size=w.heap.size:=by simp[World.setCell]
  obtain⟨w',c',g1,g2,g3,g4,g5,g6,g7⟩:=kX r l o (i+1) (w.setCell ⟨r,o+i,none⟩ v) (c.setIfInBounds (o+i) v) el fz h1 (by simp;omega) (by simpa using hf) hone';refine⟨w',c',?_,by omega,λr' hne=>(g3 r' hne).trans (h2 r' hne),g4,by simpa using g5,?_,Same.trans (b:=w.setCell ⟨r,o+i,none⟩ v) ⟨rfl,rfl,rfl,by first|exact Nat.le_refl _|exact Nat.le_add_right _ _⟩ g7⟩
  ·simp only[storeCells,Sem.run_bind,fu,hrun,Result.andThen_ok,g1]
  ·rw[g6,kN,j9];simp[Nat.add_assoc]
theorem R.ot(hR:R P μ h w){b:Nat}{vs:List Value}{sz:Nat}{k:Blk}(hb:h.get b=some (.cells vs true sz))(hk:μ b=some k){l l':List Value}(hl:LR μ l l'){o:Nat}(ho:o+l.length<=vs.length)
 (hone:cK l=true):∃w',(storeCells ⟨k.r,k.d+o,none⟩ l').run P w= .ok () w'∧R P μ (h.wr base b (.cells (bZ vs o l) true sz)) w'∧St μ h w μ (h.wr base b (.cells (bZ vs o l) true sz)) w':=by
 obtain⟨hsz,c,el,fz,hr,h1,h2,h3,h4⟩:=hR.obj b _ hb k hk;obtain⟨hd,he,hf⟩:=h4 rfl;have hll:=hl.length;obtain⟨w',c',g1,g2,g3,g4,g5,g6,g7⟩:=kX (P:=P) k.r l' (k.d+o) 0 w c el fz hr (by omega) hf (by rw[Dt hl];exact hone);refine⟨w',g1,hR.write hb rfl rfl hk g2 g3 (.AK hr g4 (by omega)) ?_ g7⟩;intro k' hk';rw[hk]at hk';cases hk';refine⟨hsz,c',el,fz,g4,by rw[mN];omega,by omega,λi hi=> ?_,λ_=>⟨hd,by omega,by rw[g5];exact hf⟩⟩;rw[mN]at hi;have hc:c'[k.d+i]? =(bZ c.toList (k.d+o+0) l')[k.d+i]? :=by rw[←g6];simp
 have hlen:k.d+o+0+l'.length<=c.toList.length:=by simp;omega
 rw[hc,l8 l' c.toList (k.d+o+0) (k.d+i) hlen];have hgv:gv (bZ vs o l) i=((if o<=i/\i<o+l.length then l[i-o]? else vs[i]?).getD undef):=by
  simp only[gv,cA];rw[l8 l vs o i ho]
 rw[hgv];by_cases hin:o<=i/\i<o+l.length
 ·rw[if_pos (by omega),if_pos hin,show k.d+i-(k.d+o+0)=i-o by omega];have hi':i-o<l.length:=by omega
  have:=hl.gv (i-o) hi';refine⟨gv l' (i-o),pJ (by omega),?_⟩;rw[pJ hi'];exact this
 ·rw[if_neg (by omega),if_neg hin];obtain⟨v',q1,q2⟩:=h3 i hi;refine⟨v',by simpa using q1,?_⟩;rw[pJ hi];exact q2
theorem R.uL(hR:R P μ h w){l:List Value}{c:Array Value}{el:TypeId}{fz:Nat×Nat}{w':World}{own:Bool}{sz:Nat}(hw:w'.heap=w.heap.push (.cells c el fz))(hfz:∀j,j<c.size->¬ (fz.1<=j/\j<fz.2))
 (hl:LR μ l (c.toList.take l.length))(hlen:l.length<=c.size)(hsm:Same w w':=by exact⟨rfl,rfl,rfl,by first|exact Nat.le_refl _|exact Nat.le_add_right _ _⟩):
 R P (upd μ h.next ⟨w.heap.size,0,c.size,sz⟩) (h.push (.cells l own sz)) w'∧
 St μ h w (upd μ h.next ⟨w.heap.size,0,c.size,sz⟩) (h.push (.cells l own sz)) w':=by
 have hno:∀k',μ h.next=some k'→False:=λk' h'=>Nat.lt_irrefl _ (hR.dom _ _ h').1
 refine hR.alloc (k:=⟨w.heap.size,0,c.size,sz⟩) hw rfl ?_ hsm;intro k hk;unfold upd at hk;rw[if_pos rfl]at hk;cases hk;refine⟨rfl,c,el,fz,by rw[hw];simp,by simpa using hlen,Nat.le_refl _,λi hi=> ?_,λ_=>⟨rfl,rfl,hfz⟩⟩;have hm:∀b k',μ b=some k'→upd μ h.next ⟨w.heap.size,0,c.size,sz⟩ b=some k':=λb k' hb=>by
  unfold upd;rw[if_neg];exact hb;intro e;subst e;exact hno _ hb
 have:=(hl.gv i hi).mono hm;refine⟨_,?_,this⟩;have hi':i<(c.toList.take l.length).length:=by rw[←hl.length];exact hi
 have q:=pJ hi';rw[List.getElem?_take_of_lt hi]at q;simpa using q
theorem R.newRow(hR:R P μ h w){l:List Value}{c:Array Value}{el:TypeId}{own:Bool}{sz:Nat}(hl:LR μ l (c.toList.take l.length))(hlen:l.length<=c.size):
 R P (upd μ h.next ⟨w.heap.size,0,c.size,sz⟩) (h.push (.cells l own sz)) {w with heap:=w.heap.push (.cells c el)}∧
 St μ h w (upd μ h.next ⟨w.heap.size,0,c.size,sz⟩) (h.push (.cells l own sz)) {w with heap:=w.heap.push (.cells c el)}:=
 hR.uL rfl (λj _=>by simp) hl hlen
theorem R.oP(hR:R P μ h w){l:List Value}{c:Array Value}{el:TypeId}{own:Bool}{sz:Nat}(hl:LR μ l c.toList):
 R P (upd μ h.next ⟨w.heap.size,0,c.size,sz⟩) (h.push (.cells l own sz)) {w with heap:=w.heap.push (.cells c el)}∧
 St μ h w (upd μ h.next ⟨w.heap.size,0,c.size,sz⟩) (h.push (.cells l own sz)) {w with heap:=w.heap.push (.cells c el)}:=by
 have e:l.length=c.size:=by rw[hl.length];simp
 exact hR.newRow (by rw[e,List.take_of_length_le (by simp)];exact hl) (by omega)
theorem dY(μ:Mu)(b:Nat)(k:Blk):upd μ b k b=some k:=by simp[upd]
theorem gu(el:TypeId)(c:Array Value)(w:World):(newRow el c).run P w= .ok ⟨w.heap.size,0,none⟩ {w with heap:=w.heap.push (.cells c el)}:=by
 simp[newRow,newObj,Sem.run]
theorem Oh(hR:R P μ h w){t:TypeId}{z:Value}{v:Value}{h':Heap}(hz:gJ P t=some z)(hs:cU (cellsOf z)=true)(h1:aop h base e (.new (cellsOf z))=some (.val v h')):
 Ran P μ h w base (((Instr.alloc t true (.tuple #[])).run P w).andThen λv w=> .ok (.value v) w) v h':=by
 cases h1;have hl:LR μ (cellsOf z) z.cells.toList:=by
  have:z.cells.toList=cellsOf z:=by cases z<;>rfl
  rw[this];exact(LR.cU hs).1
 obtain⟨g1,g2⟩:=hR.oP (el:=t) (own:=true) (sz:=1) hl;refine⟨_, .pointer (some ⟨w.heap.size,0,none⟩),_, .inl ?_,?_,g1,g2,AS.push _ _ _⟩
 ·simp only[Instr.alloc,Sem.run_bind,dF hz,Result.andThen_ok];simp[newVar,gu]
 ·exact VR.ptr (o:=0) (dY _ _ _)
theorem Of(hR:R P μ h w)(hE:cm μ e a.tmps){t:TypeId}{x:Operand}{v:Value}{h':Heap}(hx:aC P x=true)(h1:aop h base e (.box x)=some (.val v h')):
 Ran P μ h w base (((Instr.box t (a.eval x)).run P w).andThen λv w=> .ok (.value v) w) v h':=by
 obtain⟨xv,hxv,hh⟩:=an h1;cases hh;obtain⟨g1,g2⟩:=hR.oP (el:=t) (own:=true) (sz:=1) (qv (bQ hR hE hx hxv));refine⟨_, .pointer (some ⟨w.heap.size,0,none⟩),_, .inl ?_,?_,g1,g2,AS.push _ _ _⟩
 ·simp[Instr.box,newVar,gu]
 ·exact VR.ptr (o:=0) (dY _ _ _)
theorem Iw(hR:R P μ h w)(hE:cm μ e a.tmps){t:TypeId}{n:Nat}{x y:Operand}{v:Value}{h':Heap}(hn:dH P t=some n)(hx:aC P x=true)(hy:aC P y=true)
 (h1:aop h base e (.store n x y)=some (.val v h')):
 Ran P μ h w base (((Instr.storeAt t (a.eval x) (a.eval y)).run P w).andThen λ_ w=> .ok .skip w) v h':=by
 obtain⟨xv,hxv,hh⟩:=an h1;obtain⟨yv,hyv,hh⟩:=an hh;split at hh
 ·rename_i h2 hst;cases hh;have gx:=bQ hR hE hx hxv;have gy:=bQ hR hE hy hyv;generalize a.eval x=xv' at*;generalize a.eval y=yv' at*;unfold pW at hst;split at hst
  ·rename_i b o;cases gx with
   |ptr hk=>
    rename_i k;split at hst
    ·rename_i vs sz hb;simp only[bM,beq_eq,ble_eq,cond_eq_ite,Bool.and_eq_true,decide_eq_true_eq]at hst;split at hst
     ·rename_i hc;obtain⟨⟨c1,c2⟩,c3⟩:=hc;cases hst;have hl:=qv gy;obtain⟨w',r1,r2,r3⟩:=hR.ot (base:=base) hb hk hl (o:=o) (by omega) c3;refine⟨μ,undef,w', .inr ⟨?_,rfl⟩,(VR.cT rfl).1,r2,r3,AS.wr _ _ _ _⟩;have hsz:yv'.cells.size=n:=by rw[←c1,hl.length];simp
      simp only[Instr.storeAt,Instr.sureAddr,Sem.run_bind,Sem.run_pure,Result.andThen_ok,storeVar,run_sizeOf hn,hsz,ne_eq,not_true_eq_false,if_false,r1]
     ·cases hst
    ·cases hst
  ·cases hst
 ·cases hh
theorem AN(hR:R P μ h w){t:TypeId}{r:Option Value}{v:Value}{h':Heap}(hr:r=none∨∃k n kt el,r=some (.int k n)/\P.underlying t=some (.map kt el))(h1:aop h base e .mkMap=some (.val v h')):
 Ran P μ h w base (((Instr.makeMap t r).run P w).andThen λv w=> .ok (.value v) w) v h':=by
 cases h1;obtain⟨g1,g2⟩:=hR.alloc (w':={w with heap:=w.heap.push (.map #[] 0)}) (o:= .map []) (k:=⟨w.heap.size,0,0,0⟩) rfl rfl (λk hk=>by
  rw[dY]at hk;cases hk;exact⟨#[],0,by simp, .nil,List.nodup_nil,λn hn=>by cases hn⟩)
 refine⟨_, .map (some w.heap.size),_, .inl ?_,?_,g1,g2,AS.push _ _ _⟩
 ·rcases hr with rfl|⟨k,n,kt,el,rfl,hd⟩
  ·simp[Instr.makeMap,newObj,Sem.run]
  ·simp only[Instr.makeMap,Sem.run_bind,run_underlying hd,Result.andThen_ok];simp[asInt,asIntOf,newObj,Sem.run]
 ·exact VR.map (dY _ _ _)
theorem LR.bZ{x y:List Value}(hx:LR μ x y):∀{l m:List Value} (_:LR μ l m) (o:Nat),LR μ (bZ l o x) (bZ m o y):=by
 induction hx with
 |nil=>intro l m hl o;cases l<;>cases m<;>exact hl
 |cons h1 _ ih=>
  intro l m hl o;rw[kN,kN];refine ih ?_ _;rw[j9,j9];exact hl.set h1 o
theorem sR(off:Nat):∀(l:List Value) (k:Nat) (cs:Array Value),((l.zipIdx k).foldl (λcs p=>cs.setIfInBounds (off+p.2) p.1) cs).toList=bZ cs.toList (off+k) l
 |[],k,cs=>by cases hcs:cs.toList<;>simp[hcs,A.bZ]
 |x::l,k,cs=>by
  rw[List.zipIdx_cons,List.foldl_cons,sR off l (k+1),kN,j9];simp[Nat.add_assoc]
theorem tG(hR:R P μ h w)(hE:cm μ e a.tmps){place:Nat->Option (Nat×Nat)}:∀{ps:List (Nat×Operand)} {qs:List (Nat×Nat×Operand)} {z cs:List Value} {z':Array Value},(∀p∈ps,aC P p.2=true)->nY place ps=some qs→
 LR μ z z'.toList->iO h e z qs=some cs->∃cs',Instr.fill place z' (ps.map λp=>(p.1,a.eval p.2))=some cs'∧LR μ cs cs'.toList
 |[],qs,z,cs,z',_,hq,hz,hf=>by cases hq;cases hf;exact⟨z',rfl,hz⟩
 |(i,x)::ps,qs,z,cs,z',hc,hq,hz,hf=>by
  simp only[nY]at hq;split at hq
  ·rename_i o s l hp hl;cases hq;simp only[iO]at hf;split at hf
   ·rename_i v hv;simp only[bM,beq_eq,ble_eq,cond_eq_ite,Bool.and_eq_true,decide_eq_true_eq]at hf;split at hf
    ·rename_i hcd;have gv:=qv (bQ hR hE (hc (i,x) (by simp)) hv);have hn:=gv.length;have hzn:=hz.length;have hfold:((a.eval x).cells.zipIdx.foldl (λcs (p:Value×Nat)=>cs.setIfInBounds (o+p.2) p.1) z').toList=bZ z'.toList o (a.eval x).cells.toList:=by
      have:=sR o (a.eval x).cells.toList 0 z';rw[Nat.add_zero]at this;rw[←this];congr 1;rw[←Array.foldl_toList,Array.toList_zipIdx]
     obtain⟨cs',g1,g2⟩:=tG hR hE (λp hp=>hc p (by simp[hp])) hl (z':=(a.eval x).cells.zipIdx.foldl (λcs (p:Value×Nat)=>cs.setIfInBounds (o+p.2) p.1) z') (by rw[hfold];exact gv.bZ hz o) hf;refine⟨cs',?_,g2⟩;simp only[Array.length_toList]at hn hzn;simp only[List.map_cons,Instr.fill,hp];rw[if_neg (by simp;omega)];exact g1
    ·cases hf
   ·cases hf
  ·cases hq
theorem sU{α:Type}(n:Nat)(z:List α):(fR n z).length=n*z.length:=by
 induction n with
 |zero=>simp[fR]
 |succ n ih=>simp[fR,dQ,ih,Nat.succ_mul,Nat.add_comm]
theorem Ax{α:Type}(z:List α):∀(n i:Nat),i<n*z.length->(fR n z)[i]? =z[i % z.length]?
 |0,i,hi=>by simp at hi
 |n+1,i,hi=>by
  rw[fR,dQ];by_cases h:i<z.length
  ·rw[List.getElem?_append_left h,Nat.mod_eq_of_lt h]
  ·rw[List.getElem?_append_right (by omega),Ax z n _ (by rw[Nat.succ_mul]at hi;omega)];rw[Nat.mod_eq_sub_mod (by omega:i≥z.length)]
theorem wD(z:Array Value)(n:Nat):((Array.range (n*z.size)).map (λi=>z[i % z.size]!)).toList=fR n z.toList:=by
 apply List.ext_getElem?;intro i;by_cases hi:i<n*z.size
 ·rw[Ax z.toList n i (by simpa using hi)];have hz:0<z.size:=Nat.pos_of_ne_zero λe=>by rw[e]at hi;simp at hi
  have hm:=Nat.mod_lt i hz;simp[hi,hm,getElem!_pos]
 ·rw[List.getElem?_eq_none (by simp;omega),List.getElem?_eq_none (by rw[sU];simp;omega)]
theorem r9(ps:Array (Nat×Operand)):(ps.map λ(i,x)=>(i,a.eval x)).toList=ps.toList.map λp=>(p.1,a.eval p.2):=by simp
theorem zK{z:Value}(hsc:cU (cellsOf z)=true):LR μ (cellsOf z) z.cells.toList:=by
 have:z.cells.toList=cellsOf z:=by cases z<;>rfl
 rw[this];exact(LR.cU hsc).1
theorem mw{t:TypeId}{z:Value}(hz:gJ P t=some z):∃i,P.info? t=some i/\i.zero=some z:=by
 simpa[gJ,Option.bind_eq_some_iff]using hz
theorem oS{t:TypeId}{s:Nat}(hs:dH P t=some s):∃i,P.info? t=some i/\i.size=s:=by
 simpa[dH,Option.map_eq_some_iff]using hs
theorem uQ:∀{fs:List Field},fs.all (λf=>(dH P f.type).isSome)=true→
 ∃places,fs.mapM (λf=>(P.info? f.type).map λi=>(f.offset,i.size))=some places/\∀i:Nat,places[i]? =(fs[i]?).map λ(f:Field)=>(f.offset,(dH P f.type).getD 0)
 |[],_=>⟨[],by simp,λi=>by simp⟩
 |f::fs,hf=>by
  simp only[List.all_cons,Bool.and_eq_true]at hf;obtain⟨pl,g1,g2⟩:=uQ hf.2;obtain⟨s,hs⟩:=Option.isSome_iff_exists.1 hf.1;obtain⟨i,hi,hsz⟩:=oS hs;refine⟨(f.offset,i.size)::pl,by simp[List.mapM_cons,hi,g1],λj=> ?_⟩;cases j with
  |zero=>simp[hs,hsz]
  |succ j=>simp[g2]
theorem AL(hR:R P μ h w)(hE:cm μ e a.tmps){t:TypeId}{z:Value}{ps:Array (Nat×Operand)}{qs:List (Nat×Nat×Operand)}{v:Value}{h':Heap}{place:Nat->Option (Nat×Nat)}
 (hp:(∃len el s,P.underlying t=some (.array len el)∧dH P el=some s∧place=fun i=>some (i*s,s))∨
   (∃fs:Array Field,P.underlying t=some (.struct fs)/\fs.toList.all (λf=>(dH P f.type).isSome)=true/\place=λi=>(fs[i]?).map λ(f:Field)=>(f.offset,(dH P f.type).getD 0)))
 (hz:gJ P t=some z)(hsc:cU (cellsOf z)=true)(hc:∀p∈ps.toList,aC P p.2=true)(hq:nY place ps.toList=some qs)(h1:aop h base e (.build (cellsOf z) qs)=some (.val v h')):
 Ran P μ h w base (((Instr.build t (ps.map λ(i,x)=>(i,a.eval x))).run P w).andThen λv w=> .ok (.value v) w) v h':=by
 simp only[aop]at h1;split at h1
 ·rename_i cs hcs;cases h1;obtain⟨cs',g1,g2⟩:=tG hR hE hc hq (zK hsc) hcs;refine .pure hR ?_ (.DY (c':=cs') (by simpa using g2));obtain⟨i,hi,hz⟩:=mw hz;rw[run_build w t _ cs',Result.andThen_ok];rw[r9];rcases hp with⟨len,el,s,hd,hs,rfl⟩|⟨fs,hd,hf,rfl⟩
  ·obtain⟨j,hj,rfl⟩:=oS hs;simp only[Program.built,hi,hd,hz,hj];exact g1
  ·obtain⟨pl,p1,p2⟩:=uQ hf;simp only[Program.built,hi,hd,hz,p1];rw[←g1];congr 1;funext i;simp[p2]
 ·cases h1
theorem EE(hR:R P μ h w)(hE:cm μ e a.tmps){t el:TypeId}{n s:Nat}{z:Value}{ps:Array (Nat×Operand)}{qs:List (Nat×Nat×Operand)}{v:Value}{h':Heap}(hd:P.underlying t=some (.slice el))(hs:dH P el=some s)
 (hz:gJ P el=some z)(hsc:cU (cellsOf z)=true)(hlim:n*s<=2 ^ 24)(hzs:bK (cellsOf z)=s)(hs0:s≠0)(hc:∀p∈ps.toList,aC P p.2=true)(hq:nY (λi=>some (i*s,s)) ps.toList=some qs)
 (h1:aop h base e (.dh (cellsOf z) n qs)=some (.val v h')):
 Ran P μ h w base (((Instr.buildSlice t n (ps.map λ(i,x)=>(i,a.eval x))).run P w).andThen λv w=> .ok (.value v) w) v h':=by
 simp only[aop]at h1;split at h1
 ·rename_i cs hcs;cases h1;have hzz:z.cells.size=s:=by rw[←hzs,bM,(zK (μ:=μ) hsc).length];simp
  have hrow:LR μ (fR n (cellsOf z)) ((Array.range (n*s)).map (z.cells[· % z.cells.size]!)).toList:=by
   have:=wD z.cells n;rw[hzz]at this⊢;rw[this];have:z.cells.toList=cellsOf z:=by cases z<;>rfl
   rw[this];have:∀m,cU (fR m (cellsOf z))=true:=λm=>by
    induction m with
    |zero=>rfl
    |succ m ih=>
     rw[fR,dQ];have app:∀l l':List Value,cU l=true->cU l'=true->cU (l++l')=true:=λl l' h1 h2=>by
      induction l with
      |nil=>exact h2
      |cons x l ih'=>
       simp only[cU,cond_eq_ite]at h1;split at h1
       ·rename_i hx;simp[cU,hx,ih' h1]
       ·cases h1
     exact app _ _ hsc ih
   exact(LR.cU (this n)).1
  have hn:n<UNK:=by
   have:=Nat.le_mul_of_pos_right n (Nat.pos_of_ne_zero hs0);unfold UNK;omega
  obtain⟨cs',g1,g2⟩:=tG hR hE hc hq hrow hcs;obtain⟨q1,q2⟩:=hR.oP (el:=el) (own:=true) (sz:=bK (cellsOf z)) g2;refine⟨_, .slice (some ⟨w.heap.size,0,none⟩) n n,_, .inl ?_,?_,q1,q2,AS.push _ _ _⟩
  ·simp only[Instr.buildSlice,Sem.run_bind,run_underlying hd,Result.andThen_ok,run_sizeOf hs,if_neg (show¬n*s>2 ^ 24 by omega),r9];by_cases h0:n*s=0
   ·rw[if_pos h0];have:n=0:=by
     rcases Nat.mul_eq_zero.1 h0 with h|h
     ·exact h
     ·exact absurd h hs0
    subst this;simp only[Nat.zero_mul,show Array.range 0= #[]from rfl,Array.map_empty]at g1;simp only[Nat.zero_mul,show Array.range 0= #[]from rfl,Array.map_empty,Sem.run_pure,Result.andThen_ok,g1,Sem.run_bind,gu]
   ·rw[if_neg h0];simp only[Sem.run_bind,dF hz,Result.andThen_ok,Sem.run_pure,g1,gu]
  ·exact VR.slice (o:=0) (dY _ _ _) hn (Nat.le_refl _)
 ·cases h1
theorem l9{v v':Value}{n:Nat}(hv:VR μ v v')(hn:nV v=some n):∃k,v'= .int k n:=by
 unfold nV at hn;split at hn
 ·cases hn;cases hv;exact⟨_,rfl⟩
 ·cases hn
theorem zm{l l':List Value}(h1:cU l=true)(h2:cU l'=true):cU (l++l')=true:=by
 induction l with
 |nil=>exact h2
 |cons x l ih'=>
  simp only[cU,cond_eq_ite]at h1;split at h1
  ·rename_i hx;simp[cU,hx,ih' h1]
  ·cases h1
theorem vn{z:List Value}(hz:cU z=true):∀m,cU (fR m z)=true
 |0=>rfl
 |m+1=>by rw[fR,dQ];exact zm hz (vn hz m)
theorem vg{z:Value}(hsc:cU (cellsOf z)=true)(n:Nat):LR μ (fR n (cellsOf z)) ((Array.range (n*z.cells.size)).map (z.cells[· % z.cells.size]!)).toList:=by
 rw[wD];have:z.cells.toList=cellsOf z:=by cases z<;>rfl
 rw[this];exact(LR.cU (vn hsc n)).1
theorem Bk{z:Value}:z.cells.size=(cellsOf z).length:=by
 have:z.cells.toList=cellsOf z:=by cases z<;>rfl
 rw[←this];simp
theorem B0(hR:R P μ h w)(hE:cm μ e a.tmps){t el:TypeId}{s bytes:Nat}{z:Value}{l c:Operand}{v:Value}{h':Heap}(hd:P.underlying t=some (.slice el))(hs:dH P el=some s)
 (hz:gJ P el=some z)(hb:jr P el=some bytes)(hsc:cU (cellsOf z)=true)(hzs:bK (cellsOf z)=s)(_hs0:s≠0)(hl:aC P l=true)(hc:aC P c=true)
 (h1:aop h base e (.mkSlice (cellsOf z) bytes l c)=some (.val v h')):
 Ran P μ h w base (((Instr.makeSlice t (a.eval l) (a.eval c)).run P w).andThen λv w=> .ok (.value v) w) v h':=by
 simp only[aop]at h1;split at h1
 ·rename_i lv cv hlv hcv;split at h1
  ·rename_i ln cn hln hcn;simp only[ble_eq,blt_eq,cond_eq_ite,Bool.and_eq_true,decide_eq_true_eq]at h1;split at h1
   ·rename_i hcond;obtain⟨⟨c1,c2⟩,c3⟩:=hcond;cases h1;obtain⟨kl,el1⟩:=l9 (bQ hR hE hl hlv) hln;obtain⟨kc,ec1⟩:=l9 (bQ hR hE hc hcv) hcn;obtain⟨i,hi,hz⟩:=mw hz;have hsz:i.size=s:=by
     obtain⟨j,hj,q⟩:=oS hs;rw[hi]at hj;cases hj;exact q
    have hbz:i.bytes=bytes:=by
     simp only[jr,Option.map_eq_some_iff]at hb;obtain⟨j,hj,q⟩:=hb;rw[hi]at hj;cases hj;exact q
    have hsz2:z.cells.size=s:=by rw[Bk,←bM];exact hzs
    rw[el1,ec1,run_make w t el i z hd hi hz kl kc ln cn (by omega) (by omega) (by rw[hbz,←Int.natCast_mul];omega) (by unfold UNK at c3;omega)];have hrow:LR μ (fR cn (cellsOf z)) (madeCells z.cells ((cn:Int).toNat*i.size)).toList:=by
     have:=vg (μ:=μ) hsc cn;rw[hsz2]at this;unfold madeCells;rw[hsz2,hsz,Int.toNat_natCast];exact this
    obtain⟨q1,q2⟩:=hR.oP (el:=el) (own:=true) (sz:=bK (cellsOf z)) hrow;exact⟨_, .slice (some ⟨w.heap.size,0,none⟩) ln cn,_, .inl rfl,VR.slice (o:=0) (dY _ _ _) c3 c1,q1,q2,AS.push _ _ _⟩
   ·cases h1
  ·cases h1
 ·cases h1
def vC(a:Act)(x:Option Operand)(d n:Nat):Prop:=(x=none/\n=d)∨∃y k,x=some y/\a.eval y= .int k n
theorem ue(hR:R P μ h w)(hE:cm μ e a.tmps){x:Option Operand}{d n:Nat}(hc:∀y,x=some y->aC P y=true)(hb:bnd h e d x=some n):vC a x d n:=by
 cases x with
 |none=>cases hb;exact .inl ⟨rfl,rfl⟩
 |some y=>
  simp only[bnd]at hb;split at hb
  ·rename_i v hv;obtain⟨k,hk⟩:=l9 (bQ hR hE (hc y rfl) hv) hb;exact .inr ⟨y,k,rfl,hk⟩
  ·cases hb
theorem pV(isS:Bool){len cap l u m:Nat}{lo hi mx:Option Operand}(hx:mx.isSome=true->hi.isSome=true)(hl:vC a lo 0 l)(hu:vC a hi len u)(hm:vC a mx cap m)(h1:l<=u)(h2:u<=m)(h3:m<=cap):
 (Instr.sliceBounds isS len cap (lo.map a.eval) (hi.map a.eval) (mx.map a.eval)).run P w= .ok (l,u,m) w:=by
 have sb:∀(k:IntKind) (i y:Nat) (c:BoundsCode) (w:World),i<=y->(Instr.sliceBound (.int k i) y c).run P w= .ok i w:=λk i y c w hi=>by
  rw[run_sliceBound w k i y c (by omega) (by omega),Int.toNat_natCast]
 unfold Instr.sliceBounds;rcases hm with⟨rfl,rfl⟩|⟨ym,km,rfl,em⟩
 ·rcases hu with⟨rfl,rfl⟩|⟨yu,ku,rfl,eu⟩
  ·rcases hl with⟨rfl,rfl⟩|⟨yl,kl,rfl,el⟩
   ·simp
   ·simp[el,sb _ _ _ _ _ h1]
  ·rcases hl with⟨rfl,rfl⟩|⟨yl,kl,rfl,el⟩
   ·simp[eu,sb _ _ _ _ _ h2]
   ·simp[eu,el,sb _ _ _ _ _ h2,sb _ _ _ _ _ h1]
 ·rcases hu with⟨rfl,rfl⟩|⟨yu,ku,rfl,eu⟩
  ·simp at hx
  ·rcases hl with⟨rfl,rfl⟩|⟨yl,kl,rfl,el⟩
   ·simp[em,eu,sb _ _ _ _ _ h2,sb _ _ _ _ _ h3]
   ·simp[em,eu,el,sb _ _ _ _ _ h2,sb _ _ _ _ _ h1,sb _ _ _ _ _ h3]
theorem vp(hR:R P μ h w)(hE:cm μ e a.tmps){size:Nat}{a0:Option Addr}{len cap:Nat}{lo hi mx:Option Operand}{v xv:Value}{h':Heap}(hx:VR μ (.slice a0 len cap) xv)(hcl:∀y,lo=some y->aC P y=true)
 (hch:∀y,hi=some y->aC P y=true)(hcm:∀y,mx=some y->aC P y=true)(h1:jL h e size a0 len cap lo hi mx=some (v,h')):
 ∃r' cap' l u m μ',xv= .slice r' len cap'∧vC a lo 0 l/\vC a hi len u/\vC a mx cap' m/\l<=u/\u<=m/\m<=cap'∧
  VR μ' v (.slice (if m=l then r' else r'.map (·.add (l*size))) (u-l) (m-l))/\R P μ' h' w/\St μ h w μ' h' w/\AS base h h':=by
 have S:=St.refl μ h w;have A:=AS.refl base h;unfold jL at h1;split at h1
 ·rename_i l u hl hu;have bl:=ue hR hE hcl hl;have bu:=ue hR hE hch hu;split at h1
  ·rename_i mm;split at h1
   ·rename_i m hm;simp only[ble_eq,blt_eq,beq_eq,cond_eq_ite,Bool.and_eq_true,decide_eq_true_eq,Option.ite_none_right_eq_some]at h1
    ·obtain⟨⟨⟨⟨c1,c2⟩,c3⟩,c4⟩,h1⟩:=h1;cases h1;have bm:∀d,vC a (some mm) d m:=λd=>by
      rcases ue hR hE hcm hm with⟨q,_⟩|q
      ·cases q
      ·exact .inr q
     cases hx with
     |iN=>
      refine⟨none,cap,l,u,m,μ,rfl,bl,bu,bm _,c1,c2,?_,?_,hR,S,A⟩
      ·split at c3
       ·rename_i hq;rw[hq];unfold UNK at c4⊢;omega
       ·exact c3
      ·simp;exact .iN _ _
     |jY s=>
      rename_i b o;have hm0:m=0:=by rw[if_neg (by unfold UNK;omega)]at c3;omega
      subst hm0;obtain rfl:u=0:=by omega
      obtain rfl:l=0:=by omega
      refine⟨_,0,0,0,0,μ,rfl,bl,bu,bm _,c1,c2,Nat.le_refl _,?_,hR,S,A⟩;simp only[if_true];exact .jY s
     |slice hk q1 q2=>
      rename_i b o k;refine⟨_,cap,l,u,m,μ,rfl,bl,bu,bm _,c1,c2,?_,?_,hR,S,A⟩
      ·rw[if_neg (by omega)]at c3;exact c3
      ·by_cases hml:m=l
       ·simp only[hml,if_true];exact .slice hk (by unfold UNK;omega) (by omega)
       ·simp only[hml,if_false,Option.map_some,fu,Nat.add_assoc];exact .slice hk (by omega) (by omega)
     |eO hk q1 q2 q3=>
      rename_i b o c k;rw[if_pos rfl]at c3;refine⟨_,c,l,u,m,μ,rfl,bl,bu,bm _,c1,c2,by omega,?_,hR,S,A⟩;by_cases hml:m=l
      ·simp only[hml,if_true];exact .slice hk (by unfold UNK;omega) (by omega)
      ·simp only[hml,if_false,Option.map_some,fu,Nat.add_assoc];exact .slice hk (by omega) (by omega)
   ·cases h1
  ·simp only[ble_eq,blt_eq,beq_eq,bM,cond_eq_ite,Bool.and_eq_true,Bool.or_eq_true,decide_eq_true_eq]at h1;split at h1
   ·rename_i hU;subst hU;split at h1
    ·rename_i b o;split at h1
     ·rename_i vs own sz hb;split at h1
      ·rename_i hc;obtain⟨⟨c1,c2⟩,c3⟩:=hc;subst c1;cases hx with
       |slice hk q1 q2=>exact absurd q1 (Nat.lt_irrefl _)
       |eO hk q1 q2 q3=>
        rename_i c k;obtain⟨z0,ca,elt,fz,z1,z2,z3,z4,z5⟩:=hR.obj b _ hb k hk;have bm:vC a (none:Option Operand) c c:= .inl ⟨rfl,rfl⟩;have huc:u<=c:=by
         rcases c3 with c3|c3
         ·omega
         ·rw[←z0]at c3;exact Nat.le_of_mul_le_mul_right (show u*k.sz<=c*k.sz by omega) q2
        split at h1
        ·rename_i hlt;cases h1;refine⟨_,c,l,u,c,μ,rfl,bl,bu,bm,c2,by omega,Nat.le_refl _,?_,hR,S,A⟩;simp only[if_neg (show¬c=l by omega),Option.map_some,fu,Nat.add_assoc];refine .eO hk ?_ q2 (by omega);have e3:l*k.sz+(c-l)*k.sz=c*k.sz:=by rw[←Nat.add_mul];congr 1;omega
         rw[←z0];omega
        ·rename_i hlt;have e2:u=l:=by omega
         split at h1
         ·rename_i h0;cases h1;refine⟨_,c,l,u,c,μ,rfl,bl,bu,bm,c2,by omega,Nat.le_refl _,?_,hR,S,A⟩;have:l=0:=h0;subst this;rw[show u-0=0 by omega];by_cases hc0:c=0
          ·simp only[hc0,if_true];exact .eO hk (by rw[hc0]at q1;exact q1) q2 (Nat.le_refl _)
          ·simp only[hc0,if_false,Option.map_some,fu,Nat.zero_mul,Nat.add_zero];exact .eO hk q1 q2 (Nat.zero_le _)
         ·cases h1;have hkr:=(hR.dom b k hk).2;have fin:∀d',d'+(c-l)*k.sz=k.e∨(c=l/\d'≤k.e)->∃μ',VR μ' (.slice (some ⟨h.next,0,none⟩) 0 UNK) (.slice (some ⟨k.r,d',none⟩) 0 (c-l))/\R P μ' (h.push (.cells [] false sz)) w∧
           St μ h w μ' (h.push (.cells [] false sz)) w:=λd' hd'=>by
           have hde:d'+(c-l)*k.sz<=k.e:=by
            rcases hd' with q|⟨q,q'⟩
            ·omega
            ·rw[q];simpa using q'
           obtain⟨g1,g2⟩:=hR.Km (k:=⟨k.r,d',d'+(c-l)*k.sz,sz⟩) (sz:=sz) hkr (λk' hk'=>by
            rw[dY]at hk';cases hk';exact⟨rfl,ca,elt,fz,z1,by simp,by simp only;omega,λi hi=>(Nat.not_lt_zero _ hi).elim,λh=>by cases h⟩)
           refine⟨_,VR.eO (o:=0) (dY _ _ _) (by simp[z0]) (by rw[←z0];exact q2) (Nat.zero_le _),g1,g2⟩
          have hul:u-l=0:=by omega
          by_cases hcl2:c=l
          ·obtain⟨μ',f1,f2,f3⟩:=fin (k.d+o) (.inr ⟨hcl2,by omega⟩);exact⟨_,c,l,u,c,μ',rfl,bl,bu,bm,c2,by omega,Nat.le_refl _,by rw[if_pos hcl2,hul];exact f1,f2,f3,AS.push _ _ _⟩
          ·obtain⟨μ',f1,f2,f3⟩:=fin (k.d+o+l*k.sz) (.inl (by
            have e3:l*k.sz+(c-l)*k.sz=c*k.sz:=by rw[←Nat.add_mul];congr 1;omega
            omega))
           refine⟨_,c,l,u,c,μ',rfl,bl,bu,bm,c2,by omega,Nat.le_refl _,?_,f2,f3,AS.push _ _ _⟩;rw[if_neg hcl2,hul,Option.map_some,fu,←z0];exact f1
      ·cases h1
     ·cases h1
    ·cases h1
   ·rename_i hU;split at h1
    ·rename_i hc;obtain⟨c1,c2⟩:=hc;cases h1;have bm:vC a (none:Option Operand) cap cap:= .inl ⟨rfl,rfl⟩;cases hx with
     |iN=>
      refine⟨none,cap,l,u,cap,μ,rfl,bl,bu,bm,c1,c2,Nat.le_refl _,?_,hR,S,A⟩;simp;exact .iN _ _
     |jY s=>
      rename_i b o;obtain rfl:u=0:=by omega
      obtain rfl:l=0:=by omega
      refine⟨_,0,0,0,0,μ,rfl,bl,bu,bm,c1,c2,Nat.le_refl _,?_,hR,S,A⟩;simp only[if_true];exact .jY s
     |slice hk q1 q2=>
      rename_i b o k;refine⟨_,cap,l,u,cap,μ,rfl,bl,bu,bm,c1,c2,Nat.le_refl _,?_,hR,S,A⟩;by_cases hml:cap=l
      ·simp only[hml,if_true];exact .slice hk (by unfold UNK;omega) (by omega)
      ·simp only[hml,if_false,Option.map_some,fu,Nat.add_assoc];exact .slice hk (by omega) (by omega)
     |eO=>exact absurd rfl hU
    ·cases h1
 ·cases h1
theorem AO(hR:R P μ h w)(hE:cm μ e a.tmps){t:TypeId}{x:Operand}{lo hi:Option Operand}{v:Value}{h':Heap}(hd:P.underlying t=some .string)(hx:aC P x=true)(hcl:∀y,lo=some y->aC P y=true)
 (hch:∀y,hi=some y->aC P y=true)(h1:aop h base e (.slice .str x lo hi none)=some (.val v h')):
 Ran P μ h w base (((Instr.sliceAt t (a.eval x) (lo.map a.eval) (hi.map a.eval) none).run P w).andThen λv w=> .ok (.value v) w) v h':=by
 simp only[aop]at h1;split at h1
 ·rename_i s hs;split at h1
  ·rename_i l u hl hu;simp only[ble_eq,cond_eq_ite,Bool.and_eq_true,decide_eq_true_eq,Option.ite_none_right_eq_some]at h1;obtain⟨⟨c1,c2⟩,h1⟩:=h1;cases h1;have g:=bQ hR hE hx hs;generalize a.eval x=xv at*;cases g;have b:=pV (P:=P) (w:=w) (a:=a) (mx:=none) false (cap:=s.size) (by simp) (ue hR hE hcl hl) (ue hR hE hch hu) (.inl ⟨rfl,rfl⟩) c1 c2 (Nat.le_refl _);refine .pure hR ?_ (.string _);rw[run_sliceAt_string w t _ _ _ _ hd];simp only[Instr.slice,Sem.run_bind,run_underlying hd,Result.andThen_ok,Option.isSome_none,Bool.false_eq_true,if_false,Sem.run_pure];rw[show(none:Option Value)=(none:Option Operand).map a.eval from rfl,b];simp
  ·cases h1
 ·cases h1
theorem fI{x:Option (Value×Heap)}{v:Value}{h':Heap}(hh:gV x=some (.val v h')):x=some (v,h'):=by
 cases x with
 |none=>cases hh
 |some p=>cases hh;rfl
theorem B5(hR:R P μ h w)(hE:cm μ e a.tmps){t el:TypeId}{size:Nat}{x:Operand}{lo hi mx:Option Operand}{v:Value}{h':Heap}(hd:P.underlying t=some (.slice el))(hn:dH P el=some size)(hx:aC P x=true)
 (hmh:mx.isSome=true->hi.isSome=true)(hcl:∀y,lo=some y->aC P y=true)(hch:∀y,hi=some y->aC P y=true)(hcm:∀y,mx=some y->aC P y=true)(h1:aop h base e (.slice (.sl size) x lo hi mx)=some (.val v h')):
 Ran P μ h w base (((Instr.sliceAt t (a.eval x) (lo.map a.eval) (hi.map a.eval) (mx.map a.eval)).run P w).andThen λv w=> .ok (.value v) w) v h':=by
 simp only[aop]at h1;split at h1
 ·rename_i a0 len cap hs;have g:=bQ hR hE hx hs;obtain⟨r',cap',l,u,m,μ',e1,bl,bu,bm,c1,c2,c3,gv,gR,gS,gA⟩:=vp (base:=base) hR hE g hcl hch hcm (fI h1);refine⟨μ',_,w, .inl ?_,gv,gR,gS,gA⟩;have b:=pV (P:=P) (w:=w) (len:=len) true hmh bl bu bm c1 c2 c3;simp only[Instr.sliceAt,Sem.run_bind,run_underlying hd,Result.andThen_ok,Instr.slice,e1,b,run_sizeOf hn,Sem.run_pure]
 ·cases h1
theorem sZ(hR:R P μ h w)(hE:cm μ e a.tmps){t el:TypeId}{n size:Nat}{x:Operand}{lo hi mx:Option Operand}{v:Value}{h':Heap}
 (hd:P.underlying t=some (.array n el)∨∃p,P.underlying t=some (.pointer p)/\P.underlying p=some (.array n el))(hU:n<UNK)(hn:dH P el=some size)(hx:aC P x=true)
 (hmh:mx.isSome=true->hi.isSome=true)(hcl:∀y,lo=some y->aC P y=true)(hch:∀y,hi=some y->aC P y=true)(hcm:∀y,mx=some y->aC P y=true)(h1:aop h base e (.slice (.arr n size) x lo hi mx)=some (.val v h')):
 Ran P μ h w base (((Instr.sliceAt t (a.eval x) (lo.map a.eval) (hi.map a.eval) (mx.map a.eval)).run P w).andThen λv w=> .ok (.value v) w) v h':=by
 simp only[aop]at h1;split at h1
 ·rename_i a0 hs;have g:=bQ hR hE hx hs;generalize hxv:a.eval x=xv at*;cases g with
  |ptr hk=>
   rename_i bb o k;have gs:VR μ (.slice (some ⟨bb,o,none⟩) n n) (.slice (some ⟨k.r,k.d+o,none⟩) n n):= .slice hk hU (Nat.le_refl _);obtain⟨r',cap',l,u,m,μ',e1,bl,bu,bm,c1,c2,c3,gv,gR,gS,gA⟩:=vp (base:=base) hR hE gs hcl hch hcm (fI h1);cases e1;refine⟨μ',_,w, .inl ?_,gv,gR,gS,gA⟩;have b:=pV (P:=P) (w:=w) (len:=n) false hmh bl bu bm c1 c2 c3;have e2:(some (if m=l then(⟨k.r,k.d+o,none⟩:Addr)else Addr.add ⟨k.r,k.d+o,none⟩ (l*size)))=if m=l then some (⟨k.r,k.d+o,none⟩:Addr)else(some (⟨k.r,k.d+o,none⟩:Addr)).map (·.add (l*size)):=by
    split<;>rfl
   rcases hd with hd|⟨p,hd,hp⟩
   ·simp only[Instr.sliceAt,Sem.run_bind,run_underlying hd,Result.andThen_ok,Instr.sureAddr,b,run_sizeOf hn,Sem.run_pure,e2]
   ·simp only[Instr.sliceAt,Sem.run_bind,run_underlying hd,run_underlying hp,Result.andThen_ok,Instr.slice,asAddr,b,run_sizeOf hn,Sem.run_pure,e2]
 ·cases h1
theorem BW(hR:R P μ h w)(hE:cm μ e a.tmps){s t:TypeId}{d:TypeDesc}{k:IntKind}{x:Operand}{v:Value}{h':Heap}(hs:P.underlying s=some d)(hd:P.underlying t=some (.int k))(hx:aC P x=true)
 (h1:aop h base e (.conv (.int k) x)=some (.val v h')):Ran P μ h w base (((convert s t (a.eval x)).run P w).andThen λv w=> .ok (.value v) w) v h':=by
 obtain⟨xv,hxv,hh⟩:=an h1;have hh:=fI hh;have g:=bQ hR hE hx hxv;unfold o7 at hh;split at hh
 ·rename_i heq _;cases heq;cases hh;generalize a.eval x=xv' at*;cases g;refine .pure hR ?_ (.int _ _);simp[convert,run_underlying hs,run_underlying hd,Conv.intToInt,rC]
 all_goals first|(rename_i heq _;cases heq)|cases hh
theorem AM(hR:R P μ h w)(hE:cm μ e a.tmps){s t:TypeId}{x:Operand}{v:Value}{h':Heap}(hs:P.underlying s=some .string)(hd:P.underlying t=some .string)(hx:aC P x=true)
 (h1:aop h base e (.conv .same x)=some (.val v h')):Ran P μ h w base (((convert s t (a.eval x)).run P w).andThen λv w=> .ok (.value v) w) v h':=by
 obtain⟨xv,hxv,hh⟩:=an h1;have hh:=fI hh;have g:=bQ hR hE hx hxv;unfold o7 at hh;split at hh
 ·rename_i heq _;cases heq
 ·cases hh;generalize a.eval x=xv' at*;cases g;refine .pure hR ?_ (.string _);simp[convert,run_underlying hs,run_underlying hd]
 all_goals first|(rename_i heq _;cases heq)|cases hh
theorem ug:∀{l:List Value} {bs:List UInt8} {l':List Value},bytesOf l=some bs->LR μ l l'→∃ns:List Int,l'=ns.map (Value.int .u8)/\∀s:ByteArray,ns.foldl (λr n=>r.push (UInt8.ofNat n.toNat)) s=s++⟨bs.toArray⟩
 |[],bs,l',hb,hl=>by
  cases hb;cases hl;exact⟨[],rfl,λs=>by apply ByteArray.ext;simp⟩
 |x::l,bs,l',hb,hl=>by
  cases hl with
  |cons h1 h2=>
   unfold bytesOf at hb;split at hb
   ·rename_i heq;cases heq
   ·rename_i n l0 heq;cases heq;split at hb
    ·rename_i bs' hbs;cases hb;cases h1;obtain⟨ns,rfl,h4⟩:=ug hbs h2;refine⟨(n:Int)::ns,rfl,λs=> ?_⟩;rw[List.foldl_cons,h4];apply ByteArray.ext;simp
    ·cases hb
   ·cases hb
theorem th(hR:R P μ h w){size n:Nat}{x x':Value}{l:List Value}(hx:VR μ x x')(hs:fE h size x=some (l,n)):
 (∃cap,x'= .slice none 0 cap∧l=[]∧n=0)∨(∃r o cap l',x'= .slice (some ⟨r,o,none⟩) n cap∧l'.length=n*size∧LR μ l l'∧∀j,j<l'.length→w.cell? ⟨r,o+j,none⟩=some (gv l' j))∨
   (∃s,x'= .string s/\size=1/\n=s.size/\l=s.data.toList.map λb=> .int .u8 b.toNat)∨(∃ad,x'= .slice (some ad) 0 0/\l=[]/\n=0):=by
 unfold fE at hs;split at hs
 ·simp only[beq_eq,cond_eq_ite,decide_eq_true_eq,Option.ite_none_right_eq_some]at hs;obtain⟨h1,hs⟩:=hs;subst h1;cases hs;cases hx;exact .inl ⟨_,rfl,rfl,rfl⟩
 ·rename_i b o len cap;split at hs
  ·rename_i vs own sz hb;simp only[bM,cZ,cw,beq_eq,cond_eq_ite,decide_eq_true_eq,Option.ite_none_right_eq_some]at hs;obtain⟨hl,hs⟩:=hs;cases hs;right;left;have key:∀k,μ b=some k->∃l',l'.length=n*size/\LR μ ((vs.drop o).take (n*size)) l'∧∀j,j<l'.length->w.cell? ⟨k.r,k.d+o+j,none⟩=some (gv l' j):=λk hk=>by
    by_cases h0:n*size=0
    ·exact⟨[],h0.symm,by rw[h0];simp;exact .nil,λj hj=>by simp at hj⟩
    ·exact OR.row (hR.obj b _ hb) hk (by simp at hl;omega)
   cases hx with
   |slice hk _ _=>
    obtain⟨l',g1,g2,g3⟩:=key _ hk;exact⟨_,_,_,l',rfl,g1,g2,g3⟩
   |eO hk _ _ _=>
    obtain⟨l',g1,g2,g3⟩:=key _ hk;exact⟨_,_,_,l',rfl,g1,g2,g3⟩
  ·cases hs
 ·simp only[beq_eq,cond_eq_ite,decide_eq_true_eq,Option.ite_none_right_eq_some]at hs;obtain⟨h1,hs⟩:=hs;subst h1;cases hs;cases hx with
  |jY s=>exact .inr (.inr (.inr ⟨_,rfl,rfl,rfl⟩))
 ·simp only[beq_eq,cond_eq_ite,decide_eq_true_eq,Option.ite_none_right_eq_some]at hs;obtain⟨h1,hs⟩:=hs;cases hs;cases hx;exact .inr (.inr (.inl ⟨_,rfl,h1,rfl,rfl⟩))
 ·cases hs
theorem yG(hR:R P μ h w)(hE:cm μ e a.tmps){s t el:TypeId}{x:Operand}{v:Value}{h':Heap}(hs:P.underlying s=some (.slice el))(hel:P.underlying el=some (.int .u8))(hd:P.underlying t=some .string)(hx:aC P x=true)
 (h1:aop h base e (.conv .toStr x)=some (.val v h')):Ran P μ h w base (((convert s t (a.eval x)).run P w).andThen λv w=> .ok (.value v) w) v h':=by
 obtain⟨xv,hxv,hh⟩:=an h1;have hh:=fI hh;have g:=bQ hR hE hx hxv;unfold o7 at hh;split at hh
 ·rename_i heq _;cases heq
 ·rename_i heq _;cases heq
 ·split at hh
  ·rename_i l n hsrc;split at hh
   ·rename_i bs hbs;cases hh;generalize a.eval x=xv' at*;rcases th hR g hsrc with⟨cap,rfl,rfl,rfl⟩|⟨r,o,cap,l',rfl,g1,g2,g3⟩|⟨s,rfl,_,_,_⟩|⟨ad,rfl,rfl,rfl⟩
    ·cases hbs;refine .pure hR ?_ (.string _);simp[convert,run_underlying hs,run_underlying hd,run_underlying hel,Conv.bytesToString];rfl
    ·obtain⟨ns,rfl,q⟩:=ug hbs g2;refine .pure hR ?_ (.string _);have hl:=run_loadCells (P:=P) g3;rw[g1,Nat.mul_one]at hl;have:=run_bytesToString w ⟨r,o,none⟩ n cap ns hl;rw[q]at this;simp only[convert,Sem.run_bind,run_underlying hs,run_underlying hd,run_underlying hel,Result.andThen_ok,this];simp
    ·cases g
    ·cases hbs;refine .pure hR ?_ (.string _);simp[convert,run_underlying hs,run_underlying hd,run_underlying hel,Conv.bytesToString,loadCells,loadCellsFrom];rfl
   ·cases hh
  ·cases hh
 all_goals first|(rename_i heq _;cases heq)|cases hh
theorem grownCap_ge(w:World)(need old:Nat)(e:TypeId):need<=grownCap w need old e:=by
 have:grownCap w need old e=need+w.tape w.drawn (.appendCap need old e) % (2 ^ 63-need):=rfl;omega
theorem uO(hR:R P μ h w)(hE:cm μ e a.tmps){s t el:TypeId}{x:Operand}{v:Value}{h':Heap}(hs:P.underlying s=some .string)(hd:P.underlying t=some (.slice el))(hel:P.underlying el=some (.int .u8))(hx:aC P x=true)
 (h1:aop h base e (.conv .toBytes x)=some (.val v h')):Ran P μ h w base (((convert s t (a.eval x)).run P w).andThen λv w=> .ok (.value v) w) v h':=by
 obtain⟨xv,hxv,hh⟩:=an h1;have hh:=fI hh;have g:=bQ hR hE hx hxv;unfold o7 at hh;split at hh
 ·rename_i heq _;cases heq
 ·rename_i heq _;cases heq
 ·rename_i heq _;cases heq
 ·rename_i str _ _;cases hh;generalize a.eval x=xv' at*;cases g;have hrun:=run_bytes_of_string w s t el str hs hd hel;have hge:str.size<=grownCap w str.size 0 el:=grownCap_ge _ _ _ _;generalize grownCap w str.size 0 el=cap at hrun hge;have hcs:(bytesRow str cap).size=cap:=by simp[bytesRow];have:str.data.size=str.size:=rfl;omega
  obtain⟨q1,q2⟩:=hR.uL (el:=el) (c:=bytesRow str cap) (own:=true) (sz:=1) (l:=str.data.toList.map λb=> .int .u8 b.toNat) (fz:=((bytesRow str cap).size,(bytesRow str cap).size+1))
   (w':=w.drew.alloc (.cells (bytesRow str cap) el ((bytesRow str cap).size,(bytesRow str cap).size+1))) rfl (λj hj=>by simp only;omega)
   (by
     have:(bytesRow str cap).toList.take (str.data.toList.map λb=>Value.int .u8 (b.toNat:Int)).length=str.data.toList.map λb=>Value.int .u8 (b.toNat:Int):=by
      simp[bytesRow]
     rw[this];exact(LR.cU (by
      generalize str.data.toList=l;induction l with
      |nil=>rfl
      |cons y l ih=>simpa[cU,jV,ji]using ih)).1) (by rw[hcs];simpa using hge)
  refine⟨_, .slice (some ⟨w.heap.size,0,none⟩) str.size cap,_, .inl (by rw[hrun];rfl),VR.eO (o:=0) (dY _ _ _) (by simp[hcs]) (by simp) hge,q1,q2,AS.push _ _ _⟩
 all_goals first|(rename_i heq _;cases heq)|cases hh
def Px(P:Program)(em:Bool)(n:Nat)(t:TypeId)(ls:List dN):Prop:=
 (((isAgg t).run P=λw=> .ok true w)/\∀(w:World) (cs:Array Value),cs.toList.length=ls.length->(Instr.checkKey em n t (.agg cs)).run P w= .ok () w)∨
 (((isAgg t).run P=λw=> .ok false w)/\ls.length=1/\∀(w:World) (v:Value),(Instr.checkKey em n t v).run P w= .ok () w)
theorem Aq{em:Bool}{t:TypeId}{ls:List dN}{n off:Nat}{cs:Array Value}(hs:dH P t=some ls.length)(hK:Px P em n t ls)(hc:off+ls.length<=cs.size)(w:World):
 ∃x,(part t cs off).run P w= .ok x w/\(Instr.checkKey em n t x).run P w= .ok () w:=by
 rcases hK with⟨hag,hK⟩|⟨hag,h1,hK⟩
 ·refine⟨.agg (cs.extract off (off+ls.length)),?_,hK w _ (by simp;omega)⟩;simp[part,hag,run_sizeOf hs]
 ·refine⟨cs[off]'(by omega),?_,hK w _⟩;simp[part,hag,show off<cs.size by omega]
theorem nR(em:Bool):∀(d:Nat) (t:TypeId) (ls:List dN),dA P d t=some ls->∀n,Px P em (d+n) t ls
 |0,_,_,h,_=>by simp[dA]at h
 |d+1,t,ls,h,n=>by
  have hdn:d+1+n=(d+n)+1:=by omega
  rw[hdn];unfold dA at h;have ag:∀de b,P.underlying t=some de->(match de with| .struct _| .array _ _=>true|_=>false)=b->(isAgg t).run P=λw=> .ok b w:=by
   intro de b hd hb;funext w;simp only[isAgg,Sem.run_bind,run_underlying hd,Result.andThen_ok];cases de<;>cases hb<;>rfl
  split at h
  ·rename_i hd;cases h;exact .inr ⟨ag _ _ hd rfl,rfl,λw v=>by simp[Instr.checkKey,run_underlying hd]⟩
  ·rename_i k hd;cases h;exact .inr ⟨ag _ _ hd rfl,rfl,λw v=>by simp[Instr.checkKey,run_underlying hd]⟩
  ·rename_i hd;cases h;exact .inr ⟨ag _ _ hd rfl,rfl,λw v=>by simp[Instr.checkKey,run_underlying hd]⟩
  ·rename_i k el hd;split at h
   ·rename_i l s h1 h2;split at h
    ·rename_i hls;cases h;refine .inl ⟨ag _ _ hd rfl,λw cs hc=> ?_⟩;have IH:=nR em d el l h1 n;rw[sU]at hc;rw[Instr.checkKey];simp only[Sem.run_bind,run_underlying hd,Result.andThen_ok];simp only[Std.Legacy.Range.forIn_eq_forIn_range',Std.Legacy.Range.size,Nat.sub_zero,Nat.add_one_sub_one,Nat.div_one];have each:∀j∈List.range' 0 k,j<k:=λj hj=>by simp[List.mem_range'_1]at hj;omega
     generalize List.range' 0 k=is at each;induction is with
     |nil=>simp
     |cons j is ih=>
      have hj:=each j (by simp);have hjl:j*l.length+l.length<=k*l.length:=by rw[←Nat.succ_mul];exact Nat.mul_le_mul_right _ hj
      obtain⟨x,p1,p2⟩:=Aq (off:=j*s) (cs:=cs) (by rw[h2,hls]) IH (by simp at hc;rw[←hls];omega) w;simp only[List.forIn_cons,Sem.run_bind,run_sizeOf h2,Result.andThen_ok,p1,p2,Sem.run_pure];exact ih (λy hy=>each y (by simp[hy]))
    ·cases h
   ·cases h
  ·rename_i fs hd;split at h
   ·cases h
   ·refine .inl ⟨ag _ _ hd rfl,λw cs hc=> ?_⟩;rw[Instr.checkKey];simp only[Sem.run_bind,run_underlying hd,Result.andThen_ok];rw[←Array.forIn_toList]
    have each:∀(L:List Field) (off:Nat) (ls:List dN),goL P (dA P d) off L=some ls->off+ls.length<=cs.size→
     (forIn L PUnit.unit fun f _=>(if f.name≠ "_" then do Instr.checkKey em (d+n) f.type (←part f.type cs f.offset);pure (ForInStep.yield PUnit.unit)else do pure (ForInStep.yield PUnit.unit):Sem (ForInStep PUnit))).run P w= .ok () w:=by
     intro L;induction L with
     |nil=>intro off ls _ _;simp
     |cons f L ih=>
      intro off ls hl ho;simp only[goL]at hl;split at hl
      ·cases hl
      ·rename_i hne;have hn:f.name≠ "_" :=fun e=>hne (.inl e)
       have hoff:f.offset=off:=Classical.byContradiction λe=>hne (.inr e);split at hl
       ·rename_i l s h1 h2;split at hl
        ·rename_i hls;split at hl
         ·rename_i m hm;cases hl;rw[dQ,List.length_append]at ho;obtain⟨x,p1,p2⟩:=Aq (off:=off) (cs:=cs) (by rw[h2,hls]) (nR em d f.type l h1 n) (by omega) w;simp only[List.forIn_cons,Sem.run_bind,hn,ne_eq,not_false_eq_true,if_true,hoff,Result.andThen_ok,p1,p2,Sem.run_pure];exact ih (off+s) m hm (by omega)
         ·cases hl
        ·cases hl
       ·cases hl
    have:=each fs.toList 0 ls h (by simp at hc;omega);simp at this⊢;rw[this];rfl
  ·cases h
theorem iC{ag:Bool}{ls:List dN}{k:Value}(hk:iQ ag ls k=true):pL k=ag/\∃b,bG ls (cellsOf k) (cellsOf k)=some b:=by
 unfold iQ at hk;split at hk
 ·rename_i h1 h2;exact⟨by simpa using h1,_,h2⟩
 ·cases hk
theorem qB{ag:Bool}{ls:List dN}{k k':Value}{b:Bool}(hk:lZ ag ls k k'=some b):pL k'=ag/\bG ls (cellsOf k) (cellsOf k')=some b:=by
 unfold lZ at hk;split at hk
 ·rename_i h1;exact⟨by simpa using h1,hk⟩
 ·cases hk
theorem l5{k v':Value}(hk:∀μ xs',LR μ (cellsOf k) xs'→xs'=cellsOf k)(hv:VR μ k v'):v'=k:=by
 cases hk':pL k with
 |true=>
  cases k<;>cases hk'
  obtain⟨c',rfl,hl⟩:=hv.oK;rw[dO (hk μ _ hl)]
 |false=>
  have hc:cellsOf k=[k]:=by cases k<;>first|rfl|cases hk'
  rw[hc]at hk;have:=hk μ [v'] (.cons hv .nil);simpa using this
theorem sS{d:Nat}{t:TypeId}{ls:List dN}(hl:dA P d t=some ls)(w:World):(isAgg t).run P w= .ok (eX P t) w:=by
 cases d with
 |zero=>simp[dA]at hl
 |succ d=>
  unfold dA at hl;cases hd:P.underlying t with
  |none=>simp[hd]at hl
  |some de=>
   simp only[isAgg,Sem.run_bind,run_underlying hd,Result.andThen_ok,eX,hd];cases de<;>simp
theorem wG{t:TypeId}{ls:List dN}(hl:dA P 100 t=some ls){k k':Value}{b:Bool}(hk:iQ (eX P t) ls k=true)(he:lZ (eX P t) ls k k'=some b)(w:World):
 (Op.equal t k k').run P w= .ok b w:=by
 obtain⟨h1,_⟩:=iC hk;obtain⟨h2,h3⟩:=qB he;show(Op.equalIn 10000 t k k').run P w= .ok b w;have hag:=sS (P:=P) hl w;rcases mK 100 t ls hl 9900 with⟨g1,g2⟩|⟨g1,l,rfl,g2⟩
 ·rw[g1]at hag;have:eX P t=true:=by injection hag with q;exact q.symm
  rw[this]at h1 h2;cases k<;>cases h1
  cases k'<;>cases h2
  exact g2 w _ _ b h3
 ·rw[g1]at hag;have:eX P t=false:=by injection hag with q;exact q.symm
  rw[this]at h1 h2;have e1:cellsOf k=[k]:=by cases k<;>first|rfl|cases h1
  have e2:cellsOf k'=[k']:=by cases k'<;>first|rfl|cases h2
  rw[e1,e2]at h3;refine g2 w k k' b ?_;simp only[bG]at h3;split at h3
  ·rename_i q;cases h3;exact q
  ·rename_i q;cases h3;exact q
  ·cases h3
theorem lJ{t:TypeId}{ls:List dN}(hl:dA P 100 t=some ls){k:Value}(hk:iQ (eX P t) ls k=true)(em:Bool)(w:World):(Instr.checkKey em 10000 t k).run P w= .ok () w:=by
 obtain⟨h1,b,h2⟩:=iC hk;have hag:=sS (P:=P) hl w;rcases nR em 100 t ls hl 9900 with⟨g1,g2⟩|⟨_,_,g2⟩
 ·rw[g1]at hag;have:eX P t=true:=by injection hag with q;exact q.symm
  rw[this]at h1;cases k<;>cases h1
  exact g2 w _ (iK h2).1
 ·exact g2 w k
theorem As{l:dN}{x y:Value}(h:iy l x y=some true):x=y:=by
 generalize hb:true=b at h;cases gi h with
 |b a c=>simp at hb;rw[hb]
 |i k a c=>simp at hb;rw[hb]
 |s a c=>
  have:a.toList=c.toList:=by simpa using hb
  rw[ByteArray.toList_eq,ByteArray.toList_eq]at this;have hac:a=c:=by
   obtain⟨⟨x⟩⟩:=a;obtain⟨⟨y⟩⟩:=c;simp at this;rw[this]
  rw[hac]
theorem o8:∀{ls:List dN} {xs ys:List Value},bG ls xs ys=some true->xs=ys
 |[],[],[],_=>rfl
 |[],_::_,_,h=>by cases h
 |[],[],_::_,h=>by cases h
 |_::_,[],_,h=>by cases h
 |_::_,_::_,[],h=>by cases h
 |l::ls,x::xs,y::ys,h=>by
  simp only[bG]at h;split at h
  ·rename_i h1;rw[As h1,o8 h]
  ·split at h<;>cases h
  ·cases h
theorem uy{ag:Bool}{ls:List dN}{k k':Value}(hk:iQ ag ls k=true)(he:lZ ag ls k k'=some true):k=k':=by
 obtain⟨h1,_⟩:=iC hk;obtain⟨h2,h3⟩:=qB he;have:=o8 h3;cases ag with
 |true=>
  cases k<;>cases h1
  cases k'<;>cases h2
  rw[dO this]
 |false=>
  have e1:cellsOf k=[k]:=by cases k<;>first|rfl|cases h1
  have e2:cellsOf k'=[k']:=by cases k'<;>first|rfl|cases h2
  rw[e1,e2]at this;simpa using this
theorem sameBits_self{ls:List dN}:∀{xs:List Value} {b:Bool},bG ls xs xs=some b->∀n,(xs.zip xs).all (λ(x,y)=>Instr.sameBits n x y)=true:=by
 induction ls with
 |nil=>intro xs b h n;cases xs with
  |nil=>rfl
  |cons=>cases h
 |cons l ls ih=>
  intro xs b h n;cases xs with
  |nil=>cases h
  |cons x xs=>
   have:∃c q,iy l x x=some c/\bG ls xs xs=some q:=by
    simp only[bG]at h;split at h
    ·rename_i h1;exact⟨_,_,h1,h⟩
    ·rename_i h1;split at h
     ·rename_i q hq;exact⟨_,_,h1,hq⟩
     ·cases h
    ·cases h
   obtain⟨c,q,h1,h2⟩:=this;have g:=ih h2 n;simp only[List.zip_cons_cons,List.all_cons,Bool.and_eq_true];refine⟨?_,g⟩;clear g h;cases x<;>cases l<;>simp[iy]at h1<;>cases n<;>simp[Instr.sameBits,beq_toListBytes]
theorem G5{ag:Bool}{ls:List dN}{k:Value}(hk:iQ ag ls k=true):Instr.sameBits 10000 k k=true:=by
 obtain⟨h1,b,h2⟩:=iC hk;cases k with
 |agg c=>
  have:=sameBits_self h2 9999;simp only[cellsOf]at this;simp only[Instr.sameBits,beq_self_eq_true,Bool.true_and];exact this
 |_=>
  have:=sameBits_self h2 10000;simp only[cellsOf,List.zip_cons_cons,List.zip_nil_left,List.all_cons,List.all_nil,Bool.and_true]at this;exact this
theorem vm{t:TypeId}{d:TypeDesc}{ls:List dN}(hl:dA P 100 t=some ls)(hd:P.underlying t=some d){k k':Value}{b:Bool}(hk:iQ (eX P t) ls k=true)(he:lZ (eX P t) ls k k'=some b):
 Instr.sameNow d k k'=none∨Instr.sameNow d k k'=some b:=by
 obtain⟨h1,_⟩:=iC hk;obtain⟨h2,h3⟩:=qB he;have one:∀l,ls=[l]->eX P t=false->iy l k k'=some b:=λl hl hf=>by
  rw[hf]at h1 h2;have e1:cellsOf k=[k]:=by cases k<;>first|rfl|cases h1
  have e2:cellsOf k'=[k']:=by cases k'<;>first|rfl|cases h2
  rw[e1,e2,hl]at h3;simp only[bG]at h3;split at h3
  ·rename_i q;cases h3;exact q
  ·rename_i q;cases h3;exact q
  ·cases h3
 unfold dA at hl;rw[hd]at hl;cases d with
 |bool=>
  cases hl;have:=gi (one _ rfl (by simp[eX,hd]));cases this;exact .inr rfl
 |int q=>
  cases hl;have:=gi (one _ rfl (by simp[eX,hd]));cases this;exact .inr (by simp[Instr.sameNow])
 |string=>
  cases hl;have:=gi (one _ rfl (by simp[eX,hd]));cases this;exact .inr (by simp[Instr.sameNow,beq_toListBytes])
 |array n el=>left;cases k<;>rfl
 |struct fs=>left;cases k<;>rfl
 |_=>cases hl
def FR(μ:Mu)(k:Value)(es:List (Value×Value))(ms:List MapEntry)(i:Nat):Option (Nat×Value)->Option (Nat×Value)->Prop
 |none,r=>r=none
 |some (j,v),r=>∃m,r=some (j,m.val)/\i<=j/\es[j-i]? =some (k,v)/\ms[j-i]? =some m/\VR μ v m.val/\m.key=k
theorem Ai{t:TypeId}{d:TypeDesc}{ls:List dN}(hl:dA P 100 t=some ls)(hd:P.underlying t=some d){k:Value}(hk:iQ (eX P t) ls k=true)(w:World):
 ∀{es:List (Value×Value)} {ms:List MapEntry},MR μ es ms->∀(i:Nat) (r:Option (Nat×Value)),jq (eX P t) ls k i es=some r→
 ∃r',FR μ k es ms i r r'∧(Instr.findNow d k ms i=none∨Instr.findNow d k ms i=some r')/\(Instr.findAsking t k ms i).run P w= .ok r' w
 |_,_, .nil,i,r,hf=>by
  cases hf;exact⟨none,rfl, .inr rfl,by simp[Instr.findAsking]⟩
 |_,_, .cons (k:=k0) (v:=v0) (es:=es) (m:=m) (ms:=ms) h1 h2 h3,i,r,hf=>by
  simp only[jq]at hf;have hkey:∀b,lZ (eX P t) ls k k0=some b->m.key=k0:=λb hb=>l5 (fh (qB hb).2).2 h1;split at hf
  ·rename_i hb;cases hf;have hm:=hkey _ hb;refine⟨some (i,m.val),⟨m,rfl,Nat.le_refl _,?_,by simp,h2,?_⟩,?_,?_⟩
   ·have:=uy hk hb;simp[this]
   ·rw[hm];exact(uy hk hb).symm
   ·simp only[Instr.findNow,hm];rcases vm hl hd hk hb with q|q<;>simp[q]
   ·simp only[Instr.findAsking,hm,Sem.run_bind,wG hl hk hb,Result.andThen_ok,if_true,Sem.run_pure]
  ·rename_i hb;have hm:=hkey _ hb;obtain⟨r',g1,g2,g3⟩:=Ai hl hd hk w h3 (i+1) r hf;refine⟨r',?_,?_,?_⟩
   ·cases r with
    |none=>exact g1
    |some p=>
     obtain⟨j,v⟩:=p;obtain⟨m',q1,q2,q3,q4,q5,q6⟩:=g1;refine⟨m',q1,by omega,?_,?_,q5,q6⟩<;>rw[show j-i=(j-(i+1))+1 by omega]<;>simpa
   ·simp only[Instr.findNow,hm];rcases vm hl hd hk hb with q|q
    ·simp[q]
    ·simp only[q];exact g2
   ·simp only[Instr.findAsking,hm,Sem.run_bind,wG hl hk hb,Result.andThen_ok];simpa using g3
  ·cases hf
theorem fC{t:TypeId}{ls:List dN}(hl:dA P 100 t=some ls){k:Value}(hk:iQ (eX P t) ls k=true)(w:World){es:List (Value×Value)}{ms:List MapEntry}(hm:MR μ es ms){r:Option (Nat×Value)}
 (hf:jq (eX P t) ls k 0 es=some r):∃r',FR μ k es ms 0 r r'∧(Instr.findKey t k ms).run P w= .ok r' w:=by
 have hd:∃d,P.underlying t=some d:=by
  cases hd:P.underlying t with
  |none=>unfold dA at hl;rw[hd]at hl;cases hl
  |some d=>exact⟨d,rfl⟩
 obtain⟨d,hd⟩:=hd;obtain⟨r',g1,g2,g3⟩:=Ai hl hd hk w hm 0 r hf;refine⟨r',g1,?_⟩;simp only[Instr.findKey,Sem.run_bind,run_underlying hd,Result.andThen_ok];rcases g2 with q|q
 ·rw[q];exact g3
 ·rw[q];simp
theorem oU.set{l:List MapEntry}{cl:Nat}(b:oU l cl){j:Nat}{m m':MapEntry}(hj:l[j]? =some m)(hm:m'.born=m.born):oU (l.set j m') cl:=by
 have e:(l.set j m').map (·.born)=l.map (·.born):=by
  apply List.ext_getElem?;intro i;rw[List.getElem?_map,List.getElem?_map,List.getElem?_set];by_cases h:j=i
  ·subst h;have:=(List.getElem?_eq_some_iff.1 hj).1;rw[if_pos rfl,if_pos this,hj];simp[hm]
  ·rw[if_neg h]
 unfold oU;rw[e];exact b
theorem oU.push{l:List MapEntry}{cl:Nat}(b:oU l cl)(m:MapEntry)(hm:m.born=cl):oU (l++[m]) (cl+1):=by
 unfold oU;rw[List.map_append,List.map_cons,List.map_nil,hm];refine⟨List.nodup_append.2 ⟨b.1,by simp,λx hx y hy=> ?_⟩,λn hn=> ?_⟩
 ·rw[List.mem_singleton.1 hy];exact Nat.ne_of_lt (b.2 x hx)
 ·rcases List.mem_append.1 hn with q|q
  ·exact Nat.lt_succ_of_lt (b.2 n q)
  ·rw[List.mem_singleton.1 q];exact Nat.lt_succ_self _
theorem oU.del{l:List MapEntry}{cl:Nat}(b:oU l cl)(j:Nat):oU (l.eraseIdx j) cl:=by
 have s:((l.eraseIdx j).map (·.born)).Sublist (l.map (·.born)):=(List.eraseIdx_sublist l j).map _;exact⟨s.nodup b.1,λn hn=>b.2 n (s.subset hn)⟩
theorem R.rD(hR:R P μ h w){r:Nat}{es:List (Value×Value)}{k:Blk}(hb:h.get r=some (.map es))(hk:μ r=some k){es':List (Value×Value)}{ms':Array MapEntry}{cl:Nat}(hm:MR μ es' ms'.toList)(hB:oU ms'.toList cl):
 ∃w',(setObj k.r (.map ms' cl)).run P w= .ok () w'∧R P μ (h.wr base r (.map es')) w'∧St μ h w μ (h.wr base r (.map es')) w':=by
 obtain⟨ents,clock,g1,g2,_⟩:=hR.obj r _ hb k hk;have hlt:k.r<w.heap.size:=(hR.dom r k hk).2;refine⟨{w with heap:=w.heap.setIfInBounds k.r (.map ms' cl)},by simp[setObj,Sem.run,g1],?_⟩;refine hR.write hb rfl rfl hk (by simp) (λr' hr'=>by simp[Array.getElem?_setIfInBounds,Ne.symm hr']) (tU.Ik (λc el fz hc=>by rw[g1]at hc;cases hc) (λL hc=>by rw[g1]at hc;cases hc)) ?_;intro k' hk';rw[hk]at hk';cases hk';exact⟨ms',cl,by simp[Array.getElem?_setIfInBounds,hlt],hm,hB⟩
theorem MR.set{es:List (Value×Value)}{ms:List MapEntry}(hm:MR μ es ms){k v:Value}{m:MapEntry}(hk:VR μ k m.key)(hv:VR μ v m.val):∀i,MR μ (es.set i (k,v)) (ms.set i m):=by
 induction hm with
 |nil=>intro i;simp;exact .nil
 |cons h1 h2 h3 ih=>
  intro i;cases i with
  |zero=>simp;exact .cons hk hv h3
  |succ i=>simp;exact .cons h1 h2 (ih i)
theorem MR.push{es:List (Value×Value)}{ms:List MapEntry}(hm:MR μ es ms){k v:Value}{m:MapEntry}(hk:VR μ k m.key)(hv:VR μ v m.val):MR μ (es++[(k,v)]) (ms++[m]):=by
 induction hm with
 |nil=>exact .cons hk hv .nil
 |cons h1 h2 _ ih=>exact .cons h1 h2 ih
theorem MR.del{es:List (Value×Value)}{ms:List MapEntry}(hm:MR μ es ms):∀i,MR μ (Ar es i) (ms.eraseIdx i):=by
 induction hm with
 |nil=>intro i;simp[Ar];exact .nil
 |cons h1 h2 h3 ih=>
  intro i;cases i with
  |zero=>simpa[Ar]using h3
  |succ i=>simp[Ar];exact .cons h1 h2 (ih i)
theorem EI(hR:R P μ h w)(hE:cm μ e a.tmps){t kt el:TypeId}{ls:List dN}{z:Value}{ok:Bool}{m k:Operand}{v:Value}{h':Heap}(hd:P.underlying t=some (.map kt el))(hl:dA P 100 kt=some ls)(hz:gJ P el=some z)(hzf:flat z=true)
 (hm:aC P m=true)(hk:aC P k=true)(h1:aop h base e (.lookup (eX P kt) ls z ok m k)=some (.val v h')):
 Ran P μ h w base (((Instr.lookup t (a.eval m) (a.eval k) ok).run P w).andThen λv w=> .ok (.value v) w) v h':=by
 have out:∀{x x':Value} (b:Bool),VR μ x x'→VR μ (bif ok then .tuple #[x, .bool b]else x) (if ok=true then .tuple #[x', .bool b]else x'):=λb hx=>by
  cases ok
  ·exact hx
  ·exact VR.jZ (.cons hx (.cons (.bool b) .nil))
 have hz0:VR μ z z:=(VR.flat hzf).1;simp only[aop]at h1;split at h1
 ·rename_i kv hmv hkv;simp only[cond_eq_ite,Option.ite_none_right_eq_some]at h1;obtain⟨hko,h1⟩:=h1;cases h1;have gm:=bQ hR hE hm hmv;have gk:=bQ hR hE hk hkv;generalize a.eval m=mv' at*;generalize a.eval k=kv' at*;cases gm;have:=l5 (fh (iC hko).2.choose_spec).1 gk;subst this;refine .pure hR ?_ (by have:=out (x:=z) (x':=z) false hz0;rwa [cond_eq_ite]at this);obtain⟨r',g1,g2⟩:=fC (P:=P) (μ:=μ) hl hko w (es:=[]) (ms:=[]) .nil (r:=none) rfl;cases g1;simp only[Instr.lookup,Sem.run_bind,run_underlying hd,Result.andThen_ok,Sem.run_pure,lJ hl hko,g2,dF hz]
 ·rename_i r kv hmv hkv;split at h1
  ·rename_i es he;simp only[cond_eq_ite,Option.ite_none_right_eq_some]at h1;obtain⟨hko,h1⟩:=h1;have gm:=bQ hR hE hm hmv;have gk:=bQ hR hE hk hkv;generalize a.eval m=mv' at*;generalize a.eval k=kv' at*;cases gm with
   |map hkr=>
    have:=l5 (fh (iC hko).2.choose_spec).1 gk;subst this;obtain⟨ents,clock,g1,g2,gB⟩:=hR.uD he hkr;split at h1
    ·rename_i j v0 hf;cases h1;obtain⟨r',q1,q2⟩:=fC (P:=P) hl hko w g2 hf;obtain⟨me,rfl,_,_,_,q3,_⟩:=q1;refine .pure hR ?_ (by have:=out true q3;rwa [cond_eq_ite]at this);simp only[Instr.lookup,Sem.run_bind,run_underlying hd,fD g1 (by simp),Result.andThen_ok,Sem.run_pure,lJ hl hko,q2]
    ·rename_i hf;cases h1;obtain⟨r',q1,q2⟩:=fC (P:=P) hl hko w g2 hf;cases q1;refine .pure hR ?_ (by have:=out (x:=z) (x':=z) false hz0;rwa [cond_eq_ite]at this);simp only[Instr.lookup,Sem.run_bind,run_underlying hd,fD g1 (by simp),Result.andThen_ok,Sem.run_pure,lJ hl hko,q2,dF hz]
    ·cases h1
  ·cases h1
 ·cases h1
theorem Ir(hR:R P μ h w)(hE:cm μ e a.tmps){t kt el:TypeId}{ls:List dN}{m k x:Operand}{v:Value}{h':Heap}(hd:P.underlying t=some (.map kt el))(hl:dA P 100 kt=some ls)
 (hm:aC P m=true)(hk:aC P k=true)(hx:aC P x=true)(h1:aop h base e (.iE (eX P kt) ls m k x)=some (.val v h')):
 Ran P μ h w base (((Instr.mapUpdate t (a.eval m) (a.eval k) (a.eval x)).run P w).andThen λ_ w=> .ok .skip w) v h':=by
 simp only[aop]at h1;split at h1
 ·rename_i r kv xv hmv hkv hxv;split at h1
  ·rename_i es he;simp only[cond_eq_ite,Option.ite_none_right_eq_some]at h1;obtain⟨hko,h1⟩:=h1;have gm:=bQ hR hE hm hmv;have gk:=bQ hR hE hk hkv;have gx:=bQ hR hE hx hxv;generalize a.eval m=mv' at*;generalize a.eval k=kv' at*;generalize a.eval x=xv' at*;cases gm with
   |map hkr=>
    rename_i kk;have:=l5 (fh (iC hko).2.choose_spec).1 gk;subst this;obtain⟨ents,clock,g1,g2,gB⟩:=hR.obj r _ he _ hkr;split at h1
    ·rename_i j v0 hf;cases h1;obtain⟨r',q1,q2⟩:=fC (P:=P) hl hko w g2 hf;obtain⟨me,rfl,_,_,q5,q3,q4⟩:=q1;rw[Nat.sub_zero]at q5;have hmod:(ents.modify j λe=>{e with key:=kv',val:=xv'}).toList=ents.toList.set j {me with key:=kv',val:=xv'}:=by
      apply List.ext_getElem?;intro i;have q5':ents[j]? =some me:=by simpa using q5
      rw[List.getElem?_set];simp only[Array.getElem?_toList,Array.getElem?_modify];by_cases hij:j=i
      ·subst hij;obtain⟨hlt,q6⟩:=Array.getElem?_eq_some_iff.1 q5';subst q6;simp[hlt]
      ·simp[hij]
     obtain⟨w',s1,s2,s3⟩:=hR.rD (base:=base) he hkr (es':=qD es j (kv',xv)) (ms':=ents.modify j λe=>{e with key:=kv',val:=xv'}) (cl:=clock) (by rw[hmod,j9];exact g2.set gk gx j) (by rw[hmod];exact gB.set (m:=me) q5 rfl);refine⟨μ,undef,w', .inr ⟨?_,rfl⟩,(VR.cT rfl).1,s2,s3,AS.wr _ _ _ _⟩;have hold:((ents[j]?).map (·.key)).getD kv'=kv':=by
      have q5':ents[j]? =some me:=by simpa using q5
      simp[q5',q4]
     simp only[Instr.mapUpdate,Sem.run_bind,run_underlying hd,fD g1 (by simp),Result.andThen_ok,lJ hl hko,q2,hold,Instr.keyThatStays,G5 hko,if_true,Sem.run_pure,s1]
    ·rename_i hf;cases h1;obtain⟨r',q1,q2⟩:=fC (P:=P) hl hko w g2 hf;cases q1;obtain⟨w',s1,s2,s3⟩:=hR.rD (base:=base) he hkr (es':=dP es [(kv',xv)]) (ms':=ents.push {key:=kv',val:=xv',born:=clock}) (cl:=clock+1) (by rw[Array.toList_push,dQ];exact g2.push gk gx) (by rw[Array.toList_push];exact gB.push _ rfl);refine⟨μ,undef,w', .inr ⟨?_,rfl⟩,(VR.cT rfl).1,s2,s3,AS.wr _ _ _ _⟩;simp only[Instr.mapUpdate,Sem.run_bind,run_underlying hd,fD g1 (by simp),Result.andThen_ok,lJ hl hko,q2,s1]
    ·cases h1
  ·cases h1
 ·cases h1
theorem EF(hR:R P μ h w)(hE:cm μ e a.tmps){ts:Array TypeId}{t kt el ty:TypeId}{xs:Array Value}{ls:List dN}{m k:Operand}{v:Value}{h':Heap}(ht:ts[0]? =some t)(hx0:xs[0]? =some (a.eval m))(hx1:xs[1]? =some (a.eval k))
 (hd:P.underlying t=some (.map kt el))(hl:dA P 100 kt=some ls)(hm:aC P m=true)(hk:aC P k=true)(h1:aop h base e (.delete (eX P kt) ls m k)=some (.val v h')):
 Ran P μ h w base (((Builtin.delete_ ts ty xs).run P w).andThen λv w=> .ok (.value v) w) v h':=by
 simp only[aop]at h1;split at h1
 ·rename_i r kv hmv hkv;split at h1
  ·rename_i es he;simp only[cond_eq_ite,Option.ite_none_right_eq_some]at h1;obtain⟨hko,h1⟩:=h1;have gm:=bQ hR hE hm hmv;have gk:=bQ hR hE hk hkv;generalize a.eval m=mv' at*;generalize a.eval k=kv' at*;cases gm with
   |map hkr=>
    rename_i kk;have:=l5 (fh (iC hko).2.choose_spec).1 gk;subst this;obtain⟨ents,clock,g1,g2,gB⟩:=hR.obj r _ he _ hkr;split at h1
    ·rename_i j v0 hf;cases h1;obtain⟨r',q1,q2⟩:=fC (P:=P) hl hko w g2 hf;obtain⟨me,rfl,_,_,q5,q3,q4⟩:=q1;have hdel:(ents.eraseIdxIfInBounds j).toList=ents.toList.eraseIdx j:=by
      unfold Array.eraseIdxIfInBounds;split
      ·simp
      ·rw[List.eraseIdx_of_length_le (by simp;omega)]
     obtain⟨w',s1,s2,s3⟩:=hR.rD (base:=base) he hkr (es':=Ar es j) (ms':=ents.eraseIdxIfInBounds j) (cl:=clock) (by rw[hdel];exact g2.del j) (by rw[hdel];exact gB.del j);refine⟨μ,_,w', .inl ?_,(VR.cT (v:= .tuple #[]) rfl).1,s2,s3,AS.wr _ _ _ _⟩;simp only[Builtin.delete_,ht,hx0,hx1,Sem.run_bind,run_underlying hd,fD g1 (by simp),Result.andThen_ok,lJ hl hko,q2,s1,Sem.run_pure]
    ·rename_i hf;cases h1;obtain⟨r',q1,q2⟩:=fC (P:=P) hl hko w g2 hf;cases q1;obtain⟨w',s1,s2,s3⟩:=hR.rD (base:=base) he hkr (es':=es) (ms':=ents) (cl:=clock) g2 gB;refine⟨μ,_,w', .inl ?_,(VR.cT (v:= .tuple #[]) rfl).1,s2,s3,AS.wr _ _ _ _⟩;simp only[Builtin.delete_,ht,hx0,hx1,Sem.run_bind,run_underlying hd,fD g1 (by simp),Result.andThen_ok,lJ hl hko,q2,s1,Sem.run_pure]
    ·cases h1
  ·cases h1
 ·rename_i kv hmv hkv;simp only[cond_eq_ite,Option.ite_none_right_eq_some]at h1;obtain⟨hko,h1⟩:=h1;cases h1;have gm:=bQ hR hE hm hmv;have gk:=bQ hR hE hk hkv;generalize a.eval m=mv' at*;generalize a.eval k=kv' at*;cases gm;have:=l5 (fh (iC hko).2.choose_spec).1 gk;subst this;refine .pure hR ?_ (VR.cT (v:= .tuple #[]) rfl).1;simp only[Builtin.delete_,ht,hx0,hx1,Sem.run_bind,run_underlying hd,Result.andThen_ok,lJ hl hko,Sem.run_pure]
 ·cases h1
theorem LR.string(s:List UInt8):LR μ (s.map λb=>Value.int .u8 (b.toNat:Int)) (s.map λb=>Value.int .u8 (b.toNat:Int)):=by
 induction s with
 |nil=>exact .nil
 |cons y l ih=>exact .cons (.int _ _) ih
theorem vQ{w w1:World}(hw:w1.heap=w.heap)(ad:Addr):w1.cell? ad=w.cell? ad:=by simp[World.cell?,hw]
theorem Jo(hR:R P μ h w){size n:Nat}{x x':Value}{l:List Value}(hx:VR μ x x')(hs:fE h size x=some (l,n)):
 ∃l',LR μ l l'∧l'.length=n*size/\(∀w1,(Builtin.lenOf x').run P w1= .ok n w1)∧
  ∀m,m<=n->∀w1:World,w1.heap=w.heap->(Builtin.firstCells size m x').run P w1= .ok (l'.take (m*size)).toArray w1:=by
 rcases th hR hx hs with⟨cap,rfl,rfl,rfl⟩|⟨r,o,cap,l',rfl,g1,g2,g3⟩|⟨s,rfl,rfl,rfl,rfl⟩|⟨ad,rfl,rfl,rfl⟩
 ·exact⟨[], .nil,by simp,λw1=>by simp[Builtin.lenOf],λm hm w1 _=>by simp[Builtin.firstCells]⟩
 ·refine⟨l',g2,g1,λw1=>by simp[Builtin.lenOf],λm hm w1 hw=> ?_⟩;have hle:m*size<=n*size:=Nat.mul_le_mul_right _ hm;have:=run_loadCells (P:=P) (w:=w1) (r:=r) (o:=o) (l:=l'.take (m*size)) (λj hj=>by
   rw[vQ hw,g3 j (by simp at hj;omega)];congr 1;have:=xX l' 0 (m*size) j (by simp at hj;omega);simpa using this.symm)
  rw[List.length_take,g1,Nat.min_eq_left hle]at this;simpa[Builtin.firstCells]using this
 ·refine⟨_,LR.string _,by simp,λw1=>by simp[Builtin.lenOf],λm hm w1 hw=> ?_⟩;simp only[Builtin.firstCells,Sem.run_pure,Nat.mul_one];congr 1;apply dO;simp[ByteArray.data_extract,←List.map_take]
 ·refine⟨[], .nil,by simp,λw1=>by simp[Builtin.lenOf],λm hm w1 _=> ?_⟩;obtain rfl:m=0:=by omega
  simp[Builtin.firstCells,loadCells,loadCellsFrom]
def eV(elem:TypeId)(size:Nat)(zeros:Bool)(ad:Option Addr)(sLen sCap n:Nat)(x:Value)(appended:Sem (Array Value)):Sem Value:=do
 let need:=sLen+n
 if need<=sCap then
  let new ←appended
  if let some a:=ad then storeCells (a.add (sLen*size)) new.toList
  pure (.slice ad need sCap)
 else
  if(need:Int)>IntKind.i64.max∧(zeros∨(←typeInfo elem).bytes=0)then runtimePanic (.error "growslice: len out of range")
  if Builtin.nextslicecap need sCap*(←typeInfo elem).bytes>2 ^ 48 then(if zeros then runtimePanic (.error "growslice: len out of range")else do
   if !(←Builtin.mayShare size sLen n ad x)then mark .noRoom
   unsupported (.resourceLimit "append: a slice or a string whose bytes no memory bears"))
  let newCap ←choose (.appendCap need sCap elem)
  askRoom (newCap*(←typeInfo elem).bytes)
  let old ←Builtin.firstCells size sLen (.slice ad sLen sCap)
  let new ←appended
  let rest:=Builtin.zeroCells (←zeroValue elem).cells (newCap-need)
  pure (.slice (some (←newRow elem (old++new++rest))) need newCap)
theorem oW{elem:TypeId}{size bytes:Nat}{zeros:Bool}{z:Value}{ad:Option Addr}{sLen sCap n:Nat}{x:Value}{app:Sem (Array Value)}{old new:Array Value}
 (hby:jr P elem=some bytes)(hzz:gJ P elem=some z)(hlt:sCap<sLen+n)(hb0:bytes≠0)(hb:(2*(sLen+n)+768)*bytes<=281474976710656)
 (hold:∀w1:World,w1.heap=w.heap->(Builtin.firstCells size sLen (.slice ad sLen sCap)).run P w1= .ok old w1)
 (happ:∀w1:World,w1.heap=w.heap->app.run P w1= .ok new w1):
 (eV elem size zeros ad sLen sCap n x app).run P w=
   .ok (.slice (some ⟨w.heap.size,0,none⟩) (sLen+n) (grownCap w (sLen+n) sCap elem))
    (w.drew.alloc (.cells (old++new++Builtin.zeroCells z.cells (grownCap w (sLen+n) sCap elem-(sLen+n))) elem)):=by
 have h1:¬sLen+n<=sCap:=by omega
 have hle:(2*(sLen+n)+768)*1<=(2*(sLen+n)+768)*bytes:=Nat.mul_le_mul_left _ (Nat.pos_of_ne_zero hb0);have h2:¬ (((sLen+n:Nat):Int)>IntKind.i64.max/\(zeros=true∨bytes=0)):=by
  intro ⟨q,_⟩;have:IntKind.i64.max=9223372036854775807:=rfl;rw[this]at q;omega
 have h3:¬Builtin.nextslicecap (sLen+n) sCap*bytes>2 ^ 48:=by
  have q1:=nextslicecap_le hlt;have q2:Builtin.nextslicecap (sLen+n) sCap*bytes<=(2*(sLen+n)+768)*bytes:=Nat.mul_le_mul_right _ (by omega);omega
 have hd:w.drew.heap=w.heap:=rfl;obtain⟨i,hi,hz'⟩:=mw hzz;have hbi:i.bytes=bytes:=by
  simp only[jr,Option.map_eq_some_iff]at hby;obtain⟨j,hj,q⟩:=hby;rw[hi]at hj;cases hj;exact q
 unfold eV;simp only[h1,h2,h3,if_false,Sem.run_bind,Sem.run_pure,Result.andThen_ok,run_typeInfo hi,hbi,run_choose,Question.forced,Bool.false_eq_true,run_askRoom,dF hzz];have e1:({w with drawn:=w.drawn+1}:World)=w.drew:=rfl;rw[e1];simp only[hold _ hd,happ _ hd,Result.andThen_ok,gu,Sem.run_pure,grownCap];rfl
theorem kill(hR:R P μ h w){b:Nat}{vs:List Value}{sz:Nat}{k:Blk}(hb:h.get b=some (.cells vs true sz))(hk:μ b=some k):
 R P μ (h.wr base b .dead) w/\St μ h w μ (h.wr base b .dead) w:=
 hR.write hb rfl rfl hk rfl (λ_ _=>rfl) ⟨λc el fz hc=>⟨c,el,fz,hc,Nat.le_refl _⟩,λL hl=>⟨L,hl, .refl L⟩⟩ trivial
theorem lC(zc:Array Value)(n:Nat):(Builtin.zeroCells zc n).size=n*zc.size:=by simp[Builtin.zeroCells]
theorem xW{h0:Heap}(hR:R P μ h0 w)(_hn:h0.next=h.next){elem:TypeId}{size bytes:Nat}{zeros:Bool}{z:Value}{ad:Option Addr}{sLen sCap n:Nat}{x:Value}{app:Sem (Array Value)}{olds old' new new':List Value}
 (hby:jr P elem=some bytes)(hzz:gJ P elem=some z)(hz:z.cells.size=size)(hs0:0<size)(hlt:sCap<sLen+n)(hb0:bytes≠0)(hb:(2*(sLen+n)+768)*bytes<=281474976710656)(hlo:LR μ olds old')(hln:LR μ new new')(hol:old'.length=sLen*size)(hnl:new'.length=n*size)
 (hold:∀w1:World,w1.heap=w.heap->(Builtin.firstCells size sLen (.slice ad sLen sCap)).run P w1= .ok old'.toArray w1)
 (happ:∀w1:World,w1.heap=w.heap->app.run P w1= .ok new'.toArray w1):
 ∃μ' v' w',(eV elem size zeros ad sLen sCap n x app).run P w= .ok v' w'∧VR μ' (.slice (some ⟨h0.next,0,none⟩) (sLen+n) UNK) v'∧R P μ' (h0.push (.cells (olds++new) true size)) w'∧
  St μ h0 w μ' (h0.push (.cells (olds++new) true size)) w':=by
 have hge:=grownCap_ge w (sLen+n) sCap elem;have hrun:=oW (P:=P) (w:=w) (elem:=elem) (zeros:=zeros) (x:=x) hby hzz hlt hb0 hb hold happ;generalize grownCap w (sLen+n) sCap elem=cap at hge hrun;have hcs:(old'.toArray++new'.toArray++Builtin.zeroCells z.cells (cap-(sLen+n))).size=cap*size:=by
  simp only[Array.size_append,List.size_toArray,hol,hnl,lC,hz];rw[←Nat.add_mul,←Nat.add_mul];congr 1;omega
 obtain⟨q1,q2⟩:=hR.uL (c:=old'.toArray++new'.toArray++Builtin.zeroCells z.cells (cap-(sLen+n))) (own:=true) (sz:=size) (l:=olds++new) (el:=elem) (fz:=(0,0))
  (w':=w.drew.alloc (.cells (old'.toArray++new'.toArray++Builtin.zeroCells z.cells (cap-(sLen+n))) elem)) rfl (λj _=>by simp)
  (by
    have:(old'.toArray++new'.toArray++Builtin.zeroCells z.cells (cap-(sLen+n))).toList.take (olds++new).length=old'++new':=by
     rw[List.length_append,hlo.length,hln.length,←List.length_append,Array.toList_append,Array.toList_append];exact List.take_left' rfl
    rw[this];exact hlo.append hln)
  (by rw[hcs,List.length_append,hlo.length,hln.length,hol,hnl,←Nat.add_mul];exact Nat.mul_le_mul_right _ hge)
 exact⟨_,_,_,hrun,VR.eO (o:=0) (dY _ _ _) (by simp only;omega) hs0 hge,q1,q2⟩
theorem Il(hR:R P μ h w){b o len cap' size:Nat}{vs:List Value}{own:Bool}{sz:Nat}{k:Blk}(hb:h.get b=some (.cells vs own sz))(hk:μ b=some k)(hle:o+len*size<=vs.length):
 ∃l',l'.length=len*size/\LR μ ((vs.drop o).take (len*size)) l'∧∀w1:World,w1.heap=w.heap->(Builtin.firstCells size len (.slice (some ⟨k.r,k.d+o,none⟩) len cap')).run P w1= .ok l'.toArray w1:=by
 obtain⟨l',g1,g2,g3⟩:=OR.row (hR.obj b _ hb) hk hle;refine⟨l',g1,g2,λw1 hw=> ?_⟩;have:=run_loadCells (P:=P) (w:=w1) (r:=k.r) (o:=k.d+o) (l:=l') (λj hj=>by rw[vQ hw];exact g3 j hj);rw[g1]at this;simpa[Builtin.firstCells]using this
theorem gr{elem:TypeId}{size:Nat}{zeros:Bool}{ad:Addr}{sLen sCap n:Nat}{x:Value}{app:Sem (Array Value)}{new:List Value}{w':World}(hle:sLen+n<=sCap)
 (happ:app.run P w= .ok new.toArray w)(hst:(storeCells (ad.add (sLen*size)) new).run P w= .ok () w'):
 (eV elem size zeros (some ad) sLen sCap n x app).run P w= .ok (.slice (some ad) (sLen+n) sCap) w':=by
 unfold eV;simp only[hle,if_true,Sem.run_bind,happ,Result.andThen_ok,hst,Sem.run_pure]
theorem tY(hR:R P μ h w){elem:TypeId}{size bytes n:Nat}{zeros:Bool}{z x s s' v:Value}{app:Sem (Array Value)}{new new':List Value}{h':Heap}(hs:VR μ s s')(hnew:LR μ new new')(hnl:new'.length=n*size)
 (hby:jr P elem=some bytes)(hzz:gJ P elem=some z)(hz:z.cells.size=size)(hs0:0<size)(hb0:bytes≠0)(happ:∀w1:World,w1.heap=w.heap->app.run P w1= .ok new'.toArray w1)(h1:jF h base size bytes s new n=some (v,h')):
 ∃ad sLen sCap,s'= .slice ad sLen sCap/\∃μ' v' w',(eV elem size zeros ad sLen sCap n x app).run P w= .ok v' w'∧VR μ' v v'∧R P μ' h' w'∧St μ h w μ' h' w'∧AS base h h':=by
 have hnl2:=hnew.length;unfold jF at h1;split at h1
 ·rename_i a0 len cap;simp only[beq_eq,ble_eq,bM,cond_eq_ite,decide_eq_true_eq]at h1;split at h1
  ·rename_i hn0;subst hn0;rw[Option.ite_none_right_eq_some]at h1;obtain⟨hlc,h1⟩:=h1;cases h1;have hn0:new'=[]:=by simpa using hnl
   subst hn0;have fin:∀ad len cap',len<=cap'→(eV elem size zeros ad len cap' 0 x app).run P w= .ok (.slice ad len cap') w:=λad len cap' hl=>by
    cases ad with
    |none=>
     unfold eV;simp only[Nat.add_zero,hl,if_true,Sem.run_bind,happ w rfl,Result.andThen_ok,Sem.run_pure]
    |some ad=>exact gr (by omega) (happ w rfl) (by simp[storeCells])
   cases hs with
   |iN=>exact⟨none,len,cap,rfl,μ,_,w,fin _ _ _ hlc, .iN _ _,hR, .refl _ _ _, .refl _ _⟩
   |jY s=>exact⟨_,0,0,rfl,μ,_,w,fin _ _ _ hlc, .jY s,hR, .refl _ _ _, .refl _ _⟩
   |slice hk q1 q2=>exact⟨_,len,cap,rfl,μ,_,w,fin _ _ _ q2, .slice hk q1 q2,hR, .refl _ _ _, .refl _ _⟩
   |eO hk q1 q2 q3=>exact⟨_,len,_,rfl,μ,_,w,fin _ _ _ q3, .eO hk q1 q2 q3,hR, .refl _ _ _, .refl _ _⟩
  ·rename_i hn0;rw[Option.ite_none_right_eq_some]at h1;obtain⟨hb,h1⟩:=h1;split at h1
   ·rename_i _;simp only[Bool.and_eq_true,decide_eq_true_eq,Option.ite_none_right_eq_some]at h1;obtain⟨⟨c1,c2⟩,h1⟩:=h1;subst c1 c2;cases h1;cases hs with
    |iN=>
     obtain⟨μ',v',w',g1,g2,g3,g4⟩:=xW (h:=h) hR rfl (elem:=elem) (zeros:=zeros) (x:=x) (ad:=none) (sLen:=0) (sCap:=0) (olds:=[]) (old':=[]) hby hzz hz hs0 (by omega) hb0 hb .nil hnew (by simp) hnl
      (λw1 _=>by simp[Builtin.firstCells]) happ
     rw[Nat.zero_add]at g2;exact⟨none,0,0,rfl,μ',v',w',g1,g2,g3,g4,AS.push _ _ _⟩
   ·rename_i b o;split at h1
    ·rename_i vs own sz hbo;split at h1
     ·rename_i hU;subst hU;rw[Option.ite_none_right_eq_some]at h1;simp only[Bool.and_eq_true,decide_eq_true_eq]at h1;obtain⟨⟨c1,c2⟩,h1⟩:=h1;subst c1 c2;cases hs with
      |slice _ q1 _=>exact absurd q1 (Nat.lt_irrefl _)
      |eO hk q1 q2 q3=>
       rename_i c k;obtain⟨z0,ca,elt,fz,z1,z2,z3,z4,z5⟩:=hR.obj b _ hbo k hk;obtain⟨y1,y2,y3⟩:=z5 rfl;split at h1
       ·rename_i hc;obtain⟨c3,c4⟩:=hc;cases h1;rw[y1,Nat.zero_add]at z2 q1;have hfit:len+n<=c:=by
         have:(len+n)*sz<=c*sz:=by rw[z0]at q1;omega
         exact Nat.le_of_mul_le_mul_right this hs0
        have hmul:(len+n)*sz=len*sz+n*sz:=Nat.add_mul _ _ _;obtain⟨w',s1,s2,s3⟩:=hR.ot (base:=base) hbo hk hnew (o:=o+len*sz) (by omega) c4;refine⟨_,len,c,rfl,μ,_,w',gr hfit (happ w rfl) (by rw[fu,←Nat.add_assoc]at*;exact s1), .eO hk (by rw[y1,Nat.zero_add];exact q1) q2 hfit,s2,s3,AS.wr _ _ _ _⟩
       ·rw[Option.ite_none_right_eq_some]at h1;obtain⟨⟨⟨c3,c4⟩,c5⟩,h1⟩:=h1;subst c3;cases h1;have hlc:dP vs new=vs++new:=dQ _ _;have aS:AS base h ((h.wr base b .dead).push (.cells (dP vs new) true sz)):=(AS.wr base h b .dead).trans (AS.push _ _ _);rw[y1,Nat.zero_add]at z2 q1;by_cases hfit:len+n<=c
        ·have hmul:(len+n)*sz=len*sz+n*sz:=Nat.add_mul _ _ _;have hmul2:(len+n)*sz<=c*sz:=Nat.mul_le_mul_right _ hfit;rw[z0]at q1;obtain⟨w',ca',s1,s2,s3,s4,s5,s6,s7⟩:=kX (P:=P) k.r new' (0+len*sz) 0 w ca elt fz z1 (by omega) y3 (by rw[Dt hnew];exact c5);obtain⟨t1,t2⟩:=hR.move (base:=base) (k':=⟨k.r,0,k.e,sz⟩) (o':= .cells (dP vs new) true sz) hbo rfl rfl hk s2 s3 (.AK z1 s4 (by omega)) rfl (by
          intro k1 hk1;rw[dY]at hk1;cases hk1;refine⟨rfl,ca',elt,fz,s4,by rw[hlc];simp only[List.length_append];omega,by simp only;omega,λi hi=> ?_,λ_=>⟨rfl,by simp only;omega,by rw[s5];exact y3⟩⟩;rw[hlc,List.length_append]at hi;rw[hlc];simp only[Nat.zero_add];have hca:ca'[i]? =(bZ ca.toList (len*sz) new')[i]? :=by
           have:=s6;rw[Nat.zero_add,Nat.add_zero]at this;rw[←this];simp
          rw[hca,l8 new' ca.toList (len*sz) i (by simp;omega)];have hm:∀b' k1,μ b'=some k1->upd μ h.next ⟨k.r,0,k.e,sz⟩ b'=some k1:=λb' k1 hb'=>by
           unfold upd;rw[if_neg];exact hb';intro e;subst e;exact Nat.lt_irrefl _ (hR.dom _ _ hb').1
          by_cases hi2:i<vs.length
          ·rw[if_neg (by omega)];obtain⟨v',p1,p2⟩:=z4 i hi2;rw[y1,Nat.zero_add]at p1;refine⟨v',by simpa using p1,?_⟩;have:gv (vs++new) i=gv vs i:=by simp only[gv,cA];rw[List.getElem?_append_left hi2]
           rw[this];exact p2.mono hm
          ·rw[if_pos (by omega)];have hi3:i-vs.length<new.length:=by omega
           have:gv (vs++new) i=gv new (i-vs.length):=by simp only[gv,cA];rw[List.getElem?_append_right (by omega)]
           rw[this,c4];exact⟨gv new' (i-vs.length),pJ (by omega),(hnew.gv _ hi3).mono hm⟩) s7
         refine⟨_,len,c,rfl,_,_,w',gr hfit (happ w rfl) (by rw[fu];rw[y1];simpa using s1),?_,t1,t2,aS⟩;have:=VR.eO (μ:=upd μ h.next ⟨k.r,0,k.e,sz⟩) (b:=h.next) (o:=0) (l:=len+n) (c:=c) (dY _ _ _) (by simp only;omega) hs0 hfit;rw[y1];exact this
        ·obtain⟨l',o1,o2,o3⟩:=Il (cap':=c) hR hbo hk (o:=0) (len:=len) (size:=sz) (by omega);obtain⟨t1,t2⟩:=kill (base:=base) hR hbo hk;have ho2:LR μ vs l':=by
          have e:(vs.drop 0).take (len*sz)=vs:=by rw[List.drop_zero];exact List.take_of_length_le (by omega)
          rw[e]at o2;exact o2
         obtain⟨μ',v',w',g1,g2,g3,g4⟩:=xW (h:=h) t1 rfl (elem:=elem) (zeros:=zeros) (x:=x) (sLen:=len) (sCap:=c) hby hzz hz hs0 (by omega) hb0 hb ho2 hnew o1 hnl o3 happ;rw[←hlc]at g3 g4;exact⟨_,len,c,rfl,μ',v',w',g1,g2,g3,t2.trans g4 (Nat.le_refl _),aS⟩
     ·rename_i hU;split at h1
      ·rename_i hfit;rw[Option.ite_none_right_eq_some]at h1;simp only[Bool.and_eq_true,decide_eq_true_eq]at h1;obtain⟨⟨⟨c1,c2⟩,c3⟩,h1⟩:=h1;subst c1;cases h1;have hmul:(len+n)*size=len*size+n*size:=Nat.add_mul _ _ _;cases hs with
       |slice hk q1 q2=>
        obtain⟨w',s1,s2,s3⟩:=hR.ot (base:=base) hbo hk hnew (o:=o+len*size) (by omega) c3;exact⟨_,len,cap,rfl,μ,_,w',gr hfit (happ w rfl) (by rw[fu,Nat.add_assoc];exact s1), .slice hk q1 hfit,s2,s3,AS.wr _ _ _ _⟩
       |eO=>exact absurd rfl hU
      ·rename_i hfit;rw[Option.ite_none_right_eq_some]at h1;obtain⟨c1,h1⟩:=h1;cases h1;cases hs with
       |slice hk q1 q2=>
        obtain⟨l',o1,o2,o3⟩:=Il (cap':=cap) hR hbo hk (o:=o) (len:=len) (size:=size) c1;obtain⟨μ',v',w',g1,g2,g3,g4⟩:=xW (h:=h) hR rfl (elem:=elem) (zeros:=zeros) (x:=x) (sLen:=len) (sCap:=cap) hby hzz hz hs0 (by omega) hb0 hb o2 hnew o1 hnl o3 happ;rw[dQ,cZ,cw];exact⟨_,len,cap,rfl,μ',v',w',g1,g2,g3,g4,AS.push _ _ _⟩
       |eO=>exact absurd rfl hU
    ·cases h1
   ·cases h1
 ·cases h1
theorem ED(hR:R P μ h w)(hE:cm μ e a.tmps){ts:Array TypeId}{t xt el ty:TypeId}{xd:TypeDesc}{xs:Array Value}{s x:Operand}{size bytes:Nat}{z v:Value}{h':Heap}
 (ht:ts[0]? =some t)(ht1:ts[1]? =some xt)(hx0:xs[0]? =some (a.eval s))(hx1:xs[1]? =some (a.eval x))(hd:P.underlying t=some (.slice el))(hxd:P.underlying xt=some xd)(hni:∀k,xd≠ .int k)
 (hsz:dH P el=some size)(hbz:jr P el=some bytes)(hz:gJ P el=some z)(hzs:bK (cellsOf z)=size)(hs0:size≠0)(hb0:bytes≠0)(hs:aC P s=true)(hx:aC P x=true)
 (h1:aop h base e (.append size bytes s x)=some (.val v h')):Ran P μ h w base (((Builtin.append_ ts ty xs).run P w).andThen λv w=> .ok (.value v) w) v h':=by
 simp only[aop]at h1;split at h1
 ·rename_i sv xv hsv hxv;split at h1
  ·rename_i l n hsrc;have h1:=fI h1;have gs:=bQ hR hE hs hsv;have gx:=bQ hR hE hx hxv;generalize a.eval s=sv' at*;generalize a.eval x=xv' at*;obtain⟨l',g1,g2,g3,g4⟩:=Jo hR gx hsrc;have happ:∀w1:World,w1.heap=w.heap->(Builtin.firstCells size n xv').run P w1= .ok l'.toArray w1:=λw1 hw=>by
    have:=g4 n (Nat.le_refl _) w1 hw
    rwa [←g2,List.take_length]at this
   have hzc:z.cells.size=size:=by rw[Bk,←bM];exact hzs
   obtain⟨ad,sLen,sCap,rfl,μ',v',w',q1,q2,q3,q4,q5⟩:=tY (elem:=el) (zeros:=false) (x:=xv') hR gs g1 g2 hbz hz hzc (Nat.pos_of_ne_zero hs0) hb0 happ h1;refine⟨μ',v',w', .inl ?_,q2,q3,q4,q5⟩;have hzer:((xd matches .int _):Bool)=false:=by cases xd<;>first|rfl|exact(hni _ rfl).elim
   have key:(Builtin.append_ ts ty xs).run P w=(eV el size false ad sLen sCap n xv' (Builtin.firstCells size n xv')).run P w:=by
    unfold Builtin.append_ eV;simp only[ht,ht1,hx0,hx1,Sem.run_bind,run_underlying hd,run_underlying hxd,run_sizeOf hsz,Result.andThen_ok,Sem.run_pure,hzer,Bool.false_eq_true,if_false,g3,Bool.not_false,if_true,false_or];rfl
   rw[key,q1];rfl
  ·cases h1
 ·cases h1
theorem BV(hR:R P μ h w)(hE:cm μ e a.tmps){ts:Array TypeId}{t xt el ty:TypeId}{kk:IntKind}{xs:Array Value}{s x:Operand}{size bytes:Nat}{z v:Value}{h':Heap}
 (ht:ts[0]? =some t)(ht1:ts[1]? =some xt)(hx0:xs[0]? =some (a.eval s))(hx1:xs[1]? =some (a.eval x))(hd:P.underlying t=some (.slice el))(hxd:P.underlying xt=some (.int kk))
 (hsz:dH P el=some size)(hbz:jr P el=some bytes)(hz:gJ P el=some z)(hsc:cU (cellsOf z)=true)(hzs:bK (cellsOf z)=size)(hs0:size≠0)(hb0:bytes≠0)(hs:aC P s=true)(hx:aC P x=true)
 (h1:aop h base e (.jG (cellsOf z) bytes s x)=some (.val v h')):Ran P μ h w base (((Builtin.append_ ts ty xs).run P w).andThen λv w=> .ok (.value v) w) v h':=by
 simp only[aop]at h1;split at h1
 ·rename_i sv xv hsv hxv;split at h1
  ·rename_i n hn;simp only[blt_eq,ble_eq,cond_eq_ite,Option.ite_none_right_eq_some,Bool.and_eq_true,decide_eq_true_eq]at h1;obtain⟨⟨c1,c2⟩,h1⟩:=h1;have h1:=fI h1;have gs:=bQ hR hE hs hsv;obtain⟨kx,gx⟩:=l9 (bQ hR hE hx hxv) hn;generalize a.eval s=sv' at*;rw[gx]at hx1;have hzc:z.cells.size=size:=by rw[Bk,←bM];exact hzs
   rw[hzs]at h1;have hrow:LR μ (fR n (cellsOf z)) (Builtin.zeroCells z.cells n).toList:=vg hsc n;let app:Sem (Array Value):=if n*size=0 then pure #[]else do pure (Builtin.zeroCells (←zeroValue el).cells n)
   have happ:∀w1:World,w1.heap=w.heap->app.run P w1= .ok (Builtin.zeroCells z.cells n).toList.toArray w1:=λw1 hw=>by
    show((if n*size=0 then pure #[]else do pure (Builtin.zeroCells (←zeroValue el).cells n)):Sem (Array Value)).run P w1=_;by_cases h0:n*size=0
    ·rw[if_pos h0];have:Builtin.zeroCells z.cells n= #[]:=by
      apply Array.eq_empty_of_size_eq_zero;rw[lC,hzc];exact h0
     simp[this]
    ·rw[if_neg h0];simp only[Sem.run_bind,dF hz,Result.andThen_ok,Sem.run_pure]
   obtain⟨ad,sLen,sCap,rfl,μ',v',w',q1,q2,q3,q4,q5⟩:=tY (elem:=el) (zeros:=true) (x:= .int kx n) hR gs hrow (by simp[lC,hzc]) hbz hz hzc (Nat.pos_of_ne_zero hs0) hb0 happ h1;refine⟨μ',v',w', .inl ?_,q2,q3,q4,q5⟩;have hwr:IntKind.i64.wrap (n:Int)=n:=by rw[IntKind.wrap_i64];omega
   obtain⟨i,hi,hz'⟩:=mw hz;have hbi:i.bytes=bytes:=by
    simp only[jr,Option.map_eq_some_iff]at hbz;obtain⟨j,hj,q⟩:=hbz;rw[hi]at hj;cases hj;exact q
   have n1:¬ ((n:Int)<0):=by omega
   have n2:¬ ((n:Int)*(bytes:Int)>2 ^ 48):=by rw[←Int.natCast_mul];omega
   have key:(Builtin.append_ ts ty xs).run P w=(eV el size true ad sLen sCap n (.int kx n) app).run P w:=by
    unfold Builtin.append_ eV;simp only[ht,ht1,hx0,hx1,Sem.run_bind,run_underlying hd,run_underlying hxd,run_sizeOf hsz,Result.andThen_ok,Sem.run_pure,asInt,asIntOf,if_true,Bool.not_true,Bool.false_eq_true,if_false,hwr,n1,n2,run_typeInfo hi,hbi,Int.toNat_natCast,true_or];rfl
   rw[key,q1];rfl
  ·cases h1
 ·cases h1
theorem KZ(hR:R P μ h w)(hE:cm μ e a.tmps){ts:Array TypeId}{t el ty:TypeId}{xs:Array Value}{d s:Operand}{size:Nat}{v:Value}{h':Heap}
 (ht:ts[0]? =some t)(hx0:xs[0]? =some (a.eval d))(hx1:xs[1]? =some (a.eval s))(hd:P.underlying t=some (.slice el))(hsz:dH P el=some size)(hcd:aC P d=true)(hcs:aC P s=true)
 (h1:aop h base e (.copy size d s)=some (.val v h')):Ran P μ h w base (((Builtin.copy_ ts ty xs).run P w).andThen λv w=> .ok (.value v) w) v h':=by
 simp only[aop]at h1;split at h1
 ·rename_i a0 dl dc sv hdv hsv;split at h1
  ·rename_i l n hsrc;have gd:=bQ hR hE hcd hdv;have gs:=bQ hR hE hcs hsv;generalize a.eval d=dv' at*;generalize a.eval s=sv' at*;obtain⟨l',g1,g2,g3,g4⟩:=Jo hR gs hsrc;have g4:=g4 (Nat.min n dl) (Nat.min_le_left _ _) w rfl;have cop:∀ad c,dv'= .slice ad dl c->∀w',(match ad with|some a=>(storeCells a (l'.take (Nat.min n dl*size))).run P w|none=> .ok () w)= .ok () w'→(Builtin.copy_ ts ty xs).run P w= .ok (goInt (Nat.min n dl)) w':=λad c hv w' hw=>by
    subst hv;unfold Builtin.copy_;simp only[ht,hx0,hx1,Sem.run_bind,run_underlying hd,Result.andThen_ok,g3,run_sizeOf hsz,g4,Sem.run_pure];cases ad with
    |none=>cases hw;simp
    |some ad=>simp only[Sem.run_bind];simp only at hw;rw[hw];rfl
   split at h1
   ·cases h1;cases gd with
    |iN=>exact⟨μ,_,w, .inl (by rw[cop none _ rfl w rfl];rfl), .int _ _,hR, .refl _ _ _, .refl _ _⟩
   ·rename_i b o;split at h1
    ·rename_i vs sz hbo;simp only[ble_eq,bM,cZ,cond_eq_ite,Option.ite_none_right_eq_some,Bool.and_eq_true,decide_eq_true_eq]at h1;obtain⟨⟨c1,c2⟩,h1⟩:=h1;cases h1;have hlr:=g1.take (Nat.min n dl*size);have hle:(l.take (Nat.min n dl*size)).length<=Nat.min n dl*size:=by simp;omega
     have fin:∀k,μ b=some k->∃w',(storeCells ⟨k.r,k.d+o,none⟩ (l'.take (Nat.min n dl*size))).run P w= .ok () w'∧R P μ (h.wr base b (.cells (bZ vs o (l.take (Nat.min n dl*size))) true sz)) w'∧
      St μ h w μ (h.wr base b (.cells (bZ vs o (l.take (Nat.min n dl*size))) true sz)) w':=λk hk=>hR.ot hbo hk hlr (by omega) c2
     cases gd with
     |slice hk q1 q2=>
      obtain⟨w',s1,s2,s3⟩:=fin _ hk;exact⟨μ,_,w', .inl (by rw[cop _ _ rfl w' s1];rfl), .int _ _,s2,s3,AS.wr _ _ _ _⟩
     |eO hk q1 q2 q3=>
      obtain⟨w',s1,s2,s3⟩:=fin _ hk;exact⟨μ,_,w', .inl (by rw[cop _ _ rfl w' s1];rfl), .int _ _,s2,s3,AS.wr _ _ _ _⟩
    ·cases h1
   ·cases h1
  ·cases h1
 ·cases h1
theorem Io(hR:R P μ h w)(hE:cm μ e a.tmps){ts:Array TypeId}{t el ty:TypeId}{xs:Array Value}{x:Operand}{z v:Value}{h':Heap}
 (ht:ts[0]? =some t)(hx0:xs[0]? =some (a.eval x))(hd:P.underlying t=some (.slice el))(hz:gJ P el=some z)(hsc:cU (cellsOf z)=true)(hcx:aC P x=true)
 (h1:aop h base e (.clear (cellsOf z) x)=some (.val v h')):Ran P μ h w base (((Builtin.clear_ ts ty xs).run P w).andThen λv w=> .ok (.value v) w) v h':=by
 simp only[aop]at h1;split at h1
 ·rename_i a0 n dc hdv;have gd:=bQ hR hE hcx hdv;generalize a.eval x=dv' at*;simp only[cond_eq_ite,beq_eq,decide_eq_true_eq]at h1;split at h1
  ·rename_i hn;subst hn;cases h1;refine⟨μ, .tuple #[],w, .inl ?_,VR.jZ .nil,hR, .refl _ _ _, .refl _ _⟩;cases gd<;>simp[Builtin.clear_,ht,hx0,run_underlying hd]
  ·rename_i hn;obtain⟨m,rfl⟩:∃m,n=m+1:=⟨n-1,by omega⟩;split at h1
   ·cases h1;cases gd with
    |iN=>exact⟨μ, .tuple #[],w, .inl (by simp[Builtin.clear_,ht,hx0,run_underlying hd]),VR.jZ .nil,hR, .refl _ _ _, .refl _ _⟩
   ·rename_i b o;split at h1
    ·rename_i vs sz hbo;simp only[ble_eq,bM,Option.ite_none_right_eq_some,Bool.and_eq_true,decide_eq_true_eq]at h1;obtain⟨⟨c1,c2⟩,h1⟩:=h1;cases h1;have hrow:LR μ (fR (m+1) (cellsOf z)) (Builtin.zeroCells z.cells (m+1)).toList:=vg hsc (m+1);have fin:∀k,μ b=some k->∃w',(storeCells ⟨k.r,k.d+o,none⟩ (Builtin.zeroCells z.cells (m+1)).toList).run P w= .ok () w'∧R P μ (h.wr base b (.cells (bZ vs o (fR (m+1) (cellsOf z))) true sz)) w'∧
      St μ h w μ (h.wr base b (.cells (bZ vs o (fR (m+1) (cellsOf z))) true sz)) w':=λk hk=>hR.ot hbo hk hrow c1 c2
     cases gd with
     |slice hk q1 q2=>
      obtain⟨w',s1,s2,s3⟩:=fin _ hk;exact⟨μ, .tuple #[],w', .inl (by simp[Builtin.clear_,ht,hx0,run_underlying hd,dF hz,s1]),VR.jZ .nil,s2,s3,AS.wr _ _ _ _⟩
     |eO hk q1 q2 q3=>
      obtain⟨w',s1,s2,s3⟩:=fin _ hk;exact⟨μ, .tuple #[],w', .inl (by simp[Builtin.clear_,ht,hx0,run_underlying hd,dF hz,s1]),VR.jZ .nil,s2,s3,AS.wr _ _ _ _⟩
    ·cases h1
   ·cases h1
 ·cases h1
theorem Iv(hR:R P μ h w)(hE:cm μ e a.tmps){t:TypeId}{x:Operand}{v:Value}{h':Heap}(hd:P.underlying t=some .string)(hx:aC P x=true)(h1:aop h base e (.range x)=some (.val v h')):
 Ran P μ h w base (((Instr.range t (a.eval x)).run P w).andThen λv w=> .ok (.value v) w) v h':=by
 simp only[aop]at h1;split at h1
 ·rename_i s hs;cases h1;have g:=bQ hR hE hx hs;generalize a.eval x=xv at*;cases g;obtain⟨g1,g2⟩:=hR.alloc (w':={w with heap:=w.heap.push (.stringIter s 0)}) (o:= .j7 s 0) (k:=⟨w.heap.size,0,0,0⟩) rfl rfl (λk hk=>by
   rw[dY]at hk;cases hk;exact⟨rfl,by simp⟩)
  refine⟨_, .pointer (some ⟨w.heap.size,0,none⟩),_, .inl ?_,VR.ptr (o:=0) (dY _ _ _),g1,g2,AS.push _ _ _⟩;simp[Instr.range,run_underlying hd,newObj,Sem.run]
 ·cases h1
theorem K7(hR:R P μ h w)(hE:cm μ e a.tmps){ty:TypeId}{x:Operand}{v:Value}{h':Heap}(hx:aC P x=true)(h1:aop h base e (.next x true)=some (.val v h')):
 Ran P μ h w base (((Instr.next (a.eval x) true ty).run P w).andThen λv w=> .ok (.value v) w) v h':=by
 simp only[aop]at h1;split at h1
 ·rename_i r hr;split at h1
  ·rename_i s pos hs;have g:=bQ hR hE hx hr;generalize a.eval x=xv at*;cases g with
   |ptr hk=>
    rename_i k;obtain⟨g1,g2⟩:=hR.obj r _ hs k hk;have hlt:=(hR.dom r k hk).2;simp only[blt_eq,cond_eq_ite,decide_eq_true_eq]at h1;rw[g1];split at h1
    ·rename_i hp;cases h1
     obtain⟨s2,s3⟩:=hR.write (base:=base) (o':= .j7 s (pos+(Utf8.decode s pos).2)) (w':={w with heap:=w.heap.setIfInBounds k.r (.stringIter s (pos+(Utf8.decode s pos).2))}) hs rfl rfl hk (by simp)
      (fun r' hr'=>by simp[Array.getElem?_setIfInBounds,Ne.symm hr']) (tU.Ik (fun c el fz hc=>by rw[g2]at hc;cases hc) (fun L hc=>by rw[g2]at hc;cases hc)) (fun k' hk'=>by
        rw[hk]at hk';cases hk';exact⟨g1,by simp[Array.getElem?_setIfInBounds,hlt]⟩)
     refine⟨μ, .tuple #[.bool true, .int .i64 pos, .int .i32 (Utf8.decode s pos).1],_, .inl ?_,VR.jZ (.cons (.bool _) (.cons (.int _ _) (.cons (.int _ _) .nil))),s2,s3,AS.wr _ _ _ _⟩;simp only[Instr.next,Sem.run_bind,fD g2 (by simp),Result.andThen_ok,hp,if_true,Nat.zero_add];simp[setObj,Sem.run,g2,goInt]
    ·rename_i hp;cases h1;refine .pure hR ?_ (VR.jZ (.cons (.bool false) .nil));simp only[Instr.next,Sem.run_bind,fD g2 (by simp),Result.andThen_ok,hp,if_false,Sem.run_pure,Nat.zero_add]
  ·cases h1
 ·cases h1
theorem cO{r r':Result Next}{v:Value}{h':Heap}(hr:Ran P μ h w base r v h')(he:r'=r):Ran P μ h w base r' v h':=he▸hr
theorem ec{α β:Type}{x:Option α}{f:α->β}{y:β}(h:x.map f=some y):∃z,x=some z/\f z=y:=by simpa[Option.map_eq_some_iff]using h
theorem Oi(hR:R P μ h w)(hE:cm μ e a.tmps){o:Oper}{ao:AOp}(hc:fT P o.op=some ao){v:Value}{h':Heap}(h1:aop h base e ao=some (.val v h'))(hb:∀c,o.op≠ .call c):
 Ran P μ h w base ((execOp a.eval o).run P w) v h':=by
 unfold fT at hc;split at hc
 ·rename_i hall;cases hop:o.op<;>rw[hop]at hc hall<;>simp only[Op.operands,List.all_cons,List.all_nil,Bool.and_true,Bool.and_eq_true]at hall<;>(try dsimp only at hc)<;>(try (cases hc;done))<;>(try (exact absurd hop (hb _)))
  case move x=>cases hc;exact cO (Is hR hE hall h1) (by simp[execOp,hop])
  case assign x=>cases hc;exact cO (Is hR hE hall h1) (by simp[execOp,hop])
  case pick c x y=>cases hc;exact cO (K8 hR hE hall.1 hall.2.1 hall.2.2 h1) (by simp[execOp,hop])
  case alloc t=>
   split at hc
   ·rename_i z hz;split at hc
    ·rename_i hs;cases hc;exact cO (Oh hR hz hs h1) (by simp[execOp,hop])
    ·cases hc
   ·cases hc
  case box t x=>cases hc;exact cO (Of (t:=t) hR hE hall h1) (by simp[execOp,hop])
  case build t ps=>
   have hps:∀p∈ps.toList,aC P p.2=true:=λp hp=>List.all_eq_true.1 hall p.2 (by simpa using⟨p.1,by simpa using hp⟩);split at hc
   ·rename_i z fs hz hd;split at hc
    ·rename_i hcc;obtain⟨qs,hq,rfl⟩:=ec hc;exact cO (AL hR hE (.inr ⟨fs,hd,hcc.2,rfl⟩) hz hcc.1 hps (by simpa[Program.cellsOf,dH]using hq) h1) (by simp[execOp,hop])
    ·cases hc
   ·rename_i z n el hz hd;split at hc
    ·rename_i s hs;split at hc
     ·rename_i hcc;obtain⟨qs,hq,rfl⟩:=ec hc;exact cO (AL hR hE (.inl ⟨_,_,s,hd,hs,rfl⟩) hz hcc hps hq h1) (by simp[execOp,hop])
     ·cases hc
    ·cases hc
   ·cases hc
  case buildSlice t n ps=>
   have hps:∀p∈ps.toList,aC P p.2=true:=λp hp=>List.all_eq_true.1 hall p.2 (by simpa using⟨p.1,by simpa using hp⟩);split at hc
   ·rename_i el hd;split at hc
    ·rename_i s z hs hz;split at hc
     ·rename_i hcc;obtain⟨qs,hq,rfl⟩:=ec hc;exact cO (EE hR hE hd hs hz hcc.2.2.2 hcc.1 hcc.2.1 hcc.2.2.1 hps hq h1) (by simp[execOp,hop])
     ·cases hc
    ·cases hc
   ·cases hc
  case load t x=>obtain⟨n,hn,rfl⟩:=ec hc;exact cO (K6 hR hE hn hall h1) (by simp[execOp,hop])
  case store t x y=>obtain⟨n,hn,rfl⟩:=ec hc;exact cO (Iw hR hE hn hall.1 hall.2 h1) (by simp[execOp,hop])
  case nilCheck x=>cases hc;exact EK hR hE hop hall h1
  case binOp op t x y yt=>
   have key:∀{r},Ran P μ h w base r v h'→((do eqGuard op t x y (a.eval x) (a.eval y);binOp op t (a.eval x) (a.eval y)).run P w).andThen (λv w=> .ok (.value v) w)=r->Ran P μ h w base ((execOp a.eval o).run P w) v h':=λhr he=>
    cO hr (by rw[←he];simp[execOp,hop];cases (eqGuard op t x y (a.eval x) (a.eval y)).run P w<;>simp[Result.andThen])
   split at hc
   ·rename_i fs hd;split at hc
    ·rename_i ls hl _;split at hc
     ·cases hc
     ·rename_i hg;cases hc;exact key (qR hR hE rfl (by assumption) (by simpa using hg) hall.1 hall.2 h1 ⟨fs, .inl hd⟩) rfl
    ·split at hc
     ·cases hc
     ·rename_i hg;cases hc;exact key (qR hR hE rfl (by assumption) (by simpa using hg) hall.1 hall.2 h1 ⟨fs, .inl hd⟩) rfl
    ·cases hc
   ·rename_i n el hd;split at hc
    ·split at hc
     ·cases hc
     ·rename_i hg;cases hc;exact key (qR hR hE rfl (by assumption) (by simpa using hg) hall.1 hall.2 h1 ⟨#[], .inr ⟨_,_,hd⟩⟩) rfl
    ·split at hc
     ·cases hc
     ·rename_i hg;cases hc;exact key (qR hR hE rfl (by assumption) (by simpa using hg) hall.1 hall.2 h1 ⟨#[], .inr ⟨_,_,hd⟩⟩) rfl
    ·cases hc
   ·rename_i ms hd;split at hc
    ·rename_i hcc;obtain⟨n,hn,rfl⟩:=ec hc;exact key (uP hR hE hn hd (by simp[pQ]) (λ_=>hcc) hall.1 hall.2 h1) rfl
    ·cases hc
   ·rename_i p hd;obtain⟨n,hn,rfl⟩:=ec hc;exact key (uP hR hE hn hd (by simp[pQ]) (λq=>by cases q) hall.1 hall.2 h1) rfl
   ·rename_i p hd;obtain⟨n,hn,rfl⟩:=ec hc;exact key (uP hR hE hn hd (by simp[pQ]) (λq=>by cases q) hall.1 hall.2 h1) rfl
   ·rename_i p q hd;obtain⟨n,hn,rfl⟩:=ec hc;exact key (uP hR hE hn hd (by simp[pQ]) (λq=>by cases q) hall.1 hall.2 h1) rfl
   ·rename_i p q r hd;obtain⟨n,hn,rfl⟩:=ec hc;exact key (uP hR hE hn hd (by simp[pQ]) (λq=>by cases q) hall.1 hall.2 h1) rfl
   ·rename_i hd;obtain⟨n,hn,rfl⟩:=ec hc;exact key (Oe hR hE hn hd hall.1 hall.2 h1) rfl
   ·cases hc;exact key (It hR hE hall.1 hall.2 h1) rfl
   ·cases hc;exact key (It hR hE hall.1 hall.2 h1) rfl
   ·cases hc
  case unOp op t x=>cases hc;exact cO (QU hR hE hall h1) (by simp[execOp,hop])
  case convert s d x=>
   split at hc
   ·rename_i k k' hs hd;cases hc;exact cO (BW hR hE hs hd hall h1) (by simp[execOp,hop])
   ·rename_i hs hd;cases hc;exact cO (AM hR hE hs hd hall h1) (by simp[execOp,hop])
   ·rename_i el hs hd;split at hc
    ·rename_i hel;cases hc;exact cO (yG hR hE hs hel hd hall h1) (by simp[execOp,hop])
    ·cases hc
   ·rename_i el hs hd;split at hc
    ·rename_i hel;cases hc;exact cO (uO hR hE hs hd hel hall h1) (by simp[execOp,hop])
    ·cases hc
   ·cases hc
  case makeInterface t x=>
   split at hc
   ·cases hc
   ·rename_i d hni hd;cases hc;exact cO (BZ hR hE hd (λm hm=>hni m hm) hall h1) (by simp[execOp,hop])
   ·cases hc
  case makeFunc fn fs cs=>
   cases fn<;>(try (cases hc;done))
   cases hc;simp only[Array.toList_append,List.all_append,Bool.and_eq_true]at hall;exact cO (EJ hR hE hall.1 hall.2 h1) (by simp[execOp,hop])
  case makeMap t r=>
   cases r with
   |none=>cases hc;exact cO (AN (t:=t) hR (r:=none) (.inl rfl) h1) (by simp[execOp,hop])
   |some r=>
    cases r<;>simp only at hc<;>(try (cases hc;done))
    rename_i c;cases c<;>simp only at hc<;>(try (cases hc;done))
    rename_i k n;split at hc
    ·rename_i kt el hd;cases hc;exact cO (AN (t:=t) hR (r:=some (.int k n)) (.inr ⟨k,n,kt,el,rfl,hd⟩) h1) (by simp[execOp,hop,Act.eval])
    ·cases hc
  case makeSlice t l c=>
   split at hc
   ·rename_i el hd;split at hc
    ·rename_i s z b hs hz hb;split at hc
     ·rename_i hcc;cases hc;exact cO (B0 hR hE hd hs hz hb hcc.2.2 hcc.1 hcc.2.1 hall.1 hall.2 h1) (by simp[execOp,hop])
     ·cases hc
    ·cases hc
   ·cases hc
  case slice t x lo hi mx=>
   simp only[List.toList_toArray,Array.toList_append,List.all_append,List.all_cons,List.all_nil,Bool.and_true,Bool.and_eq_true]at hall;have hopt:∀(y:Option Operand),(y.toArray.toList.all (aC P))=true->∀z,y=some z->aC P z=true:=λy hy z hz=>by subst hz;simpa using hy
   obtain⟨⟨⟨hx,hlo⟩,hhi⟩,hmx⟩:=hall;have hlo:=hopt _ hlo;have hhi:=hopt _ hhi;have hmx:=hopt _ hmx;split at hc
   ·cases hc
   ·rename_i hmh;have hmh':mx.isSome=true->hi.isSome=true:=λq=>by cases hi<;>simp_all
    split at hc
    ·rename_i hd;split at hc
     ·cases hc;exact cO (AO hR hE hd hx hlo hhi h1) (by simp[execOp,hop])
     ·cases hc
    ·rename_i el hd;obtain⟨n,hn,rfl⟩:=ec hc;exact cO (B5 hR hE hd hn hx hmh' hlo hhi hmx h1) (by simp[execOp,hop])
    ·rename_i n el hd;split at hc
     ·rename_i hU;obtain⟨s,hn,rfl⟩:=ec hc;exact cO (sZ hR hE (.inl hd) hU hn hx hmh' hlo hhi hmx h1) (by simp[execOp,hop])
     ·cases hc
    ·rename_i p hd;split at hc
     ·rename_i n el hp;split at hc
      ·rename_i hU;obtain⟨s,hn,rfl⟩:=ec hc;exact cO (sZ hR hE (.inr ⟨p,hd,hp⟩) hU hn hx hmh' hlo hhi hmx h1) (by simp[execOp,hop])
      ·cases hc
     ·cases hc
    ·cases hc
  case fieldAddr s x f=>
   split at hc
   ·rename_i fs hd;split at hc
    ·rename_i fl hf;split at hc
     ·rename_i n hn;cases hc;exact cO (Ip hR hE hd hf hn hall h1) (by simp[execOp,hop])
     ·cases hc
    ·cases hc
   ·cases hc
  case field s x f=>
   split at hc
   ·rename_i fs hd;split at hc
    ·rename_i fl hf;obtain⟨n,hn,rfl⟩:=ec hc;exact cO (Iq hR hE hd hf hn hall h1) (by simp[execOp,hop])
    ·cases hc
   ·cases hc
  case indexAddr t x i=>
   split at hc
   ·rename_i n el hd;obtain⟨s,hs,rfl⟩:=ec hc;exact cO (EG hR hE hd hs hall.1 hall.2 h1) (by simp[execOp,hop])
   ·rename_i el hd;obtain⟨s,hs,rfl⟩:=ec hc;exact cO (EH hR hE hd hs hall.1 hall.2 h1) (by simp[execOp,hop])
   ·cases hc
  case index t x i=>
   split at hc
   ·rename_i n el hd;split at hc
    ·rename_i s ag hs hag;cases hc;exact cO (K4 hR hE hd hs hag hall.1 hall.2 h1) (by simp[execOp,hop])
    ·cases hc
   ·rename_i hd;cases hc;exact cO (K5 hR hE hd hall.1 hall.2 h1) (by simp[execOp,hop])
   ·cases hc
  case lookup t m k ok=>
   split at hc
   ·rename_i kt el hd;split at hc
    ·rename_i ls z hl hz;split at hc
     ·rename_i hf;cases hc;exact cO (EI hR hE hd hl hz hf hall.1 hall.2 h1) (by simp[execOp,hop])
     ·cases hc
    ·cases hc
   ·cases hc
  case mapUpdate t m k x=>
   split at hc
   ·rename_i kt el hd;split at hc
    ·rename_i ls hl;cases hc;exact cO (Ir hR hE hd hl hall.1 hall.2.1 hall.2.2 h1) (by simp[execOp,hop])
    ·cases hc
   ·cases hc
  case range t x=>
   split at hc
   ·rename_i hd;cases hc;exact cO (Iv hR hE hd hall h1) (by simp[execOp,hop])
   ·cases hc;cases h1
   ·cases hc
  case entry x=>cases hc;cases h1
  case next x s=>
   cases hc;cases s with
   |true=>exact cO (K7 (ty:=o.type) hR hE hall h1) (by simp[execOp,hop])
   |false=>cases h1
  case typeAssert x xt t ok=>
   split at hc
   ·cases hc
   ·rename_i d hni hd;split at hc
    ·rename_i z hz;split at hc
     ·rename_i hf;cases hc;exact cO (B8 (xt:=xt) hR hE hd (λm hm=>hni m hm) hz hf hall h1) (by simp[execOp,hop])
     ·cases hc
    ·cases hc
   ·cases hc
  case extract x i=>cases hc;exact cO (BX hR hE hall h1) (by simp[execOp,hop])
  case defer c=>
   split at hc
   ·cases hc;simp only[aop]at h1;split at h1<;>cases h1
   ·cases hc
  case panic x=>
   cases hc;obtain⟨xv,_,hh⟩:=an h1;split at hh<;>cases hh
 ·cases hc
end Go.A
end
