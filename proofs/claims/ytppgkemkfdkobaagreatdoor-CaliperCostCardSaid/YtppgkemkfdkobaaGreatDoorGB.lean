/- What relates the machine to the model; its operations are sound. -/
import Derived.Test.YtppgkemkfdkobaaGreatDoorGA
import Derived.Laws.Sem
import Derived.Laws.StructEq
import Derived.ChangeKeysEq
import Derived.Laws.Tables
import Derived.Laws.MakeOwn
import Derived.Laws.IdiomStrings
import Derived.Laws.Slices
set_option linter.all false
section
namespace Go.A
structure Blk where
 r:Nat
 d:Nat
 e:Nat
 sz:Nat
abbrev Mu:=Nat->Option Blk
def gv(l:List Value)(i:Nat):Value:=(bN l i).getD undef
inductive FnR (μ:Mu):Fn->Fn->Prop
 |func f:FnR μ (.func f) (.func f)
 |yield {l k}:μ l=some k->FnR μ (.yield l) (.yield k.r)
def Gc:Option Nat->Nat
 |none=>0
 |some s=>s+1
def K7{a b:Option Nat}(h:Gc a=Gc b):a=b:=by
 cases a<;>cases b<;>simp[Gc]at h⊢
 exact h
inductive VR (μ:Mu):Value->Value->Prop
 |bool b:VR μ (.bool b) (.bool b)
 |int k n:VR μ (.int k n) (.int k n)
 |float k n:VR μ (.float k n) (.float k n)
 |complex k n m:VR μ (.complex k n m) (.complex k n m)
 |string s:VR μ (.string s) (.string s)
 |SV:VR μ (.pointer none) (.pointer none)
 |ptr {b o k}:μ b=some k->VR μ (.pointer (some ⟨b,o,none⟩)) (.pointer (some ⟨k.r,k.d+o,none⟩))
 |kV l c:VR μ (.slice none l c) (.slice none l c)
 |slice {b o l c k}:μ b=some k->c<UNK->l<=c->VR μ (.slice (some ⟨b,o,none⟩) l c) (.slice (some ⟨k.r,k.d+o,none⟩) l c)
 |fR {b o l c k}:μ b=some k->k.d+o+c*k.sz=k.e->0<k.sz->l<=c->VR μ (.slice (some ⟨b,o,none⟩) l UNK) (.slice (some ⟨k.r,k.d+o,none⟩) l c)
 |nW {b o:Nat} (s:Option Nat):VR μ (.slice (some ⟨b,o,some (Gc s)⟩) 0 0) (.slice (some ⟨b,o,s⟩) 0 0)
 |Sa:VR μ (.map none) (.map none)
 |map {b k}:μ b=some k->VR μ (.map (some b)) (.map (some k.r))
 |IF:VR μ (.chan none) (.chan none)
 |func {f f':Fn} {a a' c c':Array Value}:FnR μ f f'→a.toList.length=a'.toList.length->(∀i,i<a.toList.length->VR μ (gv a.toList i) (gv a'.toList i))→
  c.toList.length=c'.toList.length->(∀i,i<c.toList.length->VR μ (gv c.toList i) (gv c'.toList i))->VR μ (.func f a c) (.func f' a' c')
 |nilFunc:VR μ .nilFunc .nilFunc
 |nilIface:VR μ .nilIface .nilIface
 |iface {t v v'}:VR μ v v'→VR μ (.iface t v) (.iface t v')
 |agg {c c':Array Value}:c.toList.length=c'.toList.length->(∀i,i<c.toList.length->VR μ (gv c.toList i) (gv c'.toList i))->VR μ (.agg c) (.agg c')
 |tuple {c c':Array Value}:c.toList.length=c'.toList.length->(∀i,i<c.toList.length->VR μ (gv c.toList i) (gv c'.toList i))->VR μ (.tuple c) (.tuple c')
inductive LR (μ:Mu):List Value->List Value->Prop
 |nil:LR μ [] []
 |cons {x y xs ys}:VR μ x y->LR μ xs ys->LR μ (x::xs) (y::ys)
def LR.length{μ}{a b}(h:LR μ a b):a.length=b.length:=by
 induction h with
 |nil=>rfl
 |cons _ _ ih=>simp[ih]
def LR.gv{μ}{a b}(h:LR μ a b):∀i,i<a.length->VR μ (gv a i) (gv b i):=by
 induction h with
 |nil=>intro i c;simp at c
 |cons h1 _ ih=>
  intro i c;cases i with
  |zero=>exact h1
  |succ i=>exact ih i (by simpa using c)
def LR.BG{μ}:∀{a b:List Value},a.length=b.length->(∀i,i<a.length->VR μ (A.gv a i) (A.gv b i))->LR μ a b
 |[],[],_,_=> .nil
 |[],_::_,h,_=>by simp at h
 |_::_,[],h,_=>by simp at h
 |x::xs,y::ys,h,hv=> .cons (hv 0 (by simp)) (LR.BG (by simpa using h) λi hi=>hv (i+1) (by simpa using hi))
def LR.yb{μ}{x}(h:LR μ [] x):x=[]:=by cases h;rfl
variable{c':Array Value}
def VR.LZ{μ}{c:Array Value}(h:LR μ c.toList c'.toList):VR μ (.agg c) (.agg c'):= .agg h.length h.gv
def VR.pg{μ}{c:Array Value}(h:LR μ c.toList c'.toList):VR μ (.tuple c) (.tuple c'):= .tuple h.length h.gv
def VR.M3{μ}{f d:Fn}{a b c:Array Value}(e:FnR μ f d)(h:LR μ a.toList b.toList)(h':LR μ c.toList c'.toList):VR μ (.func f a c) (.func d b c'):=
 .func e h.length h.gv h'.length h'.gv
def VR.uP{μ}{c:Array Value}{v}(h:VR μ (.agg c) v):∃c',v= .agg c'∧LR μ c.toList c'.toList:=by
 cases h with
 |agg h1 h2=>exact⟨_,rfl, .BG h1 h2⟩
def VR.B9{μ}{c:Array Value}{v}(h:VR μ (.tuple c) v):∃c',v= .tuple c'∧LR μ c.toList c'.toList:=by
 cases h with
 |tuple h1 h2=>exact⟨_,rfl, .BG h1 h2⟩
def VR.rY{μ}{f:Fn}{a c:Array Value}{v}(h:VR μ (.func f a c) v):∃f' a' c',v= .func f' a' c'∧FnR μ f f'∧LR μ a.toList a'.toList/\LR μ c.toList c'.toList:=by
 cases h with
 |func hf h1 h2 h3 h4=>exact⟨_,_,_,rfl,hf, .BG h1 h2, .BG h3 h4⟩
def FnR.mono{μ μ':Mu}(a:∀b k,μ b=some k->μ' b=some k){f f'}(h:FnR μ f f'):FnR μ' f f':=by
 cases h with
 |func f=>exact .func f
 |yield h=>exact .yield (a _ _ h)
def VR.mono{μ μ':Mu}(a:∀b k,μ b=some k->μ' b=some k){v v'}(h:VR μ v v'):VR μ' v v':=by
 induction h with
 |bool b=>exact .bool b
 |int k n=>exact .int k n
 |float k n=>exact .float k n
 |complex k n m=>exact .complex k n m
 |string s=>exact .string s
 |SV=>exact .SV
 |ptr h=>exact .ptr (a _ _ h)
 |kV l c=>exact .kV l c
 |slice h hc hl=>exact .slice (a _ _ h) hc hl
 |fR h h1 h2 h3=>exact .fR (a _ _ h) h1 h2 h3
 |nW s=>exact .nW s
 |Sa=>exact .Sa
 |map h=>exact .map (a _ _ h)
 |IF=>exact .IF
 |func hf h1 _ h3 _ i1 i2=>exact .func (hf.mono a) h1 i1 h3 i2
 |nilFunc=>exact .nilFunc
 |nilIface=>exact .nilIface
 |iface _ ih=>exact .iface ih
 |agg h1 _ ih=>exact .agg h1 ih
 |tuple h1 _ ih=>exact .tuple h1 ih
def LR.mono{μ μ':Mu}(a:∀b k,μ b=some k->μ' b=some k){v v'}(h:LR μ v v'):LR μ' v v':=by
 induction h with
 |nil=>exact .nil
 |cons h1 _ ih=>exact .cons (h1.mono a) ih
def FnR.inj{μ μ':Mu}(a:∀b k,μ b=some k->μ' b=some k){f x y}(h:FnR μ f x)(h':FnR μ' f y):x=y:=by
 cases h with
 |func f=>cases h';rfl
 |yield h=>cases h' with|yield h'=>rw[a _ _ h]at h';cases h';rfl
def zo:∀{a b:List Value},a.length=b.length->(∀i,i<a.length->gv a i=gv b i)->a=b
 |[],[],_,_=>rfl
 |[],_::_,h,_=>by simp at h
 |_::_,[],h,_=>by simp at h
 |x::xs,y::ys,h,hv=>by
  have h0:x=y:=hv 0 (by simp);rw[h0,zo (a:=xs) (b:=ys) (by simpa using h) λi c=>hv (i+1) (by simpa using c)]
def fm{a b:Array Value}(h:a.toList=b.toList):a=b:=by
 cases a;cases b;simp at h;rw[h]
def VR.inj{μ μ':Mu}(d:∀b k,μ b=some k->μ' b=some k){v x y}(h:VR μ v x)(h':VR μ' v y):x=y:=by
 induction h generalizing y with
 |bool b=>cases h';rfl
 |int k n=>cases h';rfl
 |float k n=>cases h';rfl
 |complex k n m=>cases h';rfl
 |string s=>cases h';rfl
 |SV=>cases h';rfl
 |ptr h=>cases h' with|ptr h'=>rw[d _ _ h]at h';cases h';rfl
 |kV l c=>cases h';rfl
 |slice h hc hl=>
  cases h' with
  |slice h' _ _=>rw[d _ _ h]at h';cases h';rfl
  |fR _ _ _ _=>exact absurd hc (xc _)
 |fR h h1 h2 h3=>
  cases h' with
  |slice _ hc _=>exact absurd hc (xc _)
  |fR h' g1 g2 g3=>
   rw[d _ _ h]at h';cases h';have:=Nat.eq_of_mul_eq_mul_right h2 (Nat.add_left_cancel (h1.trans g1.symm));rw[this]
 |nW s=>
  generalize hs:Gc s=t at h';cases h' with
  |nW s'=>rw[K7 hs]
 |Sa=>cases h';rfl
 |map h=>cases h' with|map h'=>rw[d _ _ h]at h';cases h';rfl
 |IF=>cases h';rfl
 |func hf h1 _ h3 _ i1 i2=>
  cases h' with
  |func hf' g1 g2 g3 g4=>
   rw[hf.inj d hf',fm (zo (h1.symm.trans g1) λi a=>i1 i (h1▸a) (g2 i (h1▸a))),fm (zo (h3.symm.trans g3) λi a=>i2 i (h3▸a) (g4 i (h3▸a)))]
 |nilFunc=>cases h';rfl
 |nilIface=>cases h';rfl
 |iface _ ih=>cases h' with|iface h'=>rw[ih h']
 |agg h1 _ ih=>cases h' with|agg g1 g2=>rw[fm (zo (h1.symm.trans g1) λi a=>ih i (h1▸a) (g2 i (h1▸a)))]
 |tuple h1 _ ih=>cases h' with|tuple g1 g2=>rw[fm (zo (h1.symm.trans g1) λi a=>ih i (h1▸a) (g2 i (h1▸a)))]
def VR.mI{μ}:∀{v:Value},mI v=true->VR μ v v/\∀x,VR μ v x->x=v:=by
 intro v h;cases v with
 |bool b=>exact⟨.bool b,λx h=>by cases h;rfl⟩
 |int k n=>exact⟨.int k n,λx h=>by cases h;rfl⟩
 |float k n=>exact⟨.float k n,λx h=>by cases h;rfl⟩
 |complex k n m=>exact⟨.complex k n m,λx h=>by cases h;rfl⟩
 |string s=>exact⟨.string s,λx h=>by cases h;rfl⟩
 |pointer a=>cases a with
  |none=>exact⟨.SV,λx h=>by cases h;rfl⟩
  |some a=>simp[A.mI]at h
 |slice a l c=>cases a with
  |none=>exact⟨.kV l c,λx h=>by cases h;rfl⟩
  |some a=>simp[A.mI]at h
 |map r=>cases r with
  |none=>exact⟨.Sa,λx h=>by cases h;rfl⟩
  |some a=>simp[A.mI]at h
 |chan r=>cases r with
  |none=>exact⟨.IF,λx h=>by cases h;rfl⟩
  |some a=>simp[A.mI]at h
 |func f a c=>
  cases f<;>simp[A.mI]at h
  rename_i f;obtain⟨d,e⟩:=h;subst d e;refine⟨.M3 (.func f) .nil .nil,λx h=> ?_⟩;obtain⟨q,g,i,rfl,p,d,e⟩:=h.rY;cases p;have j:g= #[]:=fm (LR.yb d);have o:i= #[]:=fm (LR.yb e);rw[j,o]
 |nilFunc=>exact⟨.nilFunc,λx h=>by cases h;rfl⟩
 |nilIface=>exact⟨.nilIface,λx h=>by cases h;rfl⟩
 |iface t v=>simp[A.mI]at h
 |agg c=>simp[A.mI]at h
 |tuple c=>simp[A.mI]at h
def VR.oV{μ}{v:Value}(h:oV v=true):VR μ v v/\∀x,VR μ v x->x=v:=by
 cases v with
 |iface t v=>
  have:=VR.mI (μ:=μ) (v:=v) (by simpa[A.oV]using h);exact⟨.iface this.1,λx h=>by cases h with|iface h=>rw[this.2 _ h]⟩
 |_=>exact VR.mI (by simpa[A.oV]using h)
def LR.dQ{μ}:∀{l:List Value},dQ l=true->LR μ l l/\∀x,LR μ l x->x=l
 |[],_=>⟨.nil,λx h=>by cases h;rfl⟩
 |v::l,h=>by
  simp only[A.dQ,cond_eq_ite]at h;split at h
  ·rename_i h1;have a:=VR.oV (μ:=μ) h1;have b:=LR.dQ (μ:=μ) h;exact⟨.cons a.1 b.1,λx h=>by cases h with|cons h1 h2=>rw[a.2 _ h1,b.2 _ h2]⟩
  ·simp at h
def VR.flat{μ}{v:Value}(h:flat v=true):VR μ v v/\∀x,VR μ v x->x=v:=by
 have agg:∀c:Array Value,A.dQ c.toList=true->VR μ (.agg c) (.agg c)/\∀x,VR μ (.agg c) x->x= .agg c:=λc h=>by
  have a:=LR.dQ (μ:=μ) h;refine⟨.LZ a.1,λx h=> ?_⟩;obtain⟨d,rfl,b⟩:=h.uP;rw[fm (a.2 _ b)]
 cases v with
 |agg c=>exact agg c (by simpa[A.flat]using h)
 |iface t v=>
  cases v with
  |agg c=>
   have:=agg c (by simpa[A.flat]using h);exact⟨.iface this.1,λx h=>by cases h with|iface h=>rw[this.2 _ h]⟩
  |_=>exact VR.oV (by simpa[A.flat]using h)
 |_=>exact VR.oV (by simpa[A.flat]using h)
def LR.jf{μ}:∀{l:List Value},jf l=true->LR μ l l/\∀x,LR μ l x->x=l
 |[],_=>⟨.nil,λx h=>by cases h;rfl⟩
 |v::l,h=>by
  simp only[A.jf,cond_eq_ite]at h;split at h
  ·rename_i h1;have a:=VR.flat (μ:=μ) h1;have b:=LR.jf (μ:=μ) h;exact⟨.cons a.1 b.1,λx h=>by cases h with|cons h1 h2=>rw[a.2 _ h1,b.2 _ h2]⟩
  ·simp at h
def VR.dA{μ}{v:Value}(h:dA v=true):VR μ v v/\∀x,VR μ v x->x=v:=by
 cases v with
 |tuple c=>
  have a:=LR.jf (μ:=μ) (l:=c.toList) (by simpa[A.dA]using h);refine⟨.pg a.1,λx h=> ?_⟩;obtain⟨d,rfl,b⟩:=h.B9;rw[fm (a.2 _ b)]
 |_=>exact VR.flat (by simpa[A.dA]using h)
def dH(μ:Mu)(e:Env)(tmps:Array Value):Prop:=∀t v,geT e t=some v->∃v',tmps[t]? =some v'∧VR μ v v'
def ir(P:Program)(nt:Nat)(c:Code)(ac:aZ):Prop:=∃ks ks',comp P nt c ks=some (ac,ks')
inductive MR (μ:Mu):List (Value×Value)->List MapEntry->Prop
 |nil:MR μ [] []
 |cons {k v es m ms}:VR μ k m.key->VR μ v m.val->MR μ es ms->MR μ ((k,v)::es) (m::ms)
def vQ(l:List MapEntry)(cl:Nat):Prop:=(l.map (·.born)).Nodup/\∀n∈l.map (·.born),n<cl
def JR:bO->Option Code->Prop
 | .normal,j=>j=none
 | .exit i,j=>j=some (.exit i)
 | .ret,j=>j=some .ret
 | .panic _,_=>False
def StR(st:Nat)(jy:bO)(L:Loop):Prop:=
 (st=0/\L.state= .ready/\L.pending=none/\jy= .normal)∨(st=1/\L.state= .busy)∨(st=2/\L.state= .done/\JR jy L.pending)
def bT.live:bT->Bool
 | .dead=>false
 | .cells vs own _=>own|| !vs.isEmpty
 |_=>true
def bT.ro:bT->Bool
 | .cells _ false _=>true
 | .xO _=>true
 |_=>false
def OR(P:Program)(μ:Mu)(w:World)(b:Nat):bT->Prop
 | .cells vs own sz=>∀k,μ b=some k->k.sz=sz/\∃c el fz,w.heap[k.r]? =some (.cells c el fz)/\k.d+vs.length<=k.e/\k.e<=c.size∧
  (∀i,i<vs.length->∃v',c[k.d+i]? =some v'∧VR μ (gv vs i) v')/\(own=true->k.d=0/\k.e=c.size/\∀j,j<c.size->¬ (fz.1<=j/\j<fz.2))
 | .map es=>∀k,μ b=some k->∃ents clock,w.heap[k.r]? =some (.map ents clock)/\MR μ es ents.toList/\vQ ents.toList clock
 | .xO es=>∀k,μ b=some k->∃ents clock,w.heap[k.r]? =some (.map ents clock)/\MR μ es ents.toList/\vQ ents.toList clock
 | .loop e ps asg body st jy=>∀k,μ b=some k->∃L,w.heap[k.r]? =some (.loop L)/\dH μ e L.tmps/\L.params.toList=ps/\(∃nt,nt<=L.tmps.size/\(∀t∈ps,t<nt)/\ir P nt L.assign asg/\ir P nt L.body body)/\StR st jy L
 | .oH s pos=>∀k,μ b=some k->k.d=0/\w.heap[k.r]? =some (.stringIter s pos)
 | .dead=>True
def bT.len:bT->Nat
 | .cells vs _ _=>vs.length
 |_=>0
def It(w:World)(o:bT)(k:Blk):Prop:=o.ro=true->o.live=true->∀c t fz,w.heap[k.r]? =some (.cells c t fz)->o.len=c.size
def It.get{w w':World}{o:bT}{k:Blk}(x:It w o k)(h:w'.heap[k.r]? =w.heap[k.r]?):It w' o k:=λb d c t a e=>x b d c t a (h▸e)
structure R (P:Program) (μ:Mu) (h:Heap) (w:World):Prop where
 big:P.globals.size<=h.next
 mU:∀g o,g<P.globals.size->h.get g=some o->∃k,μ g=some k/\k.r=g/\k.d=0/\It w o k
 obj:∀b o,h.get b=some o->OR P μ w b o
 lt:∀b o,h.get b=some o->b<h.next
 dom:∀b k,μ b=some k->b<h.next/\k.r<w.heap.size
 mu:∀b b' o o' k k',b≠b'→h.get b=some o->h.get b'=some o'→o.live=true->o'.live=true->μ b=some k->μ b'=some k'→k.r=k'.r->o.ro=true/\o'.ro=true
def Wr(μ:Mu)(h:Heap)(r:Nat):Prop:=∃b o k,h.get b=some o/\o.live=true/\o.ro=false/\μ b=some k/\k.r=r
structure iM (L L':Loop):Prop where
 fn:L'.fn=L.fn
 tmps:L'.tmps=L.tmps
 params:L'.params=L.params
 assign:L'.assign=L.assign
 body:L'.body=L.body
 defers:L'.defers=L.defers
def iM.refl(L:Loop):iM L L:=⟨rfl,rfl,rfl,rfl,rfl,rfl⟩
def iM.trans{a b c:Loop}(h:iM a b)(g:iM b c):iM a c:=
 ⟨g.fn.trans h.fn,g.tmps.trans h.tmps,g.params.trans h.params,g.assign.trans h.assign,g.body.trans h.body,g.defers.trans h.defers⟩
structure Same (w w':World):Prop where
 os:w'.os=w.os
 tape:w'.tape=w.tape
 out:w'.output=w.output
 drawn:w.drawn<=w'.drawn
def Same.refl(w:World):Same w w:=⟨rfl,rfl,rfl,bl _⟩
def Same.trans{a b c:World}(h:Same a b)(g:Same b c):Same a c:=⟨g.os.trans h.os,g.tape.trans h.tape,g.out.trans h.out,gy h.drawn g.drawn⟩
structure St (μ:Mu) (h:Heap) (w:World) (μ':Mu) (h':Heap) (w':World):Prop where
 ext:∀b,b<h.next->μ' b=μ b
 le:w.heap.size<=w'.heap.size
 keep:∀r,r<w.heap.size->¬Wr μ h r->w'.heap[r]? =w.heap[r]?
 wr:∀r,r<w.heap.size->Wr μ' h' r->Wr μ h r
 loops:∀(r:Nat) (L:Loop),w.heap[r]? =some (Obj.loop L)->∃L':Loop,w'.heap[r]? =some (Obj.loop L')/\iM L L'
 same:Same w w'
def dR(a:Nat):Nat->List Nat
 |0=>[]
 |n+1=>(a+n)::dR a n
structure AS (base:Nat) (h h':Heap):Prop where
 next:h.next<=h'.next
 keys:h'.cU.map (·.1)=dR h.next (h'.next-h.next)++h.cU.map (·.1)
 mono:∀b,b<base->gL h.log b=true->gL h'.log b=true
 same:∀b,b<base->b<h.next->gL h'.log b=false->h'.get b=h.get b
def qv(a m n:Nat):dR a (m+n)=dR (a+m) n++dR a m:=by
 induction n with
 |zero=>rfl
 |succ n ih=>
  rw[←Nat.add_assoc];simp only[dR,ih,SW,List.cons.injEq,and_true];omega
def AS.refl(base:Nat)(h:Heap):AS base h h:=⟨bl _,by simp[dR],λ_ _ h=>h,λ_ _ _ _=>rfl⟩
variable{base:Nat}
def AS.trans{h h1 d:Heap}(a:AS base h h1)(b:AS base h1 d):AS base h d where
 next:=gy a.next b.next
 keys:=by
  rw[b.keys,a.keys,←List.append_assoc];have:d.next-h.next=(h1.next-h.next)+(d.next-h1.next):=by have:=a.next;have:=b.next;omega
  rw[this,qv,show h.next+(h1.next-h.next)=h1.next by have:=a.next;omega]
 mono:=λx c h=>b.mono x c (a.mono x c h)
 same:=λx c g f=>by
  have h1:gL h1.log x=false:=by
   cases e:gL h1.log x with
   |false=>rfl
   |true=>rw[b.mono x c e]at f;cases f
  rw[b.same x c (m6 g a.next) f,a.same x c g h1]
def St.refl(μ:Mu)(h:Heap)(w:World):St μ h w μ h w:=⟨λ_ _=>rfl,bl _,λ_ _ _=>rfl,λ_ _ h=>h,λ_ L h=>⟨L,h, .refl L⟩, .refl w⟩
def St.trans{μ h w μ1 h1 w1 μ2 h2 w2}(a:St μ h w μ1 h1 w1)(b:St μ1 h1 w1 μ2 h2 w2)(f:h.next<=h1.next):St μ h w μ2 h2 w2 where
 ext:=λx e=>(b.ext x (m6 e f)).trans (a.ext x e)
 le:=gy a.le b.le
 keep:=λr c d=>(b.keep r (m6 c a.le) λh=>d (a.wr r c h)).trans (a.keep r c d)
 wr:=λr c h=>a.wr r c (b.wr r (m6 c a.le) h)
 loops:=λr L h=>let⟨L1,h1,l1⟩:=a.loops r L h;let⟨L2,h2,l2⟩:=b.loops r L1 h1;⟨L2,h2,l1.trans l2⟩
 same:=a.same.trans b.same
def St.mono{P μ h w μ' h' w'}(c:R P μ h w)(s:St μ h w μ' h' w'):∀b k,μ b=some k->μ' b=some k:=
 λb k a=>by rw[s.ext b (c.dom b k a).1];exact a
def dH.mono{μ μ':Mu}(a:∀b k,μ b=some k->μ' b=some k){e t}(h:dH μ e t):dH μ' e t:=
 λx v c=>let⟨v',h1,h2⟩:=h x v c;⟨v',h1,h2.mono a⟩
def MR.mono{μ μ':Mu}(a:∀b k,μ b=some k->μ' b=some k){e t}(h:MR μ e t):MR μ' e t:=by
 induction h with
 |nil=>exact .nil
 |cons h1 h2 _ ih=>exact .cons (h1.mono a) (h2.mono a) ih
def OR.mono{P}{μ μ':Mu}{w w':World}{b:Nat}{o:bT}(p:∀b k,μ b=some k->μ' b=some k)(hb:μ' b=μ b)
 (n:∀k,μ b=some k->w'.heap[k.r]? =w.heap[k.r]?)(h:OR P μ w b o):OR P μ' w' b o:=by
 cases o with
 |cells vs own sz=>
  intro k d;rw[hb]at d;obtain⟨u,c,q,t,j,l,m,v,x⟩:=h k d;exact⟨u,c,q,t,(n k d).trans j,l,m,λi y=>let⟨v',a,b⟩:=v i y;⟨v',a,b.mono p⟩,x⟩
 |map es=>
  intro k d;rw[hb]at d;obtain⟨g,f,j,l,m⟩:=h k d;exact⟨g,f,(n k d).trans j,l.mono p,m⟩
 |xO es=>
  intro k d;rw[hb]at d;obtain⟨g,f,j,l,m⟩:=h k d;exact⟨g,f,(n k d).trans j,l.mono p,m⟩
 |loop e ps asg body st jy=>
  intro k d;rw[hb]at d;obtain⟨L,j,l,m⟩:=h k d;exact⟨L,(n k d).trans j,l.mono p,m⟩
 |oH s pos=>
  intro k d;rw[hb]at d;exact⟨(h k d).1,(n k d).trans (h k d).2⟩
 |dead=>trivial
def wh(l:List (Nat×bT))(b:Nat)(o:bT)(x:Nat):fT (jI l b o) x=if x=b then(fT l b).map (λ_=>o)else fT l x:=by
 induction l with
 |nil=>simp[jI,fT]
 |cons p l ih=>
  obtain⟨k,q⟩:=p;simp only[jI,fT,cond_eq_ite,Nat.beq_eq];by_cases hk:k=b
  ·subst hk;by_cases hx:x=k
   ·subst hx;simp[fT]
   ·have:¬k=x:=λh=>hx h.symm;simp[fT,hx,cond_eq_ite,this]
  ·by_cases hx:x=b
   ·subst hx;simp[fT,hk,cond_eq_ite,ih]
   ·by_cases hkx:k=x
    ·subst hkx;simp[fT,hk,cond_eq_ite]
    ·simp[fT,hk,hkx,hx,cond_eq_ite,ih]
def nk(l:List (Nat×bT))(b:Nat)(o:bT):(jI l b o).map (·.1)=l.map (·.1):=by
 induction l with
 |nil=>rfl
 |cons p l ih=>
  obtain⟨k,q⟩:=p;simp only[jI,cond_eq_ite];split<;>simp[ih]
def Heap.dU(h:Heap)(o:bT)(x:Nat):(h.push o).get x=if x=h.next then some o else h.get x:=by
 simp only[Heap.push,Heap.get,fT,cond_eq_ite,Nat.beq_eq];by_cases hx:h.next=x
 ·simp[hx]
 ·have:¬x=h.next:=λh=>hx h.symm
  simp[hx,this]
def Heap.nJ(h:Heap)(base b:Nat)(o:bT)(x:Nat):(h.wr base b o).get x=if x=b then(h.get b).map (λ_=>o)else h.get x:=
 wh _ _ _ _
def nq(l:List Nat)(a b:Nat):gL (a::l) b=(decide (a=b)||gL l b):=by
 simp only[gL,cond_eq_ite,Nat.beq_eq];by_cases h:a=b<;>simp[h]
def Heap.G8(h:Heap)(base b:Nat)(o:bT)(x:Nat):gL (h.wr base b o).log x=(gL h.log x||(decide (b<base)&&decide (b=x))):=by
 have a:Nat.blt b base=decide (b<base):=by
  rw[In];simp[G7]
 simp only[Heap.wr,cond_eq_ite,a];by_cases h1:b<base
 ·by_cases h2:gL h.log b=true
  ·by_cases h3:b=x
   ·subst h3;simp[h1,h2]
   ·simp[h1,h2,h3]
  ·simp[h1,h2,nq,Bool.or_comm]
 ·simp[h1]
def AS.push(base:Nat)(h:Heap)(o:bT):AS base h (h.push o)where
 next:=Hm _
 keys:=by simp[Heap.push,dR,ac3]
 mono:=λ_ _ h=>h
 same:=λb _ a _=>by rw[Heap.dU,if_neg ω]
def AS.wr(base:Nat)(h:Heap)(b:Nat)(o:bT):AS base h (h.wr base b o)where
 next:=bl _
 keys:=by simp[Heap.wr,nk,dR]
 mono:=λx _ a=>by rw[Heap.G8,a];rfl
 same:=λx a _ c=>by
  rw[Heap.G8]at c;rw[Heap.nJ,if_neg];intro e;subst e;simp[a]at c
def upd(μ:Mu)(b:Nat)(k:Blk):Mu:=λx=>if x=b then some k else μ x
def size_push{w w':World}{a:Obj}(b:w'.heap=w.heap.push a):w'.heap.size=w.heap.size+1:=by rw[b];simp
def fQ{w w':World}{a:Obj}(b:w'.heap=w.heap.push a)(r:Nat)(hr:r<w.heap.size):w'.heap[r]? =w.heap[r]? :=by
 rw[b,Array.getElem?_push];rw[if_neg ω]
def R.alloc{P μ h w}(d:R P μ h w){w':World}{D:Obj}{o:bT}{k:Blk}(p:w'.heap=w.heap.push D)(V:k.r=w.heap.size)
 (O:OR P (upd μ h.next k) w' h.next o)(y:Same w w':=by exact⟨rfl,rfl,rfl,by first|exact bl _|exact xp _ _⟩):R P (upd μ h.next k) (h.push o) w'∧St μ h w (upd μ h.next k) (h.push o) w':=by
 have x:∀f,μ h.next=some f→False:=λf M=>xc _ (d.dom _ _ M).1
 have G:∀b f,μ b=some f→upd μ h.next k b=some f:=λb f a=>by
  unfold upd;rw[if_neg];exact a;intro e;subst e;exact x _ a
 have W:=size_push p;have m:=d.big;refine⟨⟨HP m,λg q N H=> ?_,λb B a=> ?_,λb B a=> ?_,λb f a=> ?_,λb u C T s Q n a i A S c j t=> ?_⟩,⟨λb a=> ?_,ω,λr t _=>fQ p r t,λr t z=> ?_,λr L F=>⟨L,(fQ p r (Array.getElem?_eq_some_iff.1 F).1).trans F, .refl L⟩,y⟩⟩
 ·rw[Heap.dU,if_neg ω]at H;obtain⟨s,E,I,J,K⟩:=d.mU g q N H;exact⟨s,G _ _ E,I,J,K.get (fQ p _ (d.dom _ _ E).2)⟩
 ·rw[Heap.dU]at a;split at a
  ·rename_i e;subst e;cases a;exact O
  ·rename_i e;refine OR.mono G (by unfold upd;rw[if_neg e]) (λf v=>fQ p _ (d.dom _ _ v).2) (d.obj b B a)
 ·rw[Heap.dU]at a;split at a
  ·rename_i e;subst e;exact eA _
  ·exact EQ (d.lt b B a)
 ·unfold upd at a;split at a
  ·rename_i e;subst e;cases a;exact⟨eA _,ω⟩
  ·have:=d.dom b f a;exact⟨EQ this.1,ω⟩
 ·rw[Heap.dU]at a i;unfold upd at c j;by_cases l:b=h.next
  ·rw[if_pos l]at c;cases c;by_cases e2:u=h.next
   ·exact absurd (l.trans e2.symm) n
   ·rw[if_neg e2]at j;have:=(d.dom _ _ j).2;omega
  ·rw[if_neg l]at c a;by_cases e2:u=h.next
   ·rw[if_pos e2]at j;cases j;have:=(d.dom _ _ c).2;omega
   ·rw[if_neg e2]at j i;exact d.mu b u C T s Q n a i A S c j t
 ·unfold upd;rw[if_neg ω]
 ·obtain⟨b,C,s,a,A,U,c,l⟩:=z;rw[Heap.dU]at a;unfold upd at c;by_cases e:b=h.next
  ·rw[if_pos e]at c;cases c;omega
  ·rw[if_neg e]at c a;exact⟨b,C,s,a,A,U,c,l⟩
def R.abE{P μ h w}(d:R P μ h w)(o:bT):R P μ (h.push o) w/\St μ h w μ (h.push o) w:=by
 have c:∀j,μ h.next=some j→False:=λj B=>xc _ (d.dom _ _ B).1
 have i:=d.big;refine⟨⟨HP i,λg q C v=>by rw[Heap.dU,if_neg ω]at v;exact d.mU g q C v,λb m a=> ?_,λb m a=> ?_,λb j a=>⟨EQ (d.dom b j a).1,(d.dom b j a).2⟩,λb z u G s E n a f t F l y x=> ?_⟩,⟨λ_ _=>rfl,bl _,λ_ _ _=>rfl,λr x p=> ?_,λ_ L h=>⟨L,h, .refl L⟩, .refl w⟩⟩
 ·rw[Heap.dU]at a;split at a
  ·rename_i e;subst e;cases m<;>first|trivial|exact λk D=>(c k D).elim
  ·exact d.obj b m a
 ·rw[Heap.dU]at a;split at a
  ·rename_i e;subst e;exact eA _
  ·exact EQ (d.lt b m a)
 ·rw[Heap.dU]at a f;split at a
  ·rename_i e;subst e;exact(c _ l).elim
  ·split at f
   ·rename_i e;subst e;exact(c _ y).elim
   ·exact d.mu b z u G s E n a f t F l y x
 ·obtain⟨b,u,s,a,t,H,l,A⟩:=p;rw[Heap.dU]at a;split at a
  ·rename_i e;subst e;exact(c _ l).elim
  ·exact⟨b,u,s,a,t,H,l,A⟩
structure AU (w w':World) (r:Nat):Prop where
 cells:∀c el fz,w.heap[r]? =some (.cells c el fz)->∃c' el' fz',w'.heap[r]? =some (.cells c' el' fz')/\c.size<=c'.size
 loop:∀L:Loop,w.heap[r]? =some (Obj.loop L)->∃L':Loop,w'.heap[r]? =some (Obj.loop L')/\iM L L'
variable{r:Nat}
def AU.VQ{w w':World}(h:∀c a b,w.heap[r]? ≠some (.cells c a b))(h':∀L:Loop,w.heap[r]? ≠some (Obj.loop L)):AU w w' r:=⟨λc a b d=>(h c a b d).elim,λL e=>(h' L e).elim⟩
def AU.zU{w w':World}{c0:Array Value}{d a:TypeId}{e b:Nat×Nat}(f:w.heap[r]? =some (.cells c0 d e))(h1:w'.heap[r]? =some (.cells c' a b))(i:c0.size<=c'.size):AU w w' r:=
 ⟨λc j k g=>by rw[f]at g;cases g;exact⟨c',a,b,h1,i⟩,λL h=>by rw[f]at h;cases h⟩
def AU.loops{w w':World}{a:Nat}(d:AU w w' a)(c:∀r,r≠a->w'.heap[r]? =w.heap[r]?)(r:Nat)(L:Loop)(b:w.heap[r]? =some (.loop L)):∃L',w'.heap[r]? =some (.loop L')/\iM L L':=by
 by_cases h:r=a
 ·subst h;exact d.loop L b
 ·exact⟨L,(c r h).trans b, .refl L⟩
def OR.Yp{P}{μ μ':Mu}{w w':World}{b:Nat}{o:bT}(a:o.live=false)(hb:∀k,μ' b=some k->μ b=some k)(x:∀r,w'.heap[r]? =w.heap[r]? ∨AU w w' r)(h:OR P μ w b o):OR P μ' w' b o:=by
 cases o with
 |dead=>trivial
 |cells vs own sz=>
  cases own with
  |true=>cases vs<;>cases a
  |false=>
   cases vs with
   |cons _ _=>cases a
   |nil=>
    intro k v;obtain⟨m,c,j,l,n,p,q,_,_⟩:=h k (hb k v);rcases x k.r with e|e
    ·exact⟨m,c,j,l,e.trans n,p,q,λi g=>(Nat.not_lt_zero _ g).elim,λh=>by cases h⟩
    ·obtain⟨s,d,f,t,u⟩:=e.cells c j l n;exact⟨m,s,d,f,t,p,gy q u,λi g=>(Nat.not_lt_zero _ g).elim,λh=>by cases h⟩
 |map _=>cases a
 |xO _=>cases a
 |loop _ _ _ _ _ _=>cases a
 |oH _ _=>cases a
def R.zL{P μ h w}(a:R P μ h w){b:Nat}{es:List (Value×Value)}{k:Blk}(hb:zL (h.get b)=some es)(c:μ b=some k):
 ∃ents clock,w.heap[k.r]? =some (.map ents clock)/\MR μ es ents.toList/\vQ ents.toList clock:=by
 unfold Go.A.zL at hb;split at hb
 ·rename_i es' he;cases hb;exact a.obj b _ he k c
 ·rename_i es' he;cases hb;exact a.obj b _ he k c
 ·cases hb
variable{o':bT}
def R.write{P μ h w}(c:R P μ h w){b:Nat}{o:bT}{k:Blk}{w':World}(hb:h.get b=some o)(l:o.live=true)(d:o.ro=false)(C:μ b=some k)
 (Z:w'.heap.size=w.heap.size)(p:∀r,r≠k.r->w'.heap[r]? =w.heap[r]?)(Q:AU w w' k.r)(Y:OR P μ w' b o')(H:Same w w':=by exact⟨rfl,rfl,rfl,by first|exact bl _|exact xp _ _⟩)(G:o'.ro=false:=by rfl):
 R P μ (h.wr base b o') w'∧St μ h w μ (h.wr base b o') w':=by
 refine⟨⟨c.big,λg q O f=> ?_,λx q a=> ?_,λx q a=> ?_,λx t a=>⟨(c.dom x t a).1,by rw[Z];exact(c.dom x t a).2⟩,λx T o1 o2 i k2 E a J K l2 u m2 F=> ?_⟩,⟨λ_ _=>rfl,ω,λr F X=> ?_,λr F I=> ?_,λr L l=>Q.loops p r L l,H⟩⟩
 ·rw[Heap.nJ]at f;split at f
  ·rename_i e;subst e;rw[hb]at f;cases f;obtain⟨i,m,n,z,_⟩:=c.mU _ o O hb;exact⟨i,m,n,z,λs=>by rw[G]at s;cases s⟩
  ·rename_i e;obtain⟨i,m,n,z,W⟩:=c.mU g q O f;refine⟨i,m,n,z,λs N=>W.get (p _ λy=> ?_) s N⟩;have:=(c.mu g b q o i k e f hb N l m C y).2;rw[d]at this;cases this
 ·rw[Heap.nJ]at a;split at a
  ·rename_i e;subst e;rw[hb]at a;cases a;exact Y
  ·rename_i e;cases f:q.live with
   |false=>exact OR.Yp f (λ_ h=>h) (λr=>if he:r=k.r then .inr (he▸Q)else .inl (p r he)) (c.obj x q a)
   |true=>
    refine OR.mono (λ_ _ h=>h) rfl (λt D=>p _ λy=> ?_) (c.obj x q a);have:=(c.mu x b q o t k e a hb f l D C y).2;rw[d]at this;cases this
 ·rw[Heap.nJ]at a;split at a
  ·rename_i e;subst e;exact c.lt _ o hb
  ·exact c.lt x q a
 ·have j:∀x q,(h.wr base b o').get x=some q->q.live=true->∃q0,h.get x=some q0/\q0.live=true/\(q0.ro=true->x≠b/\q=q0):=by
   intro x q a lq;rw[Heap.nJ]at a;split at a
   ·rename_i e;subst e;exact⟨o,hb,l,λh=>by rw[d]at h;cases h⟩
   ·rename_i e;exact⟨q,a,lq,λ_=>⟨e,rfl⟩⟩
  obtain⟨q1,m,A,U⟩:=j x o1 a K
  obtain⟨q2,n,B,V⟩:=j T o2 J l2
  obtain⟨v,S⟩:=c.mu x T q1 q2 i k2 E m n A B u m2 F;exact⟨by rw[(U v).2];exact v,by rw[(V S).2];exact S⟩
 ·exact p r λe=>X ⟨b,o,k,hb,l,d,C,e.symm⟩
 ·obtain⟨x,q,i,a,K,v,u,M⟩:=I;rw[Heap.nJ]at a;split at a
  ·rename_i e;subst e;exact⟨x,o,i,hb,l,d,u,M⟩
  ·exact⟨x,q,i,a,K,v,u,M⟩
def R.move{P μ h w}(d:R P μ h w){b:Nat}{o:bT}{k k':Blk}{w':World}(hb:h.get b=some o)(m:o.live=true)(l:o.ro=false)(t:μ b=some k)
 (hs:w'.heap.size=w.heap.size)(C:∀r,r≠k.r->w'.heap[r]? =w.heap[r]?)(X:AU w w' k.r)(ar:k'.r=k.r)(ho:OR P (upd μ h.next k') w' h.next o')(T:Same w w':=by exact⟨rfl,rfl,rfl,by first|exact bl _|exact xp _ _⟩):
 R P (upd μ h.next k') ((h.wr base b .dead).push o') w'∧St μ h w (upd μ h.next k') ((h.wr base b .dead).push o') w':=by
 have Q:∀k',μ h.next=some k'→False:=λk' Z=>xc _ (d.dom _ _ Z).1
 have ae:b≠h.next:=λe=>xc _ (e▸d.lt b o hb)
 have N:∀b c,μ b=some c->upd μ h.next k' b=some c:=λb c hb=>by
  unfold upd;rw[if_neg];exact hb;intro e;subst e;exact Q _ hb
 have hn:(h.wr base b .dead).next=h.next:=rfl
 have f:∀x q,((h.wr base b .dead).push o').get x=some q->(x=h.next/\q=o')∨(x≠h.next/\x=b/\q= .dead)∨(x≠h.next/\x≠b/\h.get x=some q):=by
  intro x q a;rw[Heap.dU,hn]at a;split at a
  ·rename_i e;cases a;exact .inl ⟨e,rfl⟩
  ·rename_i e;rw[Heap.nJ]at a;split at a
   ·rename_i e';rw[hb]at a;cases a;exact .inr (.inl ⟨e,e',rfl⟩)
   ·rename_i e';exact .inr (.inr ⟨e,e',a⟩)
 have A:=d.big;refine⟨⟨HP A,λg q W n=> ?_,λx q a=> ?_,λx q a=> ?_,λx c a=> ?_,λx I V H c Y B a i u G j p S=> ?_⟩,⟨λx a=> ?_,ω,λr S O=> ?_,λr S U=> ?_,λr L m=>X.loops C r L m,T⟩⟩
 ·rcases f g q n with⟨e,_⟩|⟨_,e,e2⟩|⟨_,e,n⟩
  ·omega
  ·subst e;obtain⟨c,E,J,K,_⟩:=d.mU _ o W hb;refine⟨c,N _ _ E,J,K,λ_ z=> ?_⟩;rw[e2]at z;cases z
  ·obtain⟨c,E,J,K,F⟩:=d.mU g q W n;refine⟨c,N _ _ E,J,K,λy z=>F.get (C _ λv=> ?_) y z⟩;have:=(d.mu g b q o c k e n hb z m E t v).2;rw[l]at this;cases this
 ·rcases f x q a with⟨e,rfl⟩|⟨_,_,rfl⟩|⟨s,e2,a⟩
  ·subst e;exact ho
  ·trivial
  ·cases n:q.live with
   |false=>exact OR.Yp n (λc y=>by unfold upd at y;rw[if_neg s]at y;exact y) (λr=>if he:r=k.r then .inr (he▸X)else .inl (C r he)) (d.obj x q a)
   |true=>
    refine OR.mono N (by unfold upd;rw[if_neg s]) (λc M=>C _ λv=> ?_) (d.obj x q a);have:=(d.mu x b q o c k e2 a hb n m M t v).2;rw[l]at this;cases this
 ·show x<h.next+1
  rcases f x q a with⟨e,rfl⟩|⟨_,e,_⟩|⟨_,_,a⟩
  ·omega
  ·have:=d.lt b o hb;omega
  ·have:=d.lt x q a;omega
 ·show x<h.next+1/\_
  unfold upd at a;split at a
  ·cases a;have:=(d.dom b k t).2;exact⟨ω,ω⟩
  ·have:=d.dom x c a;exact⟨ω,ω⟩
 ·have D:∀x q c,h.get x=some q->x≠b->q.live=true->μ x=some c->c.r=k.r->False:=λx q c a e lq mx v=>by
   have:=(d.mu x b q o c k e a hb lq m mx t v).2;rw[l]at this;cases this
  unfold upd at j p;rcases f x V a with⟨e,rfl⟩|⟨_,_,rfl⟩|⟨s,e2,F⟩
  ·rw[if_pos e]at j;cases j;rcases f I H i with⟨e',rfl⟩|⟨_,_,rfl⟩|⟨e1',e2',i⟩
   ·exact absurd (e.trans e'.symm) B
   ·cases G
   ·rw[if_neg e1']at p;exact(D I H Y i e2' G p ω).elim
  ·cases u
  ·rw[if_neg s]at j;rcases f I H i with⟨e',rfl⟩|⟨_,_,rfl⟩|⟨e1',e2',i⟩
   ·rw[if_pos e']at p;cases p;exact(D x V c F e2 u j ω).elim
   ·cases G
   ·rw[if_neg e1']at p;exact d.mu x I V H c Y B F i u G j p S
 ·unfold upd;rw[if_neg ω]
 ·exact C r λe=>O ⟨b,o,k,hb,m,l,t,e.symm⟩
 ·obtain⟨x,q,c,a,u,r1,j,s⟩:=U;unfold upd at j;rcases f x q a with⟨e,rfl⟩|⟨_,_,rfl⟩|⟨e1',e2',a⟩
  ·rw[if_pos e]at j;cases j;exact⟨b,o,k,hb,m,l,t,ω⟩
  ·cases u
  ·rw[if_neg e1']at j;exact⟨x,q,c,a,u,r1,j,s⟩
def R.world{P μ h w}(d:R P μ h w){w':World}(e:w'.heap=w.heap)(i:Same w w':=by exact⟨rfl,rfl,rfl,by first|exact bl _|exact xp _ _⟩):R P μ h w'∧St μ h w μ h w':=
 ⟨⟨d.big,λg o j l=>let⟨k,a,b,c,x⟩:=d.mU g o j l;⟨k,a,b,c,x.get (by rw[e])⟩,λb o f=>OR.mono (λ_ _ h=>h) rfl (λ_ _=>by rw[e]) (d.obj b o f),d.lt,λb k f=>by rw[e];exact d.dom b k f,d.mu⟩,⟨λ_ _=>rfl,by rw[e];exact bl _,λ_ _ _=>by rw[e],λ_ _ h=>h,λr L h=>⟨L,by rw[e];exact h, .refl L⟩,i⟩⟩
def R.Rz{P μ h w}(f:R P μ h w){sz:Nat}{k:Blk}(G:k.r<w.heap.size)(H:OR P (upd μ h.next k) w h.next (.cells [] false sz)):
 R P (upd μ h.next k) (h.push (.cells [] false sz)) w/\St μ h w (upd μ h.next k) (h.push (.cells [] false sz)) w:=by
 have p:∀d,μ h.next=some d→False:=λd E=>xc _ (f.dom _ _ E).1
 have x:∀b d,μ b=some d→upd μ h.next k b=some d:=λb d a=>by
  unfold upd;rw[if_neg];exact a;intro e;subst e;exact p _ a
 have j:=f.big;refine⟨⟨HP j,λg q F y=> ?_,λb u a=> ?_,λb u a=> ?_,λb d a=> ?_,λb B v J l I o a c m A i t z=> ?_⟩,⟨λb a=> ?_,bl _,λ_ _ _=>rfl,λr z s=> ?_,λ_ L h=>⟨L,h, .refl L⟩, .refl w⟩⟩
 ·rw[Heap.dU,if_neg ω]at y;obtain⟨l,C,D⟩:=f.mU g q F y;exact⟨l,x _ _ C,D⟩
 ·rw[Heap.dU]at a;split at a
  ·rename_i e;subst e;cases a;exact H
  ·rename_i e;exact OR.mono x (by unfold upd;rw[if_neg e]) (λ_ _=>rfl) (f.obj b u a)
 ·rw[Heap.dU]at a;split at a
  ·rename_i e;subst e;exact eA _
  ·exact EQ (f.lt b u a)
 ·unfold upd at a;split at a
  ·rename_i e;subst e;cases a;exact⟨eA _,G⟩
  ·have:=f.dom b d a;exact⟨EQ this.1,this.2⟩
 ·rw[Heap.dU]at a c;unfold upd at i t;split at a
  ·cases a;cases m
  ·rename_i n;rw[if_neg n]at i;split at c
   ·cases c;cases A
   ·rename_i e2;rw[if_neg e2]at t;exact f.mu b B v J l I o a c m A i t z
 ·unfold upd;rw[if_neg ω]
 ·obtain⟨b,v,l,a,m,K,i,n⟩:=s;rw[Heap.dU]at a;unfold upd at i;split at a
  ·cases a;cases m
  ·rename_i e;rw[if_neg e]at i;exact⟨b,v,l,a,m,K,i,n⟩
variable{α:Type}
def cK(l:List α):bS l=l.length:=by induction l<;>simp[bS, *]
def cC{α:Type}:∀(l:List α) (i:Nat),bN l i=l[i]?
 |[],_=>by simp[bN]
 |_::_,0=>by simp[bN]
 |_::l,i+1=>by simp[bN,cC l i]
def bw{α:Type}:∀(n:Nat) (l:List α),cm n l=l.take n
 |0,_=>by simp[cm]
 |_+1,[]=>by simp[cm]
 |n+1,_::l=>by simp[cm,bw n l]
def aT{α:Type}:∀(n:Nat) (l:List α),bQ n l=l.drop n
 |0,_=>by simp[bQ]
 |_+1,[]=>by simp[bQ]
 |n+1,_::l=>by simp[bQ,aT n l]
def mV{α:Type}:∀(l:List α) (i:Nat) (x:α),uq l i x=l.set i x
 |[],_,_=>by simp[uq]
 |_::_,0,_=>by simp[uq]
 |_::l,i+1,x=>by simp[uq,mV l i x]
def dS(l m:List α):eL l m=l++m:=by induction l<;>simp[eL, *]
def blt_eq(a b:Nat):Nat.blt a b=decide (a<b):=by rw[In];simp[G7]
def ble_eq(a b:Nat):Nat.ble a b=decide (a<=b):=by rw[In];simp[Nat.ble_eq]
def beq_eq(a b:Nat):Nat.beq a b=decide (a=b):=by rw[In];simp[Nat.beq_eq]
def Nc{l:List Value}{i:Nat}{v:Value}(h:bN l i=some v):gv l i=v/\i<l.length:=by
 rw[cC]at h;exact⟨by simp[gv,cC,h],(List.getElem?_eq_some_iff.1 h).1⟩
def uh{l:List Value}{i:Nat}(h:i<l.length):l[i]? =some (gv l i):=by
 simp[gv,cC,h]
def CG(l:List Value)(o n i:Nat)(hi:i<n):gv ((l.drop o).take n) i=gv l (o+i):=by
 simp only[gv,cC];rw[wi hi,wn]
def LR.get{μ}{a b:List Value}(h:LR μ a b){i v}(d:bN a i=some v):∃v',b[i]? =some v'∧VR μ v v':=by
 obtain⟨e,c⟩:=Nc d;exact⟨_,uh (h.length▸c),e▸h.gv i c⟩
def LR.take{μ}{a b:List Value}(h:LR μ a b):∀n,LR μ (a.take n) (b.take n):=by
 induction h with
 |nil=>intro n;simp;exact .nil
 |cons h1 _ ih=>intro n;cases n with
  |zero=>simp;exact .nil
  |succ n=>simp;exact .cons h1 (ih n)
def LR.drop{μ}{a b:List Value}(h:LR μ a b):∀n,LR μ (a.drop n) (b.drop n):=by
 induction h with
 |nil=>intro n;simp;exact .nil
 |cons h1 h2 ih=>intro n;cases n with
  |zero=>simp;exact .cons h1 h2
  |succ n=>simp;exact ih n
def LR.append{μ}{a b c d:List Value}(h:LR μ a b)(h':LR μ c d):LR μ (a++c) (b++d):=by
 induction h with
 |nil=>exact h'
 |cons h1 _ ih=>exact .cons h1 ih
def LR.set{μ}{a b:List Value}(h:LR μ a b){x y}(c:VR μ x y):∀i,LR μ (a.set i x) (b.set i y):=by
 induction h with
 |nil=>intro i;simp;exact .nil
 |cons h1 h2 ih=>intro i;cases i with
  |zero=>simp;exact .cons c h2
  |succ i=>simp;exact .cons h1 (ih i)
variable {P:Program} {μ:Mu} {h:Heap} {w:World} {e:Env} {a:Act}
def dF(n:R P μ h w)(m:dH μ e a.tmps){x:Operand}{v:Value}(j:aP P x=true)(b:ev h e x=some v):VR μ v (a.eval x):=by
 cases x with
 |tmp t=>
  obtain⟨p,d,i⟩:=m t v b;simp only[Act.eval,xf,d];exact i
 |const c=>cases b;exact(VR.dA j).1
 |global g=>
  simp only[ev]at b;split at b
  ·rename_i o ho;cases b;obtain⟨k,d,i,l,_⟩:=n.mU g o (by simpa[aP,G7]using j) ho;have:=VR.ptr (o:=0) d;rw[i,l]at this;exact this
  ·cases b
 |func f=>cases b;exact(VR.dA (by simp[dA,flat,oV,mI])).1
def we(c:R P μ h w)(b:dH μ e a.tmps):∀{xs:List Operand} {vs:List Value},xs.all (aP P)=true->evs h e xs=some vs->LR μ vs (xs.map a.eval)
 |[],vs,_,hv=>by cases hv;exact .nil
 |x::xs,vs,hc,hv=>by
  simp only[List.all_cons,gk]at hc;simp only[evs]at hv;split at hv
  ·rename_i v h1;split at hv
   ·rename_i vs' h2;cases hv;exact .cons (dF c b hc.1 h1) (we c b hc.2 h2)
   ·cases hv
  ·cases hv
def Ran(P:Program)(μ:Mu)(h:Heap)(w:World)(base:Nat)(r:Result Next)(v:Value)(h':Heap):Prop:=
 ∃μ' v' w',(r= .ok (.value v') w'∨(r= .ok .skip w'∧v'=undef))/\VR μ' v v'∧R P μ' h' w'∧St μ h w μ' h' w'∧AS base h h'
def Ran.pure(a:R P μ h w){r:Result Next}{v v':Value}(hr:r= .ok (.value v') w)(b:VR μ v v'):Ran P μ h w base r v h:=
 ⟨μ,v',w, .inl hr,b,a,St.refl _ _ _,AS.refl _ _⟩
def aD{x:Option Value}{k:Value->Option α}{y:α}(a:dD x k=some y):∃v,x=some v/\k v=some y:=by
 cases x with
 |none=>cases a
 |some v=>exact⟨v,rfl,a⟩
def run_underlying{t:TypeId}{d:TypeDesc}(a:P.underlying t=some d)(w:World):(underlying t).run P w= .ok d w:=by
 simp[underlying,program,Sem.run,a]
def run_typeInfo{t:TypeId}{i:TypeInfo}(hi:P.info? t=some i)(w:World):(typeInfo t).run P w= .ok i w:=by
 simp[typeInfo,program,Sem.run,hi]
def run_sizeOf{t:TypeId}{n:Nat}(hi:eM P t=some n)(w:World):(sizeOf t).run P w= .ok n w:=by
 simp only[eM,BT]at hi;obtain⟨i,hi,rfl⟩:=hi;simp[sizeOf,run_typeInfo hi]
def eO{t:TypeId}{z:Value}(hi:jb P t=some z)(w:World):(zeroValue t).run P w= .ok z w:=by
 simp only[jb,Option.bind_eq_some_iff]at hi;obtain⟨i,hi,a⟩:=hi;simp[zeroValue,run_typeInfo hi,a]
def BN{t:TypeId}{n:Option Nat}(hi:Cp P t=some n)(w:World):(isAgg t).run P w= .ok n.isSome w/\∀m,n=some m->eM P t=some m:=by
 unfold Cp at hi;split at hi
 ·rename_i fs hd;simp only[BT]at hi;obtain⟨m,a,rfl⟩:=hi;exact⟨by simp[isAgg,run_underlying hd],λ_ h=>by cases h;exact a⟩
 ·rename_i l el hd;simp only[BT]at hi;obtain⟨m,a,rfl⟩:=hi;exact⟨by simp[isAgg,run_underlying hd],λ_ h=>by cases h;exact a⟩
 ·rename_i d h1 h2 hd;cases hi;refine⟨?_,λ_ h=>by cases h⟩;simp only[isAgg,gR,run_underlying hd,ed];cases d<;>first|rfl|(exact(h2 _ rfl).elim)|(exact(h1 _ _ rfl).elim)
 ·cases hi
end Go.A
end
section
namespace Go.A
variable {P:Program} {μ:Mu} {h:Heap} {w:World} {e:Env} {a:Act} {base:Nat}
def gI(r o i:Nat):(Addr.add ⟨r,o,none⟩ i)=⟨r,o+i,none⟩:=by
 unfold Addr.add;split
 ·rename_i hi;subst hi;rfl
 ·rfl
variable{r:Nat}{c:Array Value}{el:TypeId}{fz:Nat×Nat}
def cell_of(hr:w.heap[r]? =some (.cells c el fz))(o:Nat):w.cell? ⟨r,o,none⟩=c[o]? :=by
 simp[World.cell?,hr]
def run_loadCellsFrom(r o:Nat):∀(l:List Value) (i:Nat) (a:Array Value),(∀j,j<l.length->w.cell? ⟨r,o+(i+j),none⟩=some (gv l j))→
 (loadCellsFrom ⟨r,o,none⟩ i l.length a).run P w= .ok (a++l.toArray) w
 |[],i,a,_=>by simp[loadCellsFrom]
 |x::l,i,a,hc=>by
  have h0:w.cell? ⟨r,o+i,none⟩=some x:=by simpa[gv,bN]using hc 0 (by simp)
  simp only[tb,loadCellsFrom,gR,gI,Go.run_load,h0,ed];rw[run_loadCellsFrom r o l (i+1) (a.push x) λj b=>by
   have:=hc (j+1) (by simpa using b);rw[show i+1+j=i+(j+1)by omega];simpa[gv,bN]using this]
  congr 1;apply fm;simp
variable{o:Nat}{l:List Value}
def run_loadCells(a:∀j,j<l.length->w.cell? ⟨r,o+j,none⟩=some (gv l j)):
 (loadCells ⟨r,o,none⟩ l.length).run P w= .ok l.toArray w:=by
 unfold loadCells;rw[run_loadCellsFrom r o l 0 #[] λj b=>by rw[hF];exact a j b];simp
variable{b n sz:Nat}{vs:List Value}{own:Bool}
def OR.row{k:Blk}(q:OR P μ w b (.cells vs own sz))(p:μ b=some k)(z:o+n<=vs.length):
 ∃l,l.length=n/\LR μ ((vs.drop o).take n) l/\∀j,j<l.length->w.cell? ⟨k.r,k.d+o+j,none⟩=some (gv l j):=by
 obtain⟨_,c,u,v,s,x,y,m,_⟩:=q k p;induction n generalizing o with
 |zero=>exact⟨[],rfl,by simp;exact .nil,λj a=>by simp at a⟩
 |succ n ih=>
  obtain⟨l,g,h,i⟩:=ih (o:=o+1) ω;obtain⟨t,e,f⟩:=m o ω;refine⟨t::l,by simp[g],?_,λj a=> ?_⟩
  ·have:(vs.drop o).take (n+1)=gv vs o::(vs.drop (o+1)).take n:=by
    rw[Ix ω,Sp];congr 1;simp[gv,cC,show o<vs.length by omega]
   rw[this];exact .cons f h
  ·cases j with
   |zero=>rw[cell_of s];exact e
   |succ j=>
    have:=i j (by simpa using a);rw[show k.d+o+(j+1)=k.d+(o+1)+j by omega];exact this
def zG(P:Program)(w:World)(n:Option Nat)(ad:Addr):Result Value:=
 match n with
 |none=>(load ad).run P w
 |some n=>((loadCells ad n).run P w).andThen λc w=> .ok (.agg c) w
variable{v x':Value}
def Fp(t:R P μ h w){n:Option Nat}{x:Value}(z:VR μ x x')(d:sw h n x=some v):
 ∃r o f,x'= .pointer (some ⟨r,o,none⟩)/\VR μ v f∧
  zG P w n ⟨r,o,none⟩= .ok f w:=by
 unfold sw at d;split at d
 ·rename_i b o;cases z with
  |ptr hk=>
   rename_i k;split at d
   ·rename_i vs own sz ho;have e:=t.obj b _ ho;cases n with
    |none=>
     obtain⟨j,u⟩:=Nc d;obtain⟨_,c,A,B,y,C,D,s,_⟩:=e k hk;obtain⟨f,g,i⟩:=s o u;refine⟨_,_,f,rfl,j▸i,?_⟩;simp[zG,cell_of y,g]
    |some n=>
     simp only[cK,bw,aT,beq_eq,cond_eq_ite]at d;split at d
     ·rename_i a;cases d;have a:o+n<=vs.length∨n=0:=by simp at a;omega
      rcases a with a|rfl
      ·obtain⟨l,m,p,q⟩:=OR.row e hk a;refine⟨_,_, .agg l.toArray,rfl, .LZ (by simpa using p),?_⟩;have:=run_loadCells (P:=P) q;rw[m]at this;simp[zG,this]
      ·refine⟨_,_, .agg #[],rfl, .LZ (by simp;exact .nil),?_⟩;simp[zG,loadCells,loadCellsFrom]
     ·cases d
   ·cases d
 ·cases d
variable{t:TypeId}
def xE{n:Option Nat}(c:Cp P t=some n)(ad:Addr):
 (loadVar t ad).run P w=zG P w n ad:=by
 obtain⟨a,b⟩:=BN c w;unfold loadVar;simp only[gR,a,ed];cases n with
 |none=>simp[zG]
 |some n=>simp[zG,run_sizeOf (b n rfl)]
variable{x:Operand}{h':Heap}
def OI(b:R P μ h w)(c:dH μ e a.tmps)(d:aP P x=true)(h1:aop h base e (.mov x)=some (.val v h')):
 Ran P μ h w base (.ok (.value (a.eval x)) w) v h':=by
 obtain⟨i,g,f⟩:=aD h1;cases f;exact .pure b rfl (dF b c d g)
def SD(c:R P μ h w)(i:dH μ e a.tmps){n:Option Nat}(k:Cp P t=some n)(j:aP P x=true)
 (h1:aop h base e (.load n x)=some (.val v h')):Ran P μ h w base (((Instr.loadAt t (a.eval x)).run P w).andThen λv w=> .ok (.value v) w) v h':=by
 obtain⟨q,l,d⟩:=aD h1;obtain⟨s,f,d⟩:=aD d;cases d;obtain⟨r,o,p,m,g,b⟩:=Fp (P:=P) (w:=w) c (dF c i j l) f;refine .pure c ?_ g;simp only[Instr.loadAt,m,Instr.sureAddr,gR,oC,ed,xE k,b]
variable{y:Operand}
def SH(d:R P μ h w)(f:dH μ e a.tmps){c:Operand}(j:aP P c=true)(k:aP P x=true)(l:aP P y=true)
 (h1:aop h base e (.pick c x y)=some (.val v h')):Ran P μ h w base (((asBool (a.eval c)).run P w).andThen λb w=> .ok (.value (if b then a.eval x else a.eval y)) w) v h':=by
 simp only[aop]at h1;split at h1
 ·rename_i hb;obtain⟨m,i,g⟩:=aD h1;cases g;have:=dF d f j hb;generalize a.eval c=cv at*;cases this;exact .pure d (by simp[asBool]) (dF d f k i)
 ·rename_i hb;obtain⟨m,i,g⟩:=aD h1;cases g;have:=dF d f j hb;generalize a.eval c=cv at*;cases this;exact .pure d (by simp[asBool]) (dF d f l i)
 ·cases h1
def Hr(b:R P μ h w)(g:dH μ e a.tmps){i:Nat}(j:aP P x=true)
 (h1:aop h base e (.extract x i)=some (.val v h')):Ran P μ h w base (((Instr.extract (a.eval x) i).run P w).andThen λv w=> .ok (.value v) w) v h':=by
 simp only[aop]at h1;split at h1
 ·rename_i vs hb;obtain⟨p,n,l⟩:=aD h1;cases l;obtain⟨c,k,m⟩:=(dF b g j hb).B9;obtain⟨o,d,f⟩:=m.get n;refine .pure b ?_ f;have:c[i]? =some o:=by simpa using d
  simp[Instr.extract,k,this]
 ·cases h1
def OG(c:R P μ h w)(g:dH μ e a.tmps){s:TypeId}{fs:Array Field}{i:Nat}{f:Field}(l:P.underlying s=some (.struct fs))
 (m:fs[i]? =some f)(p:eM P f.type=some (n+1))(j:aP P x=true)(h1:aop h base e (.dN f.offset x)=some (.val v h')):
 Ran P μ h w base (((Instr.fieldAt s (a.eval x) i).run P w).andThen λv w=> .ok (.value v) w) v h':=by
 simp only[aop]at h1;split at h1
 ·rename_i b o hb;cases h1;have:=dF c g j hb;generalize a.eval x=xv at*;cases this with
  |ptr hk=>
   rename_i k;refine .pure c (v':= .pointer (some ⟨k.r,k.d+(o+f.offset),none⟩)) ?_ (.ptr hk);simp[Instr.fieldAt,run_underlying l,m,Instr.sureAddr,fieldPlace,run_sizeOf p,gI,Hd]
 ·cases h1
variable{size:Nat}{i:Operand}
def Ky(c:R P μ h w)(f:dH μ e a.tmps)(p:P.underlying t=some (.array n el))(q:eM P el=some size)
 (m:aP P x=true)(hi:aP P i=true)(h1:aop h base e (.dx n size x i)=some (.val v h')):
 Ran P μ h w base (((Instr.indexAt t (a.eval x) (a.eval i)).run P w).andThen λv w=> .ok (.value v) w) v h':=by
 simp only[aop]at h1;split at h1
 ·rename_i b o kk j hb hj;simp only[blt_eq,cond_eq_ite]at h1;split at h1
  ·rename_i hlt;simp only[decide_eq_true_eq]at hlt;cases h1;have g:=dF c f m hb;have l:=dF c f hi hj;generalize a.eval x=xv at*;generalize a.eval i=iv at*;cases g with
   |ptr hk=>
    rename_i k;cases l;refine .pure c (v':= .pointer (some ⟨k.r,k.d+(o+j*size),none⟩)) ?_ (.ptr hk);simp[Instr.indexAt,asIntOf,run_underlying p,Instr.sureAddr,run_sizeOf q,gI,Hd,Nat.not_le.2 hlt]
  ·cases h1
 ·cases h1
def Kz(c:R P μ h w)(g:dH μ e a.tmps)(l:P.underlying t=some (.slice el))(m:eM P el=some size)
 (q:aP P x=true)(hi:aP P i=true)(h1:aop h base e (.aC size x i)=some (.val v h')):
 Ran P μ h w base (((Instr.indexAt t (a.eval x) (a.eval i)).run P w).andThen λv w=> .ok (.value v) w) v h':=by
 simp only[aop]at h1;split at h1
 ·rename_i b o n cap kk j hb hj;simp only[blt_eq,cond_eq_ite]at h1;split at h1
  ·rename_i hlt;simp only[decide_eq_true_eq]at hlt;cases h1;have p:=dF c g q hb;have f:=dF c g hi hj;generalize a.eval x=xv at*;generalize a.eval i=iv at*;cases p with
   |slice hk hq1 hq2=>
    rename_i k;cases f;refine .pure c (v':= .pointer (some ⟨k.r,k.d+(o+j*size),none⟩)) ?_ (.ptr hk);simp[Instr.indexAt,asIntOf,run_underlying l,run_sizeOf m,gI,Hd,Nat.not_le.2 hlt]
   |fR hk hq1 hq2 hq3=>
    rename_i k;cases f;refine .pure c (v':= .pointer (some ⟨k.r,k.d+(o+j*size),none⟩)) ?_ (.ptr hk);simp[Instr.indexAt,asIntOf,run_underlying l,run_sizeOf m,gI,Hd,Nat.not_le.2 hlt]
  ·cases h1
 ·cases h1
def wQ(k:IntKind)(n:Int)(h1:k.min<=n)(a:n<=k.max):k.wrap n=n:=by
 cases k<;>simp[IntKind.min,IntKind.max,IntKind.wrap,IntKind.bits,IntKind.signed]at* <;>omega
def vO(k:IntKind)(n:Int):fU k n=k.wrap n:=by
 cases n with
 |ofNat m=>
  cases k<;>simp only[fU,blt_eq,cond_eq_ite]<;>split<;>first
   |(rename_i hb
     simp only[decide_eq_true_eq]at hb;refine(wQ _ _ ?_ ?_).symm<;>simp[IntKind.min,IntKind.max,IntKind.bits,IntKind.signed]<;>omega)
   |rfl
 |negSucc m=>
  cases k<;>simp only[fU,blt_eq,cond_eq_ite]<;>split<;>first
   |(rename_i hb
     simp only[decide_eq_true_eq]at hb;first
     |omega
     |(refine(wQ _ _ ?_ ?_).symm<;>simp[IntKind.min,IntKind.max,IntKind.bits,IntKind.signed]<;>omega))
   |rfl
def wrap_u64(n:Nat)(a:n<18446744073709551616):IntKind.u64.wrap (n:Int)=n:=wQ _ _ (by simp[IntKind.min,IntKind.signed]) (by simp[IntKind.max,IntKind.signed,IntKind.bits];omega)
def sH(a:Nat)(b:a<18446744073709551616):(BitVec.ofInt IntKind.u64.bits (Int.ofNat a)).toNat=a:=by
 simp[IntKind.bits];omega
def GF(x y:BitVec 64):(x&&& ~~~y).toNat=Nat.xor x.toNat (Nat.land x.toNat y.toNat):=by
 have:x&&& ~~~y=x ^^^ (x&&&y):=by ext i hi;simp;cases x[i]<;>cases y[i]<;>rfl
 rw[this,BitVec.toNat_xor,BitVec.toNat_and];rfl
variable{op:BinOp}
def GJ{k:IntKind}{x y:Int}(d:qk op k x y=some v)(w:World):(Op.intBits op k x y).run P w= .ok v w:=by
 have f:∀v,(match op with
  | .and=>some (.int k (k.wrap (BitVec.ofInt k.bits x&&&BitVec.ofInt k.bits y).toNat))
  | .or=>some (.int k (k.wrap (BitVec.ofInt k.bits x|||BitVec.ofInt k.bits y).toNat))
  | .xor=>some (.int k (k.wrap (BitVec.ofInt k.bits x ^^^ BitVec.ofInt k.bits y).toNat))
  | .andNot=>some (.int k (k.wrap (BitVec.ofInt k.bits x&&& ~~~BitVec.ofInt k.bits y).toNat))
  |_=>(none:Option Value))=some v->(Op.intBits op k x y).run P w= .ok v w:=by
  intro v d;cases op<;>simp only[Option.some.injEq,reduceCtorEq]at d<;>subst d<;>simp[Op.intBits]
 unfold qk at d;simp only[]at d;split at d
 ·rename_i a b;simp only[blt_eq,cond_eq_ite]at d;split at d
  ·rename_i hb;simp only[gk,decide_eq_true_eq]at hb;have i:=sH a hb.1;have j:=sH b hb.2;have c:a<2 ^ 64:=hb.1;have e:b<2 ^ 64:=hb.2;cases op<;>simp only[Option.some.injEq,reduceCtorEq]at d<;>subst d
   ·have g:(BitVec.ofInt IntKind.u64.bits (Int.ofNat a)&&&BitVec.ofInt IntKind.u64.bits (Int.ofNat b)).toNat=Nat.land a b:=by rw[BitVec.toNat_and,i,j];rfl
    simp only[Op.intBits,g,oC];have h:=wrap_u64 (Nat.land a b) (xj Nat.and_le_left hb.1);rw[h];rfl
   ·have g:(BitVec.ofInt IntKind.u64.bits (Int.ofNat a)|||BitVec.ofInt IntKind.u64.bits (Int.ofNat b)).toNat=Nat.lor a b:=by rw[BitVec.toNat_or,i,j];rfl
    simp only[Op.intBits,g,oC];have h:=wrap_u64 (Nat.lor a b) (Nat.or_lt_two_pow c e);rw[h];rfl
   ·have g:(BitVec.ofInt IntKind.u64.bits (Int.ofNat a) ^^^ BitVec.ofInt IntKind.u64.bits (Int.ofNat b)).toNat=Nat.xor a b:=by rw[BitVec.toNat_xor,i,j];rfl
    simp only[Op.intBits,g,oC];have h:=wrap_u64 (Nat.xor a b) (Nat.xor_lt_two_pow c e);rw[h];rfl
   ·have g:(BitVec.ofInt IntKind.u64.bits (Int.ofNat a)&&& ~~~BitVec.ofInt IntKind.u64.bits (Int.ofNat b)).toNat=Nat.xor a (Nat.land a b):=by
     have:=GF (BitVec.ofInt 64 (Int.ofNat a)) (BitVec.ofInt 64 (Int.ofNat b));rw[show(BitVec.ofInt 64 (Int.ofNat a)).toNat=a from i,show(BitVec.ofInt 64 (Int.ofNat b)).toNat=b from j]at this;exact this
    simp only[Op.intBits,g,oC];have h:=wrap_u64 (Nat.xor a (Nat.land a b)) (Nat.xor_lt_two_pow c (xj Nat.and_le_left c));rw[h];rfl
  ·exact f v d
 ·exact f v d
def Mk{k:IntKind}{x y:Int}(h1:op≠ .shl)(b:op≠ .shr)(a:arith op k x y=some v)(w:World):(binOp op t (.int k x) (.int k y)).run P w= .ok v w:=by
 cases op<;>simp only[arith,oO,vO,reduceCtorEq,Option.some.injEq]at a<;>simp only[binOp,ne_eq,not_true_eq_false,if_false]<;>
  first
  |(subst a;simp[Op.intArith];done)
  |(subst a;simp[Op.intCmp];done)
  |exact GJ a w
  |exact absurd rfl h1
  |exact absurd rfl b
  |(split at a
    ·cases a
    ·rename_i hz;cases a;simp[Op.intDiv,hz])
def F8{k f:IntKind}{x y:Int}(c:op= .shl∨op= .shr)(b:qX op k x y=some v)(w:World):
 (binOp op t (.int k x) (.int f y)).run P w= .ok v w:=by
 unfold qX at b;cases y with
 |negSucc n=>cases b
 |ofNat n=>
  have d:¬ (Int.ofNat n<0):=by simp
  rcases c with rfl|rfl
  ·simp only[binOp,Op.shift,if_neg d,oC];simp only[]at b;split at b
   ·rename_i a;cases b;congr 2;have:IntKind.u64.wrap (Int.ofNat a*2 ^ min (Int.ofNat n).toNat IntKind.u64.bits)=Int.ofNat (Nat.mod (Nat.shiftLeft a (Nat.min n 64)) 18446744073709551616):=by
     have e:(Int.ofNat a*2 ^ min (Int.ofNat n).toNat IntKind.u64.bits:Int)=((Nat.shiftLeft a (Nat.min n 64):Nat):Int):=by
      show _=((a<<<(min n 64):Nat):Int);rw[Nat.shiftLeft_eq];simp[IntKind.bits]
     rw[e];simp only[IntKind.wrap,IntKind.bits,IntKind.signed,ab9,Cl,if_false];show((Nat.shiftLeft a (Nat.min n 64):Nat):Int) % 18446744073709551616=((Nat.shiftLeft a (Nat.min n 64) % 18446744073709551616:Nat):Int);rw[Int.natCast_emod];rfl
    rw[this]
   ·cases b;simp
  ·simp only[binOp,Op.shift,if_neg d,oC];simp only[]at b;split at b
   ·rename_i a;cases b;congr 2;have:(Int.ofNat a).fdiv (2 ^ min (Int.ofNat n).toNat IntKind.u64.bits)=Int.ofNat (Nat.shiftRight a (Nat.min n 64)):=by
     rw[Int.fdiv_eq_ediv_of_nonneg _ (by exact Int.pow_nonneg (by decide))];show _=((a>>>(min n 64):Nat):Int);rw[Nat.shiftRight_eq_div_pow];simp[IntKind.bits]
    rw[this]
   ·cases b;simp
def PR{x y:ByteArray}(h1:op≠ .shl)(b:op≠ .shr)(a:Gi op x y=some v)(w:World):(binOp op t (.string x) (.string y)).run P w= .ok v w:=by
 cases op<;>simp only[Gi,reduceCtorEq,Option.some.injEq]at a<;>simp only[binOp]<;>
  first
  |(subst a;simp[Op.stringOp];done)
  |(simp only[blt_eq,cond_eq_ite]at a
    split at a
    ·rename_i hb;simp only[decide_eq_true_eq]at hb;cases a;have:¬ ((x.size+y.size:Nat):Int)>IntKind.i64.max:=by simp[IntKind.max,IntKind.signed,IntKind.bits];omega
     simp only[Op.stringOp,if_neg this,oC]
    ·cases a)
def Oo{x y:Value}(c:af op x y=some v)(w:World):
 (∀μ d,VR μ x d→d=x)/\(∀μ y',VR μ y y'→y'=y)/\(∀μ,VR μ v v)/\(binOp op t x y).run P w= .ok v w/\(∀(xo yo:Operand),(eqGuard op t xo yo x y).run P w= .ok () w):=by
 have f:∀k n μ d,VR μ (.int k n) d→d= .int k n:=λk n μ d h=>by cases h;rfl
 have l:∀n μ d,VR μ (.string n) d→d= .string n:=λn μ d h=>by cases h;rfl
 have vb:∀b μ,VR μ (.bool b) (.bool b):=λb μ=> .bool b;have g:∀k n μ,VR μ (.int k n) (.int k n):=λk n μ=> .int k n;unfold af at c;split at c
 ·rename_i k a yk b;refine⟨f _ _,f _ _,?_,F8 (.inl rfl) c w,by simp[eqGuard]⟩;unfold qX at c;split at c<;>try cases c
  split at c<;>split at c<;>cases c<;>exact g _ _
 ·rename_i k a yk b;refine⟨f _ _,f _ _,?_,F8 (.inr rfl) c w,by simp[eqGuard]⟩;unfold qX at c;split at c<;>try cases c
  split at c<;>split at c<;>cases c<;>exact g _ _
 ·rename_i k a k' b i j;split at c
  ·rename_i hk;subst hk;refine⟨f _ _,f _ _,?_,Mk i j c w,?_⟩
   ·intro μ
    cases op<;>simp only[arith,oO,reduceCtorEq,Option.some.injEq]at c<;>first
     |(subst c;first|exact vb _ _|exact g _ _ _)
     |(split at c<;>cases c;exact g _ _ _)
     |(unfold qk at c
       simp only[]at c;split at c
       ·simp only[cond_eq_ite]at c;split at c<;>cases c<;>exact g _ _ _
       ·cases c;exact g _ _ _)
   ·intro xo yo;cases op<;>simp[eqGuard]
  ·cases c
 ·rename_i a b;have i:op≠ .shl:=λe=>by subst e;cases c
  have j:op≠ .shr:=λe=>by subst e;cases c
  refine⟨l _,l _,?_,PR i j c w,?_⟩
  ·intro μ
   cases op<;>simp only[Gi,reduceCtorEq,Option.some.injEq]at c<;>first
    |(subst c;exact vb _ _)
    |(simp only[cond_eq_ite]at c;split at c<;>cases c;exact .string _)
  ·intro xo yo;cases op<;>simp[eqGuard]
 ·cases c
def OJ(c:R P μ h w)(g:dH μ e a.tmps)(o:aP P x=true)(p:aP P y=true)
 (h1:aop h base e (.bin (.num op) x y)=some (.val v h')):
 Ran P μ h w base (((do eqGuard op t x y (a.eval x) (a.eval y);binOp op t (a.eval x) (a.eval y)).run P w).andThen λv w=> .ok (.value v) w) v h':=by
 obtain⟨r,d,b⟩:=aD h1;obtain⟨s,f,b⟩:=aD b;obtain⟨q,n,b⟩:=aD b;cases b;obtain⟨i,j,k,l,m⟩:=Oo (P:=P) (t:=t) n w;rw[i _ _ (dF c g o d),j _ _ (dF c g p f)];refine .pure c ?_ (k μ);simp[l,m]
def sS{xo yo:Operand}{x y:Value}(h1:x≠ .nilIface∨y≠ .nilIface)(a:(∀c,x≠ .agg c)∨∀c,y≠ .agg c)(w:World):
 (eqGuard op t xo yo x y).run P w= .ok () w:=by
 unfold eqGuard
 cases op<;>simp only[LE,P1,Cl,if_false,if_true,oC]<;>
  (split
   ·rcases h1 with h1|h1<;>exact absurd rfl h1
   ·rcases a with a|a<;>exact absurd rfl (a _)
   ·rfl)
def zf(t:TypeId)(x y:Value):Op.equal t x y=Op.equalIn (9999+1) t x y:=rfl
def Da{n:Bool}(h:zO op=some n):(n=false/\op= .eql)∨(n=true/\op= .neq):=by
 cases op<;>simp[zO]at h
 ·exact .inl ⟨h,rfl⟩
 ·exact .inr ⟨h,rfl⟩
def VT(d:R P μ h w)(f:dH μ e a.tmps){n:Bool}(m:zO op=some n)(j:P.underlying t=some .bool)(o:aP P x=true)(p:aP P y=true)
 (h1:aop h base e (.bin (.beq n) x y)=some (.val v h')):
 Ran P μ h w base (((do eqGuard op t x y (a.eval x) (a.eval y);binOp op t (a.eval x) (a.eval y)).run P w).andThen λv w=> .ok (.value v) w) v h':=by
 simp only[aop]at h1;split at h1
 ·rename_i b c hb hc;cases h1;have g:=dF d f o hb;have i:=dF d f p hc;generalize a.eval x=xv at*;generalize a.eval y=yv at*;cases g;cases i;refine .pure d ?_ (.bool _);have l:=sS (P:=P) (op:=op) (t:=t) (xo:=x) (yo:=y) (x:= .bool b) (y:= .bool c) (.inl (by simp)) (.inl (by simp)) w;have k:(Op.equal t (.bool b) (.bool c)).run P w= .ok (b==c) w:=by
   rw[zf];exact run_equalIn_bool w 9999 t b c j
  rcases Da m with⟨rfl,rfl⟩|⟨rfl,rfl⟩<;>simp[l,binOp,k]
 ·cases h1
variable{v':Value}
def By{k:NK}(a:VR μ v v'):iX k v'=iX k v:=by
 cases a<;>cases k<;>rfl
def uy:NK->TypeDesc->Prop
 | .ptr, .pointer _=>True
 | .sl, .slice _=>True
 | .map, .map _ _=>True
 | .func, .func _ _ _=>True
 | .iface, .interface _=>True
 |_,_=>False
inductive jr:NK->Value->Value->Bool->Prop
 |p1 b:jr .ptr (.pointer none) (.pointer b) b.isNone
 |p2 a:jr .ptr (.pointer (some a)) (.pointer none) false
 |s1 l c b l' c':jr .sl (.slice none l c) (.slice b l' c') b.isNone
 |s2 a l c l' c':jr .sl (.slice (some a) l c) (.slice none l' c') false
 |m1 b:jr .map (.map none) (.map b) b.isNone
 |m2 a:jr .map (.map (some a)) (.map none) false
 |f1:jr .func .nilFunc .nilFunc true
 |f2 f x y:jr .func .nilFunc (.func f x y) false
 |f3 f x y:jr .func (.func f x y) .nilFunc false
 |i1:jr .iface .nilIface .nilIface true
 |i2 t v:jr .iface .nilIface (.iface t v) false
 |i3 t v:jr .iface (.iface t v) .nilIface false
def ux{k:NK}{x y:Value}{b:Bool}(hb:sG k x y=some b):jr k x y b:=by
 cases k<;>cases x<;>simp only[sG,iX,reduceCtorEq]at hb
 case ptr.pointer p=>cases p<;>cases y<;>simp only[iX,reduceCtorEq]at hb<;>rename_i q<;>cases q<;>simp only[iX,Option.some.injEq,reduceCtorEq]at hb<;>subst hb<;>constructor
 case sl.slice p l c=>cases p<;>cases y<;>simp only[iX,reduceCtorEq]at hb<;>rename_i q _ _<;>cases q<;>simp only[iX,Option.some.injEq,reduceCtorEq]at hb<;>subst hb<;>constructor
 case map.map p=>cases p<;>cases y<;>simp only[iX,reduceCtorEq]at hb<;>rename_i q<;>cases q<;>simp only[iX,Option.some.injEq,reduceCtorEq]at hb<;>subst hb<;>constructor
 case func.func=>cases y<;>simp only[iX,Option.some.injEq,reduceCtorEq]at hb<;>subst hb<;>constructor
 case func.nilFunc=>cases y<;>simp only[iX,Option.some.injEq,reduceCtorEq]at hb<;>subst hb<;>constructor
 case iface.iface=>cases y<;>simp only[iX,Option.some.injEq,reduceCtorEq]at hb<;>subst hb<;>constructor
 case iface.nilIface=>cases y<;>simp only[iX,Option.some.injEq,reduceCtorEq]at hb<;>subst hb<;>constructor
variable{d:TypeDesc}
def ET{k:NK}(n:Nat)(a:P.underlying t=some d)(c:uy k d){x y:Value}{b:Bool}(hb:sG k x y=some b)(w:World):(Op.equalIn (n+1) t x y).run P w= .ok b w:=by
 have run:=run_underlying a w;clear a;have e:=ux hb;clear hb;cases e<;>cases d<;>first|exact c.elim|(simp only[Op.equalIn,gR,run,ed,oC])
def zV(j:R P μ h w)(q:dH μ e a.tmps){k:NK}{n:Bool}(C:zO op=some n)(z:P.underlying t=some d)(B:uy k d)
 (l:k= .iface->pN x||pN y)(D:aP P x=true)(E:aP P y=true)(h1:aop h base e (.bin (.nil k n) x y)=some (.val v h')):
 Ran P μ h w base (((do eqGuard op t x y (a.eval x) (a.eval y);binOp op t (a.eval x) (a.eval y)).run P w).andThen λv w=> .ok (.value v) w) v h':=by
 obtain⟨F,o,i⟩:=aD h1;obtain⟨G,p,i⟩:=aD i;split at i
 ·rename_i b hb;cases i;have s:=dF j q D o;have u:=dF j q E p;generalize a.eval x=xv' at*;generalize a.eval y=yv' at*;have f:sG k xv' yv'=some b:=by
   unfold sG at hb⊢;rw[By s,By u];exact hb
  have m:=ET 9999 z B f w;rw[←zf]at m;have A:(eqGuard op t x y xv' yv').run P w= .ok () w:=by
   by_cases hni:k= .iface
   ·have r:=l hni;unfold eqGuard
    cases op<;>simp only[LE,P1,Cl,if_false,if_true,oC]<;>
     (split
      ·have:(match x with| .const _=>true|_=>false)=true∨(match y with| .const _=>true|_=>false)=true:=by
        cases x<;>cases y<;>simp[pN]at r⊢
       cases x<;>cases y<;>simp[pN]at r⊢
      ·subst hni;simp[sG,iX]at f
      ·rfl)
   ·refine sS (.inl λe=> ?_) (.inl λc e=> ?_) w
    ·subst e;cases k<;>simp[sG,iX]at f hni
    ·subst e;cases k<;>simp[sG,iX]at f
  have g:(binOp op t xv' yv').run P w= .ok (.bool (bif n then !b else b)) w:=by
   rcases Da C with⟨rfl,rfl⟩|⟨rfl,rfl⟩
   ·have:binOp .eql t xv' yv'=(do pure (.bool (←Op.equal t xv' yv'))):=by
     cases ux f<;>rfl
    simp[this,m]
   ·have:binOp .neq t xv' yv'=(do pure (.bool (!(←Op.equal t xv' yv')))):=by
     cases ux f<;>rfl
    simp[this,m]
  refine .pure j ?_ (.bool _);simp[A,g]
 ·cases i
def jX:∀{a:List eS} {xs e:List Value} {b:Bool},bU a xs e=some b->xs.length=a.length/\e.length=a.length
 |[],[],[],_,_=>⟨rfl,rfl⟩
 |[],[],_::_,_,h=>by cases h
 |[],_::_,_,_,h=>by cases h
 |_::_,[],_,_,h=>by cases h
 |_::_,_::_,[],_,h=>by cases h
 |l::a,x::xs,y::e,b,h=>by
  simp only[bU]at h;split at h
  ·obtain⟨c,d⟩:=jX h;simp[c,d]
  ·split at h
   ·rename_i q hq;obtain⟨c,d⟩:=jX hq;simp[c,d]
   ·cases h
  ·cases h
def jW:∀{l m:List eS} {xs d:List Value} {b:Bool},bU (l++m) xs d=some b→
 ∃c a,bU l (xs.take l.length) (d.take l.length)=some c/\bU m (xs.drop l.length) (d.drop l.length)=some a/\b=(c&&a)
 |[],m,xs,d,b,h=>⟨true,b,by simp[bU],by simpa using h,by simp⟩
 |_::_,_,[],_,_,h=>by cases h
 |_::_,_,_::_,[],_,h=>by cases h
 |l::ls,m,x::xs,y::d,b,h=>by
  simp only[SW,bU]at h;split at h
  ·rename_i h1;obtain⟨c,a,e,f,g⟩:=jW h;exact⟨c,a,by simp[bU,h1,e],by simpa using f,g⟩
  ·rename_i h1;split at h
   ·rename_i q hq;obtain⟨c,a,e,f,g⟩:=jW hq;cases h;exact⟨false,a,by simp[bU,h1,e],by simpa using f,rfl⟩
   ·cases h
  ·cases h
inductive uM:eS->Value->Value->Bool->Prop
 |b a c:uM .b (.bool a) (.bool c) (a==c)
 |i k a c:uM (.i k) (.int k a) (.int k c) (a==c)
 |s a c:uM .s (.string a) (.string c) (a.toList==c.toList)
def iE{l:eS}{x y:Value}{c:Bool}(h:jG l x y=some c):uM l x y c:=by
 unfold jG at h;split at h
 ·cases h;constructor
 ·split at h
  ·split at h
   ·cases h;rename_i e1 e2;subst e1;subst e2;constructor
   ·cases h
  ·cases h
 ·cases h;constructor
 ·cases h
def iT:∀{f:List eS} {xs e:List Value} {b:Bool},bU f xs e=some b->(∀μ a,LR μ xs a→a=xs)/\(∀μ ys',LR μ e ys'→ys'=e)
 |[],[],[],_,_=>⟨λ_ _ h=>LR.yb h,λ_ _ h=>LR.yb h⟩
 |[],[],_::_,_,h=>by cases h
 |[],_::_,_,_,h=>by cases h
 |_::_,[],_,_,h=>by cases h
 |_::_,_::_,[],_,h=>by cases h
 |l::f,x::xs,y::e,b,h=>by
  have:∃c q,jG l x y=some c/\bU f xs e=some q:=by
   simp only[bU]at h;split at h
   ·rename_i d;exact⟨_,_,d,h⟩
   ·rename_i d;split at h
    ·rename_i q hq;exact⟨_,_,d,hq⟩
    ·cases h
   ·cases h
  obtain⟨c,q,d,i⟩:=this;have g:=iT i;cases iE d<;>exact⟨λμ a h=>by cases h with|cons h3 h4=>cases h3;rw[g.1 _ _ h4],λμ a h=>by cases h with|cons h3 h4=>cases h3;rw[g.2 _ _ h4]⟩
def EqT(P:Program)(n:Nat)(t:TypeId)(ls:List eS):Prop:=
 (((isAgg t).run P=λw=> .ok true w)/\∀(w:World) (xs ys:Array Value) (b:Bool),bU ls xs.toList ys.toList=some b->(Op.equalIn n t (.agg xs) (.agg ys)).run P w= .ok b w)∨
 (((isAgg t).run P=λw=> .ok false w)/\∃l,ls=[l]/\∀(w:World) (x y:Value) (b:Bool),jG l x y=some b->(Op.equalIn n t x y).run P w= .ok b w)
variable{α:Type}{off:Nat}
def take_one{c:List α}(h:off<c.length):(c.drop off).take 1=[c[off]]:=by
 rw[Ix h,Sp,ST]
variable{xs:Array Value}
def F6{a:List eS}{d:Array Value}{b:Bool}(p:eM P t=some a.length)(e:EqT P n t a)
 (hb:bU a ((xs.toList.drop off).take a.length) ((d.toList.drop off).take a.length)=some b)(w:World):
 ∃x y,(part t xs off).run P w= .ok x w/\(part t d off).run P w= .ok y w/\(Op.equalIn n t x y).run P w= .ok b w:=by
 have g:∀(c:Array Value),(c.extract off (off+a.length)).toList=(c.toList.drop off).take a.length:=by intro c;simp
 rcases e with⟨hag,e⟩|⟨hag,l,rfl,e⟩
 ·refine⟨_,_,?_,?_,e w (xs.extract off (off+a.length)) (d.extract off (off+a.length)) b (by rw[g,g];exact hb)⟩<;>
   simp[part,hag,run_sizeOf p]
 ·have i:=jX hb;have j:off<xs.toList.length:=by have:=i.1;simp at this;simp;omega
  have k:off<d.toList.length:=by have:=i.2;simp at this;simp;omega
  rw[show [l].length=1 from rfl,take_one j,take_one k]at hb;simp only[bU]at hb;have f:jG l xs.toList[off] d.toList[off]=some b:=by
   split at hb
   ·rename_i h;cases hb;exact h
   ·rename_i h;cases hb;exact h
   ·cases hb
  have m:off<xs.size:=by simpa using j
  have o:off<d.size:=by simpa using k
  exact⟨xs.toList[off],d.toList[off],by simp[part,hag,m],by simp[part,hag,o],e w _ _ b f⟩
def ze{n:Nat}{t:TypeId}{l:List eS}(e:eM P t=some l.length)(d:EqT P n t l)(w:World)(xs a:Array Value):∀(k i:Nat) (b:Bool),
 bU (eR k l) (xs.toList.drop (i*l.length)) (a.toList.drop (i*l.length))=some b->(Op.eqItems n t l.length xs a (List.range' i k)).run P w= .ok b w
 |0,i,b,h=>by
  simp only[eR]at h;have hb:b=true:=by
   revert h;cases xs.toList.drop (i*l.length)<;>cases a.toList.drop (i*l.length)<;>simp[bU]
  subst hb;simp[Op.eqItems]
 |k+1,i,b,h=>by
  simp only[eR,dS]at h;obtain⟨f,g,j,c,rfl⟩:=jW h;obtain⟨x,y,o,p,q⟩:=F6 e d j w;rw[Co,Co,show i*l.length+l.length=(i+1)*l.length by rw[Bo,ab5]]at c;have m:=ze e d w xs a k (i+1) g c;simp only[List.range'_succ,Op.eqItems,gR,o,p,q,ed];cases f
  ·simp
  ·simpa using m
def wZ{d n:Nat}(k:∀t a,ew P d t=some a->EqT P n t a)(w:World)(xs c:Array Value):∀(fs:List Field) (off:Nat) (a:List eS) (b:Bool),
 goL P (ew P d) off fs=some a->bU a (xs.toList.drop off) (c.toList.drop off)=some b->(Op.eqFields n xs c fs).run P w= .ok b w
 |[],off,a,b,hl,h=>by
  simp only[goL]at hl;cases hl;have hb:b=true:=by
   revert h;cases xs.toList.drop off<;>cases c.toList.drop off<;>simp[bU]
  subst hb;simp[Op.eqFields]
 |f::fs,off,a,b,hl,h=>by
  simp only[goL]at hl;split at hl
  ·cases hl
  ·rename_i hne;have q:f.name≠ "_" :=fun e=>hne (.inl e)
   have r:f.offset=off:=Classical.byContradiction λe=>hne (.inr e);split at hl
   ·rename_i l s h1 h2;split at hl
    ·rename_i hls;split at hl
     ·rename_i m hm;cases hl;rw[dS]at h;obtain⟨o,p,i,j,rfl⟩:=jW h;rw[←r]at i;obtain⟨x,y,u,v,z⟩:=F6 (by rw[h2,hls]) (k _ _ h1) i w;rw[Co,Co,hls]at j;have g:=wZ k w xs c fs (off+s) m p hm j;simp only[Op.eqFields,q,ne_eq,not_false_eq_true,if_true,gR,u,v,z,ed];cases o
      ·simp
      ·simpa using g
     ·cases hl
    ·cases hl
   ·cases hl
def qx:∀(d:Nat) (t:TypeId) (e:List eS),ew P d t=some e->∀n,EqT P (d+n) t e
 |0,_,_,h,_=>by simp[ew]at h
 |d+1,t,e,h,n=>by
  have hdn:d+1+n=(d+n)+1:=ω
  rw[hdn];unfold ew at h;have f:∀p b,P.underlying t=some p->(match p with| .struct _| .array _ _=>true|_=>false)=b->(isAgg t).run P=λw=> .ok b w:=by
   intro p b a c;funext w;simp only[isAgg,gR,run_underlying a,ed];cases p<;>cases c<;>rfl
  split at h
  ·rename_i a;cases h;refine .inr ⟨f _ _ a rfl, .b,rfl,λw x y b c=> ?_⟩;cases iE c;simp[Op.equalIn,run_underlying a]
  ·rename_i k a;cases h;refine .inr ⟨f _ _ a rfl, .i k,rfl,λw x y b c=> ?_⟩;cases iE c;simp[Op.equalIn,run_underlying a]
  ·rename_i a;cases h;refine .inr ⟨f _ _ a rfl, .s,rfl,λw x y b c=> ?_⟩;cases iE c;simp[Op.equalIn,run_underlying a,beq_toListBytes]
  ·rename_i k el a;split at h
   ·rename_i l s h1 h2;split at h
    ·rename_i hls;cases h;refine .inl ⟨f _ _ a rfl,λw m o b c=> ?_⟩;have g:=h2;simp only[eM,BT]at g;obtain⟨i,q,u⟩:=g;rw[run_equalIn_array w (d+n) m o a q];have r:P.cellsOf el=l.length:=by simp[Program.cellsOf,q,u,hls]
     rw[r,List.range_eq_range'];exact ze (by rw[h2,hls]) (qx d el l h1 n) w m o k 0 b (by simpa using c)
    ·cases h
   ·cases h
  ·rename_i fs a;split at h
   ·cases h
   ·rename_i hst;refine .inl ⟨f _ _ a rfl,λw m o b c=> ?_⟩;have j:P.fieldsOf t=fs:=by simp[Program.fieldsOf,a]
    rw[run_equalIn_struct w (d+n) t m o (by rw[j];exact a) (by simpa using hst),j];exact wZ (λt e h=>qx d t e h n) w m o fs.toList 0 e b h (by simpa using c)
  ·cases h
def vz(p:R P μ h w)(i:dH μ e a.tmps){n:Bool}{l:List eS}(I:zO op=some n)(H:ew P 100 t=some l)
 (B:P.eqGuardType P.depth t=false)(J:aP P x=true)(K:aP P y=true)(h1:aop h base e (.bin (.agg n l) x y)=some (.val v h'))
 (q:∃fs,P.underlying t=some (.struct fs)∨∃k el,P.underlying t=some (.array k el)):
 Ran P μ h w base (((do eqGuard op t x y (a.eval x) (a.eval y);binOp op t (a.eval x) (a.eval y)).run P w).andThen λv w=> .ok (.value v) w) v h':=by
 obtain⟨L,s,f⟩:=aD h1;obtain⟨M,z,f⟩:=aD f;have A:∃m o b,L= .agg m/\M= .agg o/\bU l m.toList o.toList=some b/\v= .bool (bif n then !b else b)/\h'=h:=by
  split at f
  ·rename_i q1 q2;split at f
   ·rename_i b j;cases f;exact⟨_,_,b,rfl,rfl,j,rfl,rfl⟩
   ·cases f
  ·cases f
 obtain⟨m,o,b,rfl,rfl,j,rfl,rfl⟩:=A;clear f;obtain⟨c,F,r⟩:=(dF p i J s).uP;obtain⟨d,G,u⟩:=(dF p i K z).uP;have g:=iT j;have D:c=m:=fm (g.1 _ _ r);have E:d=o:=fm (g.2 _ _ u);subst D;subst E;rw[F,G];have C:(Op.equalIn 10000 t (.agg c) (.agg d)).run P w= .ok b w:=by
  have:=qx 100 t l H 9900;rcases this with⟨_,i⟩|⟨hag',_⟩
  ·exact i w c d b j
  ·have:=congrFun hag' w;rcases q with⟨fs,hd|⟨k,el,hd⟩⟩<;>simp[isAgg,run_underlying hd]at this
 refine .pure p (v':= .bool (bif n then !b else b)) ?_ (.bool _);rcases Da I with⟨rfl,rfl⟩|⟨rfl,rfl⟩
 ·simp[run_eqGuard_agg w .eql t x y c d B,run_eql_struct w t c d,C]
 ·simp[run_eqGuard_agg w .neq t x y c d B,run_neq_struct w t c d,C]
def Za(c:R P μ h w)(m:dH μ e a.tmps){op:UnOp}(o:aP P x=true)(h1:aop h base e (.un op x)=some (.val v h')):
 Ran P μ h w base (((Op.unary op (a.eval x)).run P w).andThen λv w=> .ok (.value v) w) v h':=by
 obtain⟨q,f,d⟩:=aD h1;obtain⟨p,b,d⟩:=aD d;cases d;have g:=dF c m o f;generalize a.eval x=xv' at*;unfold vH at b;split at b
 ·cases b;cases g;refine .pure c ?_ (.int _ _);simp[Op.unary,Op.intArith,vO]
 ·simp only[blt_eq,cond_eq_ite]at b;split at b
  ·rename_i n hb;simp only[decide_eq_true_eq]at hb;cases b;cases g;refine .pure c (v':= .int .u64 (.ofNat (18446744073709551615-n))) ?_ (.int _ _);have j:(BitVec.ofInt IntKind.u64.bits IntKind.u64.max ^^^ BitVec.ofInt IntKind.u64.bits (Int.ofNat n)).toNat=18446744073709551615-n:=by
    have i:BitVec.ofInt 64 IntKind.u64.max=BitVec.allOnes 64:=by decide
    show(BitVec.ofInt 64 IntKind.u64.max ^^^ BitVec.ofInt 64 (Int.ofNat n)).toNat=_;rw[i,BitVec.allOnes_xor,BitVec.toNat_not,show(BitVec.ofInt 64 (Int.ofNat n)).toNat=n from sH n hb]
   have k:(Op.intBits .xor .u64 IntKind.u64.max (Int.ofNat n)).run P w= .ok (.int .u64 (IntKind.u64.wrap ((18446744073709551615-n:Nat):Int))) w:=by
    simp only[Op.intBits,j,oC]
   have l:Op.unary .xor (.int .u64 (Int.ofNat n))=Op.intBits .xor .u64 IntKind.u64.max (Int.ofNat n):=rfl;rw[l,k,wrap_u64 _ ω];rfl
  ·cases b
 ·cases b;cases g;refine .pure c ?_ (.bool _);simp[Op.unary]
 ·cases b
def Ht(f:R P μ h w)(g:dH μ e a.tmps)(i:P.underlying t=some d)(b:∀m,d≠ .interface m)(k:aP P x=true)(h1:aop h base e (.jw t x)=some (.val v h')):
 Ran P μ h w base (((Instr.makeInterface t (a.eval x)).run P w).andThen λv w=> .ok (.value v) w) v h':=by
 obtain⟨l,c,j⟩:=aD h1;cases j;refine .pure f (v':= .iface t (a.eval x)) ?_ (.iface (dF f g k c));simp only[Instr.makeInterface,gR,run_underlying i,ed];cases d<;>first|rfl|exact(b _ rfl).elim
def KC(b:R P μ h w)(c:dH μ e a.tmps){f:FuncId}{fs cs:Array Operand}(g:fs.toList.all (aP P)=true)(d:cs.toList.all (aP P)=true)
 (h1:aop h base e (.eG (.func f) fs.toList cs.toList)=some (.val v h')):
 Ran P μ h w base (((Instr.makeFunc (.func f) (fs.map a.eval) (cs.map a.eval)).run P w).andThen λv w=> .ok (.value v) w) v h':=by
 simp only[aop]at h1;split at h1
 ·rename_i fv cv hfv hcv;cases h1;refine .pure b (v':= .func (.func f) (fs.map a.eval) (cs.map a.eval)) (by simp[Instr.makeFunc]) (.M3 (.func f) ?_ ?_)
  ·simpa using we b c g hfv
  ·simpa using we b c d hcv
 ·cases h1
def KE(d:R P μ h w)(f:dH μ e a.tmps){o:Oper}(i:o.op= .nilCheck x)(j:aP P x=true)(h1:aop h base e (.cT x)=some (.val v h')):
 Ran P μ h w base ((execOp a.eval o).run P w) v h':=by
 obtain⟨k,c,b⟩:=aD h1;have g:=dF d f j c;split at b<;>first|(cases b;done)|skip
 rename_i n1 n2 n3 n4;cases b;refine .pure d (v':=a.eval x) ?_ g;simp only[execOp,i];generalize a.eval x=xv' at*;cases g<;>first|rfl|(exact(n1 rfl).elim)|(exact(n2 rfl).elim)|(exact(n3 rfl).elim)|skip
 rename_i hf _ _ _ _;cases hf<;>rfl
def Ty(cs:List Value)(off:Nat):Option Nat->Option Value
 |none=>bN cs off
 |some n=>bif Nat.beq (bS (cm n (bQ off cs))) n then some (.agg (cm n (bQ off cs)).toArray)else none
def KY{n:Option Nat}(h:Cp P t=some n){cs:List Value}{a:Array Value}(e:LR μ cs a.toList)(b:Ty cs off n=some v)(w:World):
 ∃c,(part t a off).run P w= .ok c w/\VR μ v c:=by
 obtain⟨d,f⟩:=BN h w;cases n with
 |none=>
  obtain⟨c,i,j⟩:=e.get b;have:a[off]? =some c:=by simpa using i
  exact⟨c,by simp[part,d,this],j⟩
 |some n=>
  simp only[Ty,cond_eq_ite,bw,aT,cK]at b;split at b
  ·cases b;have g:=(e.drop off).take n;refine⟨.agg (a.extract off (off+n)),by simp[part,d,run_sizeOf (f n rfl)], .LZ ?_⟩;simpa using g
  ·cases b
def SA(o:R P μ h w)(q:dH μ e a.tmps){len:Nat}{n:Option Nat}(u:P.underlying t=some (.array len el))
 (A:eM P el=some size)(z:Cp P el=some n)(C:aP P x=true)(hi:aP P i=true)(h1:aop h base e (.vh len size n x i)=some (.val v h')):
 Ran P μ h w base (((Instr.index t (a.eval x) (a.eval i)).run P w).andThen λv w=> .ok (.value v) w) v h':=by
 have p:∃c k j,ev h e x=some (.agg c)/\ev h e i=some (.int k (.ofNat j))/\j<len/\Ty c.toList (j*size) n=some v/\h'=h:=by
  simp only[aop]at h1;split at h1
  ·rename_i c k j d f;simp only[blt_eq,cond_eq_ite]at h1;split at h1
   ·rename_i b;simp only[decide_eq_true_eq]at b;cases n with
    |none=>obtain⟨E,l,m⟩:=aD h1;cases m;exact⟨c,k,j,d,f,b,l,rfl⟩
    |some n=>
     simp only[]at h1;split at h1
     ·rename_i hb;cases h1;exact⟨c,k,j,d,f,b,by simp[Ty,hb],rfl⟩
     ·cases h1
   ·cases h1
  ·cases h1
 obtain⟨c,k,j,d,f,b,B,rfl⟩:=p;obtain⟨r,s,y⟩:=(dF o q C d).uP;have g:=dF o q hi f;generalize a.eval i=iv at*;cases g;obtain⟨D,l,m⟩:=KY z y B w;refine .pure o ?_ m;simp[Instr.index,run_underlying u,asIntOf,s,run_sizeOf A,l,b]
def SC(c:R P μ h w)(l:dH μ e a.tmps)(p:P.underlying t=some .string)(q:aP P x=true)(hi:aP P i=true)
 (h1:aop h base e (.kj x i)=some (.val v h')):Ran P μ h w base (((Instr.index t (a.eval x) (a.eval i)).run P w).andThen λv w=> .ok (.value v) w) v h':=by
 simp only[aop]at h1;split at h1
 ·rename_i s k j hs hj;split at h1
  ·rename_i b hb;cases h1;have m:=dF c l q hs;have n:=dF c l hi hj;generalize a.eval x=xv at*;generalize a.eval i=iv at*;cases m;cases n;rw[cC]at hb;have g:j<s.data.toList.length:=(List.getElem?_eq_some_iff.1 hb).1;have d:s[j]? =some b:=by
    have o:j<s.size:=by show j<s.data.size;simpa using g
    rw[getElem?_pos s j o];have:=(List.getElem?_eq_some_iff.1 hb).2;rw[←this];rfl
   refine .pure c (v':= .int .u8 b.toNat) ?_ (.int _ _);have f:(if(0:Int)<=Int.ofNat j then s[(Int.ofNat j).toNat]? else none)=some b:=(if_pos (Int.natCast_nonneg j)).trans d;simp only[Instr.index,asIntOf,gR,oC,ed,run_underlying p,f]
  ·cases h1
 ·cases h1
variable{es:List (Value×Value)}{ms:List MapEntry}
def MR.length(a:MR μ es ms):es.length=ms.length:=by
 induction a with
 |nil=>rfl
 |cons _ _ _ ih=>simp[ih]
def j4{o:Obj}(hr:w.heap[r]? =some o)(a:∀c el fz,o≠ .cells c el fz):(getObj r).run P w= .ok o w:=by
 cases o<;>first|(simp only[getObj,Sem.run,hr];done)|exact(a _ _ _ rfl).elim
variable{ts:Array TypeId}{ty:TypeId}
def Hs(b:R P μ h w)(i:dH μ e a.tmps){k:Nat}(j:ts[0]? =some t)(c:xs[0]? =some (a.eval x))
 (d:(k=0/\P.underlying t=some .string)∨(k=1/\∃el,P.underlying t=some (.slice el))∨(k=2/\∃q el,P.underlying t=some (.map q el)))(l:aP P x=true)(h1:aop h base e (.len k x)=some (.val v h')):
 Ran P μ h w base (((Builtin.len_ ts ty xs).run P w).andThen λv w=> .ok (.value v) w) v h':=by
 rcases d with⟨rfl,d⟩|⟨rfl,el,d⟩|⟨rfl,q,el,d⟩<;>simp only[aop]at h1
 ·split at h1
  ·rename_i s hs;cases h1;have g:=dF b i l hs;generalize a.eval x=xv at*;cases g;refine .pure b ?_ (.int _ _);simp[Builtin.len_,j,c,run_underlying d,goInt]
  ·cases h1
 ·split at h1
  ·rename_i s hs;cases h1;have g:=dF b i l hs;generalize a.eval x=xv at*;cases g<;>(refine .pure b ?_ (.int _ _);simp[Builtin.len_,j,c,run_underlying d,goInt])
  ·cases h1
 ·split at h1
  ·rename_i hs;cases h1;have g:=dF b i l hs;generalize a.eval x=xv at*;cases g;refine .pure b ?_ (.int _ _);simp[Builtin.len_,j,c,run_underlying d,goInt]
  ·rename_i r hs;split at h1
   ·rename_i es he;cases h1;have g:=dF b i l hs;generalize a.eval x=xv at*;cases g with
    |map hk=>
     obtain⟨f,m,n,o,_⟩:=b.zL he hk;refine .pure b (v':= .int .i64 (bS es)) ?_ (.int _ _);have p:f.size=bS es:=by rw[cK,o.length];simp
     simp[Builtin.len_,j,c,run_underlying d,goInt,j4 n (by simp),p]
   ·cases h1
  ·cases h1
def UD{mx:Bool}:∀{l:List Value} {x v:Value} {a:List Value} {x':Value},mmA mx x l=some v->VR μ x x'→LR μ l a→l≠[]→
 (∃k n,v= .int k n)/\(a.foldlM (if mx then Builtin.max2 else Builtin.min2) x').run P w= .ok v w
 |[],_,_,_,_,_,_,_,h=>absurd rfl h
 |y::l,x,v,a,x',hm,hx,hl,hne0=>by
  clear hne0;cases hl with
  |cons hy hl=>
   simp only[mmA]at hm;split at hm
   ·rename_i k p k' q;split at hm
    ·rename_i hk;subst hk;cases hx;cases hy;have step:(if mx then Builtin.max2 else Builtin.min2) (.int k p) (.int k q)=Pure.pure (.int k (if mx then(if q>p then q else p)else(if q<p then q else p))):=by
      cases mx<;>rfl
     simp only[List.foldlM_cons,gR,step,oC,ed];cases l with
     |nil=>
      cases hl;simp only[mmA]at hm;cases hm;exact⟨⟨_,_,rfl⟩,by simp⟩
     |cons z l=>exact UD hm (.int _ _) hl (by simp)
    ·cases hm
   ·cases hm
def BI(i:R P μ h w)(j:dH μ e a.tmps){mx:Bool}{args:Array Operand}(m:args.toList.all (aP P)=true)(q:2<=args.size)
 (h1:aop h base e (.ej mx args.toList)=some (.val v h')):
 Ran P μ h w base (((if mx then Builtin.max_ ts ty (args.map a.eval)else Builtin.min_ ts ty (args.map a.eval)).run P w).andThen λv w=> .ok (.value v) w) v h':=by
 simp only[aop]at h1;split at h1
 ·rename_i x l hev;obtain⟨r,p,o⟩:=aD h1;cases o;have g:=we i j m hev;have c:(args.map a.eval).toList=args.toList.map a.eval:=by simp
  have d:(x::l).length=args.size:=by rw[g.length];simp
  cases hq:args.toList.map a.eval with
  |nil=>rw[hq]at g;cases g
  |cons x' l'=>
   rw[hq]at g;cases g with
   |cons gx gl=>
    have f:l≠[]:=by intro e;subst e;simp at d;omega
    obtain⟨⟨k,n,rfl⟩,b⟩:=UD (P:=P) (w:=w) p gx gl f;refine .pure i (v':= .int k n) ?_ (.int _ _);cases mx
    ·simp only[Cl,if_false]at b⊢;simp only[Builtin.min_,c,hq,b,ed]
    ·simp only[if_true]at b⊢;simp only[Builtin.max_,c,hq,b,ed]
 ·cases h1
variable{xt:TypeId}{z:Value}
def Hx(i:R P μ h w)(l:dH μ e a.tmps){ok:Bool}(j:P.underlying t=some d)(c:∀m,d≠ .interface m)(o:jb P t=some z)(k:flat z=true)
 (n:aP P x=true)(h1:aop h base e (.lZ t ok z x)=some (.val v h')):
 Ran P μ h w base (((Instr.typeAssert (a.eval x) xt t ok).run P w).andThen λv w=> .ok (.value v) w) v h':=by
 have p:VR μ z z:=(VR.flat k).1;have f:∀{v v'},VR μ v v'→∀b,VR μ (.tuple #[v, .bool b]) (.tuple #[v', .bool b]):=λr b=> .pg (.cons r (.cons (.bool b) .nil));simp only[aop]at h1;split at h1
 ·rename_i hs;have g:=dF i l n hs;generalize a.eval x=xv at*;cases g;cases ok
  ·cases h1
  ·cases h1;refine .pure i (v':= .tuple #[z, .bool false]) ?_ (f p false);simp only[Instr.typeAssert,gR,run_underlying j,ed];cases d<;>first|exact(c _ rfl).elim|simp[eO o]
 ·rename_i t' q hs;have g:=dF i l n hs;generalize a.eval x=xv at*;cases g with
  |iface gv=>
   rename_i q';split at h1
   ·rename_i ht;cases ok
    ·cases h1;refine .pure i (v':=q') ?_ gv;simp only[Instr.typeAssert,gR,run_underlying j,ed];cases d<;>first|exact(c _ rfl).elim|simp[ht]
    ·cases h1;refine .pure i (v':= .tuple #[q', .bool true]) ?_ (f gv true);simp only[Instr.typeAssert,gR,run_underlying j,ed];cases d<;>first|exact(c _ rfl).elim|simp[ht]
   ·rename_i ht;cases ok
    ·cases h1
    ·cases h1;refine .pure i (v':= .tuple #[z, .bool false]) ?_ (f p false);simp only[Instr.typeAssert,gR,run_underlying j,ed];cases d<;>first|exact(c _ rfl).elim|simp[ht,eO o]
 ·cases h1
def uU(a:VR μ v v'):LR μ (cellsOf v) v'.cells.toList:=by
 cases a with
 |agg h1 h2=>exact .BG h1 h2
 |_=>refine .cons ?_ .nil;constructor<;>assumption
def Jc{a:List Value}(b:LR μ l a):eN a=eN l:=by
 induction b with
 |nil=>rfl
 |cons hv _ ih=>cases hv<;>simp[eN,ih]
def xg(l:List α)(i:Nat)(x:α):(uq l i x).length=l.length:=by simp[mV]
def qz{α:Type}:∀(m:List α) (l:List α) (o:Nat),(dP l o m).length=l.length
 |[],l,o=>by cases l<;>rfl
 |y::m,l,o=>by
  have:dP l o (y::m)=dP (uq l o y) (o+1) m:=by cases l<;>rfl
  rw[this,qz m,xg]
def nO(l:List α)(o:Nat)(y:α)(m:List α):dP l o (y::m)=dP (uq l o y) (o+1) m:=by cases l<;>rfl
def pR{α:Type}:∀(m:List α) (l:List α) (o i:Nat),o+m.length<=l.length->(dP l o m)[i]? =if o<=i/\i<o+m.length then m[i-o]? else l[i]?
 |[],l,o,i,_=>by
  have:dP l o []=l:=by cases l<;>rfl
  rw[this,if_neg (by intro ⟨b,a⟩;simp at a;omega)]
 |y::m,l,o,i,ho=>by
  simp only[tb]at ho;rw[nO,pR m _ _ _ (by rw[xg];omega),mV,If];by_cases b:o+1<=i/\i<o+1+m.length
  ·rw[if_pos b,if_pos (by simp;omega),show i-o=(i-(o+1))+1 by omega];simp
  ·rw[if_neg b];by_cases a:o=i
   ·subst a;rw[if_pos rfl,if_pos ω,if_pos (by simp)];simp
   ·rw[if_neg a,if_neg (by simp;omega)]
def nV(r:Nat):∀(l:List Value) (o i:Nat) (w:World) (c:Array Value) (el:TypeId) (fz:Nat×Nat),w.heap[r]? =some (.cells c el fz)->o+i+l.length<=c.size→
 (∀j,j<c.size→¬ (fz.1≤j∧j<fz.2))→eN l=true→∃f g,(storeCells ⟨r,o,none⟩ l i).run P w= .ok () f∧f.heap.size=w.heap.size∧(∀d,d≠r→f.heap[d]? =w.heap[d]?)∧
   f.heap[r]? =some (.cells g el fz)/\g.size=c.size/\g.toList=dP c.toList (o+i) l/\Same w f
 |[],o,i,w,c,el,fz,hr,_,_,_=>⟨w,c,by simp[storeCells],rfl,λ_ _=>rfl,hr,rfl,by cases c.toList<;>rfl, .refl w⟩
 |v::l,o,i,w,c,el,fz,hr,hn,hf,hone=>by
  simp only[tb]at hn;have hone':eN l=true:=by cases v<;>simp[eN]at hone<;>exact hone
  have a:∃x,w.cell? ⟨r,o+i,none⟩=some x:=⟨c[o+i]' ω,by rw[cell_of hr];simp[show o+i<c.size by omega]⟩;obtain⟨x,a⟩:=a;have k:w.frozen? ⟨r,o+i,none⟩=false:=by
   have:=hf (o+i) ω;simp only[World.frozen?,hr];simpa using this
  have h:(store ⟨r,o+i,none⟩ v).run P w= .ok () (w.setCell ⟨r,o+i,none⟩ v):=by
   cases v<;>simp[eN]at hone<;>simp[store,Sem.run,a,k]
  have u:(w.setCell ⟨r,o+i,none⟩ v).heap[r]? =some (.cells (c.setIfInBounds (o+i) v) el fz):=by
   simp[World.setCell,ab1,hr]
  have y:∀d,d≠r->(w.setCell ⟨r,o+i,none⟩ v).heap[d]? =w.heap[d]? :=by
   intro d e;simp[World.setCell,ab1,Ne.symm e]
  have A:(w.setCell ⟨r,o+i,none⟩ v).heap.size=w.heap.size:=by simp[World.setCell]
  obtain⟨f,g,m,z,n,p,q,s,t⟩:=nV r l o (i+1) (w.setCell ⟨r,o+i,none⟩ v) (c.setIfInBounds (o+i) v) el fz u (by simp;omega) (by simpa using hf) hone';refine⟨f,g,?_,ω,λd e=>(n d e).trans (y d e),p,by simpa using q,?_,Same.trans (b:=w.setCell ⟨r,o+i,none⟩ v) ⟨rfl,rfl,rfl,by first|exact bl _|exact xp _ _⟩ t⟩
  ·simp only[storeCells,gR,gI,h,ed,m]
  ·rw[s,nO,mV];simp[Hd]
def R.sX(z:R P μ h w){k:Blk}(hb:h.get b=some (.cells vs true sz))(q:μ b=some k){a:List Value}(s:LR μ l a)(N:o+l.length<=vs.length)
 (j:eN l=true):∃m,(storeCells ⟨k.r,k.d+o,none⟩ a).run P w= .ok () m∧R P μ (h.wr base b (.cells (dP vs o l) true sz)) m∧St μ h w μ (h.wr base b (.cells (dP vs o l) true sz)) m:=by
 obtain⟨t,c,v,x,B,T,U,I,J⟩:=z.obj b _ hb k q;obtain⟨L,V,A⟩:=J rfl;have M:=s.length;obtain⟨m,u,C,D,E,y,F,G,H⟩:=nV (P:=P) k.r a (k.d+o) 0 w c v x B ω A (by rw[Jc s];exact j);refine⟨m,C,z.write hb rfl rfl q D E (.zU B y ω) ?_ H⟩;intro W f;rw[q]at f;cases f;refine⟨t,u,v,x,y,by rw[qz];omega,ω,λi p=> ?_,λ_=>⟨L,ω,by rw[F];exact A⟩⟩;rw[qz]at p;have K:u[k.d+i]? =(dP c.toList (k.d+o+0) a)[k.d+i]? :=by rw[←G];simp
 have g:k.d+o+0+a.length<=c.toList.length:=by simp;omega
 rw[K,pR a c.toList (k.d+o+0) (k.d+i) g];have n:gv (dP vs o l) i=((if o<=i/\i<o+l.length then l[i-o]? else vs[i]?).getD undef):=by
  simp only[gv,cC];rw[pR l vs o i N]
 rw[n];by_cases hin:o<=i/\i<o+l.length
 ·rw[if_pos ω,if_pos hin,show k.d+i-(k.d+o+0)=i-o by omega];have e:i-o<l.length:=ω
  have:=s.gv (i-o) e;refine⟨gv a (i-o),uh ω,?_⟩;rw[uh e];exact this
 ·rw[if_neg ω,if_neg hin];obtain⟨S,O,Q⟩:=I i p;refine⟨S,by simpa using O,?_⟩;rw[uh p];exact Q
variable{w':World}
def R.FA(r:R P μ h w)(u:w'.heap=w.heap.push (.cells c el fz))(f:∀j,j<c.size->¬ (fz.1<=j/\j<fz.2))
 (t:LR μ l (c.toList.take l.length))(d:l.length<=c.size)(p:Same w w':=by exact⟨rfl,rfl,rfl,by first|exact bl _|exact xp _ _⟩):
 R P (upd μ h.next ⟨w.heap.size,0,c.size,sz⟩) (h.push (.cells l own sz)) w'∧
 St μ h w (upd μ h.next ⟨w.heap.size,0,c.size,sz⟩) (h.push (.cells l own sz)) w':=by
 have o:∀a,μ h.next=some a→False:=λa v=>xc _ (r.dom _ _ v).1
 refine r.alloc (k:=⟨w.heap.size,0,c.size,sz⟩) u rfl ?_ p;intro k n;unfold upd at n;rw[if_pos rfl]at n;cases n;refine⟨rfl,c,el,fz,by rw[u];simp,by simpa using d,bl _,λi g=> ?_,λ_=>⟨rfl,rfl,f⟩⟩;have x:∀b a,μ b=some a→upd μ h.next ⟨w.heap.size,0,c.size,sz⟩ b=some a:=λb a s=>by
  unfold upd;rw[if_neg];exact s;intro e;subst e;exact o _ s
 have:=(t.gv i g).mono x;refine⟨_,?_,this⟩;have m:i<(c.toList.take l.length).length:=by rw[←t.length];exact g
 have q:=uh m;rw[wi g]at q;simpa using q
def R.newRow(b:R P μ h w)(d:LR μ l (c.toList.take l.length))(a:l.length<=c.size):
 R P (upd μ h.next ⟨w.heap.size,0,c.size,sz⟩) (h.push (.cells l own sz)) {w with heap:=w.heap.push (.cells c el)}∧
 St μ h w (upd μ h.next ⟨w.heap.size,0,c.size,sz⟩) (h.push (.cells l own sz)) {w with heap:=w.heap.push (.cells c el)}:=
 b.FA rfl (λj _=>by simp) d a
def R.tH(b:R P μ h w)(a:LR μ l c.toList):
 R P (upd μ h.next ⟨w.heap.size,0,c.size,sz⟩) (h.push (.cells l own sz)) {w with heap:=w.heap.push (.cells c el)}∧
 St μ h w (upd μ h.next ⟨w.heap.size,0,c.size,sz⟩) (h.push (.cells l own sz)) {w with heap:=w.heap.push (.cells c el)}:=by
 have e:l.length=c.size:=by rw[a.length];simp
 exact b.newRow (by rw[e,go (by simp)];exact a) ω
def fM(μ:Mu)(b:Nat)(k:Blk):upd μ b k b=some k:=by simp[upd]
def iJ(el:TypeId)(c:Array Value)(w:World):(newRow el c).run P w= .ok ⟨w.heap.size,0,none⟩ {w with heap:=w.heap.push (.cells c el)}:=by
 simp[newRow,newObj,Sem.run]
def VV(c:R P μ h w)(g:jb P t=some z)(f:dQ (cellsOf z)=true)(h1:aop h base e (.new (cellsOf z))=some (.val v h')):
 Ran P μ h w base (((Instr.alloc t true (.tuple #[])).run P w).andThen λv w=> .ok (.value v) w) v h':=by
 cases h1;have d:LR μ (cellsOf z) z.cells.toList:=by
  have:z.cells.toList=cellsOf z:=by cases z<;>rfl
  rw[this];exact(LR.dQ f).1
 obtain⟨a,b⟩:=c.tH (el:=t) (own:=true) (sz:=1) d;refine⟨_, .pointer (some ⟨w.heap.size,0,none⟩),_, .inl ?_,?_,a,b,AS.push _ _ _⟩
 ·simp only[Instr.alloc,gR,eO g,ed];simp[newVar,iJ]
 ·exact VR.ptr (o:=0) (fM _ _ _)
def VU(c:R P μ h w)(g:dH μ e a.tmps)(j:aP P x=true)(h1:aop h base e (.box x)=some (.val v h')):
 Ran P μ h w base (((Instr.box t (a.eval x)).run P w).andThen λv w=> .ok (.value v) w) v h':=by
 obtain⟨k,b,i⟩:=aD h1;cases i;obtain⟨d,f⟩:=c.tH (el:=t) (own:=true) (sz:=1) (uU (dF c g j b));refine⟨_, .pointer (some ⟨w.heap.size,0,none⟩),_, .inl ?_,?_,d,f,AS.push _ _ _⟩
 ·simp[Instr.box,newVar,iJ]
 ·exact VR.ptr (o:=0) (fM _ _ _)
def OL(d:R P μ h w)(j:dH μ e a.tmps)(s:eM P t=some n)(u:aP P x=true)(z:aP P y=true)
 (h1:aop h base e (.store n x y)=some (.val v h')):
 Ran P μ h w base (((Instr.storeAt t (a.eval x) (a.eval y)).run P w).andThen λ_ w=> .ok .skip w) v h':=by
 obtain⟨F,g,c⟩:=aD h1;obtain⟨G,i,c⟩:=aD c;split at c
 ·rename_i h2 hst;cases c;have q:=dF d j u g;have r:=dF d j z i;generalize a.eval x=xv' at*;generalize a.eval y=yv' at*;unfold uG at hst;split at hst
  ·rename_i b o;cases q with
   |ptr hk=>
    rename_i k;split at hst
    ·rename_i vs sz hb;simp only[cK,beq_eq,ble_eq,cond_eq_ite,gk,decide_eq_true_eq]at hst;split at hst
     ·rename_i hc;obtain⟨⟨m,E⟩,p⟩:=hc;cases hst;have l:=uU r;obtain⟨D,A,B,C⟩:=d.sX (base:=base) hb hk l (o:=o) ω p;refine⟨μ,undef,D, .inr ⟨?_,rfl⟩,(VR.dA rfl).1,B,C,AS.wr _ _ _ _⟩;have f:yv'.cells.size=n:=by rw[←m,l.length];simp
      simp only[Instr.storeAt,Instr.sureAddr,gR,oC,ed,storeVar,run_sizeOf s,f,ne_eq,not_true_eq_false,if_false,A]
     ·cases hst
    ·cases hst
  ·cases hst
 ·cases c
def FF(d:R P μ h w){r:Option Value}(hr:r=none∨∃k n kt el,r=some (.int k n)/\P.underlying t=some (.map kt el))(h1:aop h base e .mkMap=some (.val v h')):
 Ran P μ h w base (((Instr.makeMap t r).run P w).andThen λv w=> .ok (.value v) w) v h':=by
 cases h1;obtain⟨b,c⟩:=d.alloc (w':={w with heap:=w.heap.push (.map #[] 0)}) (o:= .map []) (k:=⟨w.heap.size,0,0,0⟩) rfl rfl (λk a=>by
  rw[fM]at a;cases a;exact⟨#[],0,by simp, .nil,List.nodup_nil,λn f=>by cases f⟩)
 refine⟨_, .map (some w.heap.size),_, .inl ?_,?_,b,c,AS.push _ _ _⟩
 ·rcases hr with rfl|⟨k,n,kt,el,rfl,hd⟩
  ·simp[Instr.makeMap,newObj,Sem.run]
  ·simp only[Instr.makeMap,gR,run_underlying hd,ed];simp[asInt,asIntOf,newObj,Sem.run]
 ·exact VR.map (fM _ _ _)
def LR.dP{x y:List Value}(b:LR μ x y):∀{l m:List Value} (_:LR μ l m) (o:Nat),LR μ (dP l o x) (dP m o y):=by
 induction b with
 |nil=>intro l m a o;cases l<;>cases m<;>exact a
 |cons h1 _ ih=>
  intro l m a o;rw[nO,nO];refine ih ?_ _;rw[mV,mV];exact a.set h1 o
def xb(off:Nat):∀(l:List Value) (k:Nat) (cs:Array Value),((l.zipIdx k).foldl (λcs p=>cs.setIfInBounds (off+p.2) p.1) cs).toList=dP cs.toList (off+k) l
 |[],k,cs=>by cases hcs:cs.toList<;>simp[hcs,A.dP]
 |x::l,k,cs=>by
  rw[List.zipIdx_cons,ab0,xb off l (k+1),nO,mV];simp[Hd]
def xW(m:R P μ h w)(k:dH μ e a.tmps){b:Nat->Option (Nat×Nat)}:∀{ps:List (Nat×Operand)} {f:List (Nat×Nat×Operand)} {z cs:List Value} {z':Array Value},(∀p∈ps,aP P p.2=true)->sN b ps=some f→
 LR μ z z'.toList->jO h e z f=some cs->∃c,Instr.fill b z' (ps.map λp=>(p.1,a.eval p.2))=some c∧LR μ cs c.toList
 |[],f,z,cs,z',_,hq,hz,hf=>by cases hq;cases hf;exact⟨z',rfl,hz⟩
 |(i,x)::ps,f,z,cs,z',hc,hq,hz,hf=>by
  simp only[sN]at hq;split at hq
  ·rename_i o s l g hl;cases hq;simp only[jO]at hf;split at hf
   ·rename_i v hv;simp only[cK,beq_eq,ble_eq,cond_eq_ite,gk,decide_eq_true_eq]at hf;split at hf
    ·rename_i hcd;have gv:=uU (dF m k (hc (i,x) (by simp)) hv);have r:=gv.length;have j:=hz.length;have d:((a.eval x).cells.zipIdx.foldl (λcs (p:Value×Nat)=>cs.setIfInBounds (o+p.2) p.1) z').toList=dP z'.toList o (a.eval x).cells.toList:=by
      have:=xb o (a.eval x).cells.toList 0 z';rw[R0]at this;rw[←this];congr 1;rw[←Array.foldl_toList,Array.toList_zipIdx]
     obtain⟨c,n,q⟩:=xW m k (λp g=>hc p (by simp[g])) hl (z':=(a.eval x).cells.zipIdx.foldl (λcs (p:Value×Nat)=>cs.setIfInBounds (o+p.2) p.1) z') (by rw[d];exact gv.dP hz o) hf;refine⟨c,?_,q⟩;simp only[Array.length_toList]at r j;simp only[xP,Instr.fill,g];rw[if_neg (by simp;omega)];exact n
    ·cases hf
   ·cases hf
  ·cases hq
def mF(n:Nat)(z:List α):(eR n z).length=n*z.length:=by
 induction n with
 |zero=>simp[eR]
 |succ n ih=>simp[eR,dS,ih,Nat.succ_mul,Nat.add_comm]
def Fq{α:Type}(z:List α):∀(n i:Nat),i<n*z.length->(eR n z)[i]? =z[i % z.length]?
 |0,i,hi=>by simp at hi
 |n+1,i,hi=>by
  rw[eR,dS];by_cases h:i<z.length
  ·rw[oB h,Nat.mod_eq_of_lt h]
  ·rw[hX ω,Fq z n _ (by rw[Nat.succ_mul]at hi;omega)];rw[Nat.mod_eq_sub_mod (by omega:i≥z.length)]
def BK(z:Array Value)(n:Nat):((Array.range (n*z.size)).map (λi=>z[i % z.size]!)).toList=eR n z.toList:=by
 apply wy;intro i;by_cases hi:i<n*z.size
 ·rw[Fq z.toList n i (by simpa using hi)];have b:0<z.size:=AC λe=>by rw[e]at hi;simp at hi
  have a:=Nat.mod_lt i b;simp[hi,a,getElem!_pos]
 ·rw[kz (by simp;omega),kz (by rw[mF];simp;omega)]
def wu(ps:Array (Nat×Operand)):(ps.map λ(i,x)=>(i,a.eval x)).toList=ps.toList.map λp=>(p.1,a.eval p.2):=by simp
def Ee(a:dQ (cellsOf z)=true):LR μ (cellsOf z) z.cells.toList:=by
 have:z.cells.toList=cellsOf z:=by cases z<;>rfl
 rw[this];exact(LR.dQ a).1
def tR(a:jb P t=some z):∃i,P.info? t=some i/\i.zero=some z:=by
 simpa[jb,Option.bind_eq_some_iff]using a
variable{s:Nat}
def tM(a:eM P t=some s):∃i,P.info? t=some i/\i.size=s:=by
 simpa[eM,BT]using a
def Aa:∀{fs:List Field},fs.all (λf=>(eM P f.type).isSome)=true→
 ∃places,fs.mapM (λf=>(P.info? f.type).map λi=>(f.offset,i.size))=some places/\∀i:Nat,places[i]? =(fs[i]?).map λ(f:Field)=>(f.offset,(eM P f.type).getD 0)
 |[],_=>⟨[],by simp,λi=>by simp⟩
 |f::fs,hf=>by
  simp only[List.all_cons,gk]at hf;obtain⟨pl,g1,g2⟩:=Aa hf.2;obtain⟨s,b⟩:=Option.isSome_iff_exists.1 hf.1;obtain⟨i,c,a⟩:=tM b;refine⟨(f.offset,i.size)::pl,by simp[List.mapM_cons,c,g1],λj=> ?_⟩;cases j with
  |zero=>simp[b,a]
  |succ j=>simp[g2]
variable{ps:Array (Nat×Operand)}
def FE(l:R P μ h w)(q:dH μ e a.tmps){n:List (Nat×Nat×Operand)}{b:Nat->Option (Nat×Nat)}
 (y:(∃len el s,P.underlying t=some (.array len el)∧eM P el=some s∧b=fun i=>some (i*s,s))∨
   (∃fs:Array Field,P.underlying t=some (.struct fs)/\fs.toList.all (λf=>(eM P f.type).isSome)=true/\b=λi=>(fs[i]?).map λ(f:Field)=>(f.offset,(eM P f.type).getD 0)))
 (d:jb P t=some z)(g:dQ (cellsOf z)=true)(r:∀p∈ps.toList,aP P p.2=true)(A:sN b ps.toList=some n)(h1:aop h base e (.build (cellsOf z) n)=some (.val v h')):
 Ran P μ h w base (((Instr.build t (ps.map λ(i,x)=>(i,a.eval x))).run P w).andThen λv w=> .ok (.value v) w) v h':=by
 simp only[aop]at h1;split at h1
 ·rename_i cs hcs;cases h1;obtain⟨c,k,o⟩:=xW l q r A (Ee g) hcs;refine .pure l ?_ (.LZ (c':=c) (by simpa using o));obtain⟨i,m,d⟩:=tR d;rw[run_build w t _ c,ed];rw[wu];rcases y with⟨len,el,s,hd,hs,rfl⟩|⟨fs,hd,hf,rfl⟩
  ·obtain⟨j,u,rfl⟩:=tM hs;simp only[Program.built,m,hd,d,u];exact k
  ·obtain⟨D,B,C⟩:=Aa hf;simp only[Program.built,m,hd,d,B];rw[←k];congr 1;funext i;simp[C]
 ·cases h1
def Kx(r:R P μ h w)(D:dH μ e a.tmps){y:List (Nat×Nat×Operand)}(F:P.underlying t=some (.slice el))(I:eM P el=some s)
 (J:jb P el=some z)(d:dQ (cellsOf z)=true)(u:n*s<=2 ^ 24)(j:bS (cellsOf z)=s)(c:s≠0)(E:∀p∈ps.toList,aP P p.2=true)(H:sN (λi=>some (i*s,s)) ps.toList=some y)
 (h1:aop h base e (.dy (cellsOf z) n y)=some (.val v h')):
 Ran P μ h w base (((Instr.buildSlice t n (ps.map λ(i,x)=>(i,a.eval x))).run P w).andThen λv w=> .ok (.value v) w) v h':=by
 simp only[aop]at h1;split at h1
 ·rename_i cs hcs;cases h1;have k:z.cells.size=s:=by rw[←j,cK,(Ee (μ:=μ) d).length];simp
  have b:LR μ (eR n (cellsOf z)) ((Array.range (n*s)).map (z.cells[· % z.cells.size]!)).toList:=by
   have:=BK z.cells n;rw[k]at this⊢;rw[this];have:z.cells.toList=cellsOf z:=by cases z<;>rfl
   rw[this];have:∀m,dQ (eR m (cellsOf z))=true:=λm=>by
    induction m with
    |zero=>rfl
    |succ m ih=>
     rw[eR,dS];have f:∀l q:List Value,dQ l=true->dQ q=true->dQ (l++q)=true:=λl q h1 C=>by
      induction l with
      |nil=>exact C
      |cons x l ih'=>
       simp only[dQ,cond_eq_ite]at h1;split at h1
       ·rename_i hx;simp[dQ,hx,ih' h1]
       ·cases h1
     exact f _ _ d ih
   exact(LR.dQ (this n)).1
  have G:n<UNK:=by
   have:=Nat.le_mul_of_pos_right n (AC c);unfold UNK;omega
  obtain⟨A,g,B⟩:=xW r D E H b hcs;obtain⟨K,L⟩:=r.tH (el:=el) (own:=true) (sz:=bS (cellsOf z)) B;refine⟨_, .slice (some ⟨w.heap.size,0,none⟩) n n,_, .inl ?_,?_,K,L,AS.push _ _ _⟩
  ·simp only[Instr.buildSlice,gR,run_underlying F,ed,run_sizeOf I,if_neg (show¬n*s>2 ^ 24 by omega),wu];by_cases h0:n*s=0
   ·rw[if_pos h0];have:n=0:=by
     rcases Nat.mul_eq_zero.1 h0 with h|h
     ·exact h
     ·exact absurd h c
    subst this;simp only[I0,show Array.range 0= #[]from rfl,Array.map_empty]at g;simp only[I0,show Array.range 0= #[]from rfl,Array.map_empty,oC,ed,g,gR,iJ]
   ·rw[if_neg h0];simp only[gR,eO J,ed,oC,g,iJ]
  ·exact VR.slice (o:=0) (fM _ _ _) G (bl _)
 ·cases h1
def sD(b:VR μ v v')(a:rF v=some n):∃k,v'= .int k n:=by
 unfold rF at a;split at a
 ·cases a;cases b;exact⟨_,rfl⟩
 ·cases a
def DL{a:List Value}(h1:dQ l=true)(b:dQ a=true):dQ (l++a)=true:=by
 induction l with
 |nil=>exact b
 |cons x l ih'=>
  simp only[dQ,cond_eq_ite]at h1;split at h1
  ·rename_i hx;simp[dQ,hx,ih' h1]
  ·cases h1
def AB{z:List Value}(a:dQ z=true):∀m,dQ (eR m z)=true
 |0=>rfl
 |m+1=>by rw[eR,dS];exact DL a (AB a m)
def DI(a:dQ (cellsOf z)=true)(n:Nat):LR μ (eR n (cellsOf z)) ((Array.range (n*z.cells.size)).map (z.cells[· % z.cells.size]!)).toList:=by
 rw[BK];have:z.cells.toList=cellsOf z:=by cases z<;>rfl
 rw[this];exact(LR.dQ (AB a n)).1
def JH:z.cells.size=(cellsOf z).length:=by
 have:z.cells.toList=cellsOf z:=by cases z<;>rfl
 rw[←this];simp
def Hu(n:R P μ h w)(D:dH μ e a.tmps){l c:Operand}(G:P.underlying t=some (.slice el))(I:eM P el=some s)
 (y:jb P el=some z)(hb:nE P el=some b)(u:dQ (cellsOf z)=true)(A:bS (cellsOf z)=s)(B:s≠0)(H:aP P l=true)(F:aP P c=true)
 (h1:aop h base e (.mkSlice (cellsOf z) b l c)=some (.val v h')):
 Ran P μ h w base (((Instr.makeSlice t (a.eval l) (a.eval c)).run P w).andThen λv w=> .ok (.value v) w) v h':=by
 simp only[aop]at h1;split at h1
 ·rename_i lv cv hlv hcv;split at h1
  ·rename_i ln cn hln hcn;simp only[ble_eq,blt_eq,cond_eq_ite,gk,decide_eq_true_eq]at h1;split at h1
   ·rename_i hcond;obtain⟨⟨E,N⟩,C⟩:=hcond;cases h1;obtain⟨K,m⟩:=sD (dF n D H hlv) hln;obtain⟨J,k⟩:=sD (dF n D F hcv) hcn;obtain⟨i,r,y⟩:=tR y;have x:i.size=s:=by
     obtain⟨j,f,q⟩:=tM I;rw[r]at f;cases f;exact q
    have p:i.bytes=b:=by
     simp only[nE,BT]at hb;obtain⟨j,f,q⟩:=hb;rw[r]at f;cases f;exact q
    have d:z.cells.size=s:=by rw[JH,←cK];exact A
    rw[m,k,run_make w t el i z G r y K J ln cn ω ω (by rw[p,←Int.natCast_mul];omega) (by unfold UNK at C;omega)];have g:LR μ (eR cn (cellsOf z)) (madeCells z.cells ((cn:Int).toNat*i.size)).toList:=by
     have:=DI (μ:=μ) u cn;rw[d]at this;unfold madeCells;rw[d,x,Int.toNat_natCast];exact this
    obtain⟨L,M⟩:=n.tH (el:=el) (own:=true) (sz:=bS (cellsOf z)) g;exact⟨_, .slice (some ⟨w.heap.size,0,none⟩) ln cn,_, .inl rfl,VR.slice (o:=0) (fM _ _ _) C E,L,M,AS.push _ _ _⟩
   ·cases h1
  ·cases h1
 ·cases h1
def AV(a:Act)(x:Option Operand)(d n:Nat):Prop:=(x=none/\n=d)∨∃y k,x=some y/\a.eval y= .int k n
def GL(c:R P μ h w)(b:dH μ e a.tmps){x:Option Operand}{d:Nat}(f:∀y,x=some y->aP P y=true)(hb:bnd h e d x=some n):AV a x d n:=by
 cases x with
 |none=>cases hb;exact .inl ⟨rfl,rfl⟩
 |some y=>
  simp only[bnd]at hb;split at hb
  ·rename_i v hv;obtain⟨k,g⟩:=sD (dF c b (f y rfl) hv) hb;exact .inr ⟨y,k,rfl,g⟩
  ·cases hb
variable{cap:Nat}{hi lo:Option Operand}
def Ax(f:Bool){len l u m:Nat}{mx:Option Operand}(n:mx.isSome=true->hi.isSome=true)(e:AV a lo 0 l)(h:AV a hi len u)(j:AV a mx cap m)(h1:l<=u)(d:u<=m)(g:m<=cap):
 (Instr.sliceBounds f len cap (lo.map a.eval) (hi.map a.eval) (mx.map a.eval)).run P w= .ok (l,u,m) w:=by
 have b:∀(k:IntKind) (i y:Nat) (c:BoundsCode) (w:World),i<=y->(Instr.sliceBound (.int k i) y c).run P w= .ok i w:=λk i y c w hi=>by
  rw[run_sliceBound w k i y c ω ω,Int.toNat_natCast]
 unfold Instr.sliceBounds;rcases j with⟨rfl,rfl⟩|⟨ym,km,rfl,em⟩
 ·rcases h with⟨rfl,rfl⟩|⟨yu,ku,rfl,eu⟩
  ·rcases e with⟨rfl,rfl⟩|⟨yl,kl,rfl,el⟩
   ·simp
   ·simp[el,b _ _ _ _ _ h1]
  ·rcases e with⟨rfl,rfl⟩|⟨yl,kl,rfl,el⟩
   ·simp[eu,b _ _ _ _ _ d]
   ·simp[eu,el,b _ _ _ _ _ d,b _ _ _ _ _ h1]
 ·rcases h with⟨rfl,rfl⟩|⟨yu,ku,rfl,eu⟩
  ·simp at n
  ·rcases e with⟨rfl,rfl⟩|⟨yl,kl,rfl,el⟩
   ·simp[em,eu,b _ _ _ _ _ d,b _ _ _ _ _ g]
   ·simp[em,eu,el,b _ _ _ _ _ d,b _ _ _ _ _ h1,b _ _ _ _ _ g]
def AE(f:R P μ h w)(I:dH μ e a.tmps){T:Option Addr}{len:Nat}{mx:Option Operand}{U:Value}(Q:VR μ (.slice T len cap) U)(K:∀y,lo=some y->aP P y=true)
 (J:∀y,hi=some y->aP P y=true)(L:∀y,mx=some y->aP P y=true)(h1:hM h e size T len cap lo hi mx=some (v,h')):
 ∃r' cap' l u m μ',U= .slice r' len cap'∧AV a lo 0 l/\AV a hi len u/\AV a mx cap' m/\l<=u/\u<=m/\m<=cap'∧
  VR μ' v (.slice (if m=l then r' else r'.map (·.add (l*size))) (u-l) (m-l))/\R P μ' h' w/\St μ h w μ' h' w/\AS base h h':=by
 have S:=St.refl μ h w;have A:=AS.refl base h;unfold hM at h1;split at h1
 ·rename_i l u hl hu;have n:=GL f I K hl;have p:=GL f I J hu;split at h1
  ·rename_i mm;split at h1
   ·rename_i m hm;simp only[ble_eq,blt_eq,beq_eq,cond_eq_ite,gk,decide_eq_true_eq,ec]at h1
    ·obtain⟨⟨⟨⟨x,j⟩,t⟩,V⟩,h1⟩:=h1;cases h1;have g:∀d,AV a (some mm) d m:=λd=>by
      rcases GL f I L hm with⟨q,_⟩|q
      ·cases q
      ·exact .inr q
     cases Q with
     |kV=>
      refine⟨none,cap,l,u,m,μ,rfl,n,p,g _,x,j,?_,?_,f,S,A⟩
      ·split at t
       ·rename_i hq;rw[hq];unfold UNK at V⊢;omega
       ·exact t
      ·simp;exact .kV _ _
     |nW s=>
      rename_i b o;have O:m=0:=by rw[if_neg (by unfold UNK;omega)]at t;omega
      subst O;obtain rfl:u=0:=ω
      obtain rfl:l=0:=ω
      refine⟨_,0,0,0,0,μ,rfl,n,p,g _,x,j,bl _,?_,f,S,A⟩;simp only[if_true];exact .nW s
     |slice hk q1 q2=>
      rename_i b o k;refine⟨_,cap,l,u,m,μ,rfl,n,p,g _,x,j,?_,?_,f,S,A⟩
      ·rw[if_neg ω]at t;exact t
      ·by_cases hml:m=l
       ·simp only[hml,if_true];exact .slice hk (by unfold UNK;omega) ω
       ·simp only[hml,if_false,ab2,gI,Hd];exact .slice hk ω ω
     |fR hk q1 q2 q3=>
      rename_i b o c k;rw[if_pos rfl]at t;refine⟨_,c,l,u,m,μ,rfl,n,p,g _,x,j,ω,?_,f,S,A⟩;by_cases hml:m=l
      ·simp only[hml,if_true];exact .slice hk (by unfold UNK;omega) ω
      ·simp only[hml,if_false,ab2,gI,Hd];exact .slice hk ω ω
   ·cases h1
  ·simp only[ble_eq,blt_eq,beq_eq,cK,cond_eq_ite,gk,wp,decide_eq_true_eq]at h1;split at h1
   ·rename_i hU;subst hU;split at h1
    ·rename_i b o;split at h1
     ·rename_i vs own sz hb;split at h1
      ·rename_i hc;obtain⟨⟨x,j⟩,t⟩:=hc;subst x;cases Q with
       |slice hk q1 q2=>exact absurd q1 (xc _)
       |fR hk q1 q2 q3=>
        rename_i c k;obtain⟨D,W,E,Y,z1,z2,z3,z4,z5⟩:=f.obj b _ hb k hk;have g:AV a (none:Option Operand) c c:= .inl ⟨rfl,rfl⟩;have ar:u<=c:=by
         rcases t with t|t
         ·omega
         ·rw[←D]at t;exact Nat.le_of_mul_le_mul_right (show u*k.sz<=c*k.sz by omega) q2
        split at h1
        ·rename_i hlt;cases h1;refine⟨_,c,l,u,c,μ,rfl,n,p,g,j,ω,bl _,?_,f,S,A⟩;simp only[if_neg (show¬c=l by omega),ab2,gI,Hd];refine .fR hk ?_ q2 ω;have X:l*k.sz+(c-l)*k.sz=c*k.sz:=by rw[←Nat.add_mul];congr 1;omega
         rw[←D];omega
        ·rename_i hlt;have e2:u=l:=ω
         split at h1
         ·rename_i h0;cases h1;refine⟨_,c,l,u,c,μ,rfl,n,p,g,j,ω,bl _,?_,f,S,A⟩;have:l=0:=h0;subst this;rw[show u-0=0 by omega];by_cases hc0:c=0
          ·simp only[hc0,if_true];exact .fR hk (by rw[hc0]at q1;exact q1) q2 (bl _)
          ·simp only[hc0,if_false,ab2,gI,I0,R0];exact .fR hk q1 q2 (hK _)
         ·cases h1;have N:=(f.dom b k hk).2;have fin:∀z,z+(c-l)*k.sz=k.e∨(c=l/\z≤k.e)->∃μ',VR μ' (.slice (some ⟨h.next,0,none⟩) 0 UNK) (.slice (some ⟨k.r,z,none⟩) 0 (c-l))/\R P μ' (h.push (.cells [] false sz)) w∧
           St μ h w μ' (h.push (.cells [] false sz)) w:=λz M=>by
           have ae:z+(c-l)*k.sz<=k.e:=by
            rcases M with q|⟨q,q'⟩
            ·omega
            ·rw[q];simpa using q'
           obtain⟨Z,g2⟩:=f.Rz (k:=⟨k.r,z,z+(c-l)*k.sz,sz⟩) (sz:=sz) N (λk' B=>by
            rw[fM]at B;cases B;exact⟨rfl,W,E,Y,z1,by simp,by simp only;omega,λi hi=>(Nat.not_lt_zero _ hi).elim,λh=>by cases h⟩)
           refine⟨_,VR.fR (o:=0) (fM _ _ _) (by simp[D]) (by rw[←D];exact q2) (hK _),Z,g2⟩
          have C:u-l=0:=ω
          by_cases hcl2:c=l
          ·obtain⟨μ',F,G,H⟩:=fin (k.d+o) (.inr ⟨hcl2,ω⟩);exact⟨_,c,l,u,c,μ',rfl,n,p,g,j,ω,bl _,by rw[if_pos hcl2,C];exact F,G,H,AS.push _ _ _⟩
          ·obtain⟨μ',F,G,H⟩:=fin (k.d+o+l*k.sz) (.inl (by
            have X:l*k.sz+(c-l)*k.sz=c*k.sz:=by rw[←Nat.add_mul];congr 1;omega
            omega))
           refine⟨_,c,l,u,c,μ',rfl,n,p,g,j,ω,bl _,?_,G,H,AS.push _ _ _⟩;rw[if_neg hcl2,C,ab2,gI,←D];exact F
      ·cases h1
     ·cases h1
    ·cases h1
   ·rename_i hU;split at h1
    ·rename_i hc;obtain⟨x,j⟩:=hc;cases h1;have g:AV a (none:Option Operand) cap cap:= .inl ⟨rfl,rfl⟩;cases Q with
     |kV=>
      refine⟨none,cap,l,u,cap,μ,rfl,n,p,g,x,j,bl _,?_,f,S,A⟩;simp;exact .kV _ _
     |nW s=>
      rename_i b o;obtain rfl:u=0:=ω
      obtain rfl:l=0:=ω
      refine⟨_,0,0,0,0,μ,rfl,n,p,g,x,j,bl _,?_,f,S,A⟩;simp only[if_true];exact .nW s
     |slice hk q1 q2=>
      rename_i b o k;refine⟨_,cap,l,u,cap,μ,rfl,n,p,g,x,j,bl _,?_,f,S,A⟩;by_cases hml:cap=l
      ·simp only[hml,if_true];exact .slice hk (by unfold UNK;omega) ω
      ·simp only[hml,if_false,ab2,gI,Hd];exact .slice hk ω ω
     |fR=>exact absurd rfl hU
    ·cases h1
 ·cases h1
def mh{x:Option (Value×Heap)}(a:fW x=some (.val v h')):x=some (v,h'):=by
 cases x with
 |none=>cases a
 |some p=>cases a;rfl
def Hw(n:R P μ h w)(k:dH μ e a.tmps){mx:Option Operand}(E:P.underlying t=some (.slice el))(F:eM P el=some size)(G:aP P x=true)
 (i:mx.isSome=true->hi.isSome=true)(d:∀y,lo=some y->aP P y=true)(c:∀y,hi=some y->aP P y=true)(f:∀y,mx=some y->aP P y=true)(h1:aop h base e (.slice (.sl size) x lo hi mx)=some (.val v h')):
 Ran P μ h w base (((Instr.sliceAt t (a.eval x) (lo.map a.eval) (hi.map a.eval) (mx.map a.eval)).run P w).andThen λv w=> .ok (.value v) w) v h':=by
 simp only[aop]at h1;split at h1
 ·rename_i a0 len cap hs;have g:=dF n k G hs;obtain⟨H,j,l,u,m,μ',A,o,q,p,r,s,z,gv,C,D,B⟩:=AE (base:=base) n k g d c f (mh h1);refine⟨μ',_,w, .inl ?_,gv,C,D,B⟩;have b:=Ax (P:=P) (w:=w) (len:=len) true i o q p r s z;simp only[Instr.sliceAt,gR,run_underlying E,ed,Instr.slice,A,b,run_sizeOf F,oC]
 ·cases h1
def xu(B:R P μ h w)(A:dH μ e a.tmps){mx:Option Operand}
 (c:P.underlying t=some (.array n el)∨∃p,P.underlying t=some (.pointer p)/\P.underlying p=some (.array n el))(N:n<UNK)(C:eM P el=some size)(O:aP P x=true)
 (q:mx.isSome=true->hi.isSome=true)(i:∀y,lo=some y->aP P y=true)(f:∀y,hi=some y->aP P y=true)(j:∀y,mx=some y->aP P y=true)(h1:aop h base e (.slice (.arr n size) x lo hi mx)=some (.val v h')):
 Ran P μ h w base (((Instr.sliceAt t (a.eval x) (lo.map a.eval) (hi.map a.eval) (mx.map a.eval)).run P w).andThen λv w=> .ok (.value v) w) v h':=by
 simp only[aop]at h1;split at h1
 ·rename_i a0 hs;have g:=dF B A O hs;generalize hxv:a.eval x=xv at*;cases g with
  |ptr hk=>
   rename_i bb o k;have gs:VR μ (.slice (some ⟨bb,o,none⟩) n n) (.slice (some ⟨k.r,k.d+o,none⟩) n n):= .slice hk N (bl _);obtain⟨Q,s,l,u,m,μ',J,D,F,E,G,H,I,gv,L,M,K⟩:=AE (base:=base) B A gs i f j (mh h1);cases J;refine⟨μ',_,w, .inl ?_,gv,L,M,K⟩;have b:=Ax (P:=P) (w:=w) (len:=n) false q D F E G H I;have z:(some (if m=l then(⟨k.r,k.d+o,none⟩:Addr)else Addr.add ⟨k.r,k.d+o,none⟩ (l*size)))=if m=l then some (⟨k.r,k.d+o,none⟩:Addr)else(some (⟨k.r,k.d+o,none⟩:Addr)).map (·.add (l*size)):=by
    split<;>rfl
   rcases c with c|⟨p,c,hp⟩
   ·simp only[Instr.sliceAt,gR,run_underlying c,ed,Instr.sureAddr,b,run_sizeOf C,oC,z]
   ·simp only[Instr.sliceAt,gR,run_underlying c,run_underlying hp,ed,Instr.slice,asAddr,b,run_sizeOf C,oC,z]
 ·cases h1
def Hq(f:R P μ h w)(i:dH μ e a.tmps){s:TypeId}{k:IntKind}(l:P.underlying s=some d)(j:P.underlying t=some (.int k))(m:aP P x=true)
 (h1:aop h base e (.conv (.int k) x)=some (.val v h')):Ran P μ h w base (((convert s t (a.eval x)).run P w).andThen λv w=> .ok (.value v) w) v h':=by
 obtain⟨n,c,b⟩:=aD h1;have b:=mh b;have g:=dF f i m c;unfold y5 at b;split at b
 ·rename_i heq _;cases heq;cases b;generalize a.eval x=xv' at*;cases g;refine .pure f ?_ (.int _ _);simp[convert,run_underlying l,run_underlying j,Conv.intToInt,vO]
 all_goals first|(rename_i heq _;cases heq)|cases b
def Gd(t:R P μ h w){x:Value}(i:VR μ x x')(a:dg h size x=some (l,n)):
 (∃cap,x'= .slice none 0 cap∧l=[]∧n=0)∨(∃r o cap c,x'= .slice (some ⟨r,o,none⟩) n cap∧c.length=n*size∧LR μ l c∧∀j,j<c.length→w.cell? ⟨r,o+j,none⟩=some (gv c j))∨
   (∃s,x'= .string s/\size=1/\n=s.size/\l=s.data.toList.map λb=> .int .u8 b.toNat)∨(∃ad,x'= .slice (some ad) 0 0/\l=[]/\n=0):=by
 unfold dg at a;split at a
 ·simp only[beq_eq,cond_eq_ite,decide_eq_true_eq,ec]at a;obtain⟨e,a⟩:=a;subst e;cases a;cases i;exact .inl ⟨_,rfl,rfl,rfl⟩
 ·rename_i b o len cap;split at a
  ·rename_i vs own sz hb;simp only[cK,bw,aT,beq_eq,cond_eq_ite,decide_eq_true_eq,ec]at a;obtain⟨v,a⟩:=a;cases a;right;left;have g:∀k,μ b=some k->∃c,c.length=n*size/\LR μ ((vs.drop o).take (n*size)) c∧∀j,j<c.length->w.cell? ⟨k.r,k.d+o+j,none⟩=some (gv c j):=λk f=>by
    by_cases h0:n*size=0
    ·exact⟨[],h0.symm,by rw[h0];simp;exact .nil,λj u=>by simp at u⟩
    ·exact OR.row (t.obj b _ hb) f (by simp at v;omega)
   cases i with
   |slice f _ _=>
    obtain⟨c,m,p,q⟩:=g _ f;exact⟨_,_,_,c,rfl,m,p,q⟩
   |fR f _ _ _=>
    obtain⟨c,m,p,q⟩:=g _ f;exact⟨_,_,_,c,rfl,m,p,q⟩
  ·cases a
 ·simp only[beq_eq,cond_eq_ite,decide_eq_true_eq,ec]at a;obtain⟨e,a⟩:=a;subst e;cases a;cases i with
  |nW s=>exact .inr (.inr (.inr ⟨_,rfl,rfl,rfl⟩))
 ·simp only[beq_eq,cond_eq_ite,decide_eq_true_eq,ec]at a;obtain⟨e,a⟩:=a;cases a;cases i;exact .inr (.inr (.inl ⟨_,rfl,e,rfl,rfl⟩))
 ·cases a
def grownCap_ge(w:World)(a b:Nat)(e:TypeId):a<=grownCap w a b e:=by
 have:grownCap w a b e=a+w.tape w.drawn (.appendCap a b e) % (2 ^ 63-a):=rfl;omega
def Xm(P:Program)(em:Bool)(n:Nat)(t:TypeId)(ls:List eS):Prop:=
 (((isAgg t).run P=λw=> .ok true w)/\∀(w:World) (cs:Array Value),cs.toList.length=ls.length->(Instr.checkKey em n t (.agg cs)).run P w= .ok () w)∨
 (((isAgg t).run P=λw=> .ok false w)/\ls.length=1/\∀(w:World) (v:Value),(Instr.checkKey em n t v).run P w= .ok () w)
def Fl{c:Bool}{b:List eS}{cs:Array Value}(d:eM P t=some b.length)(a:Xm P c n t b)(e:off+b.length<=cs.size)(w:World):
 ∃x,(part t cs off).run P w= .ok x w/\(Instr.checkKey c n t x).run P w= .ok () w:=by
 rcases a with⟨hag,a⟩|⟨hag,h1,a⟩
 ·refine⟨.agg (cs.extract off (off+b.length)),?_,a w _ (by simp;omega)⟩;simp[part,hag,run_sizeOf d]
 ·refine⟨cs[off]' ω,?_,a w _⟩;simp[part,hag,show off<cs.size by omega]
def sq(z:Bool):∀(d:Nat) (t:TypeId) (o:List eS),ew P d t=some o->∀n,Xm P z (d+n) t o
 |0,_,_,h,_=>by simp[ew]at h
 |d+1,t,o,h,n=>by
  have hdn:d+1+n=(d+n)+1:=ω
  rw[hdn];unfold ew at h;have q:∀u b,P.underlying t=some u->(match u with| .struct _| .array _ _=>true|_=>false)=b->(isAgg t).run P=λw=> .ok b w:=by
   intro u b g F;funext w;simp only[isAgg,gR,run_underlying g,ed];cases u<;>cases F<;>rfl
  split at h
  ·rename_i g;cases h;exact .inr ⟨q _ _ g rfl,rfl,λw v=>by simp[Instr.checkKey,run_underlying g]⟩
  ·rename_i k g;cases h;exact .inr ⟨q _ _ g rfl,rfl,λw v=>by simp[Instr.checkKey,run_underlying g]⟩
  ·rename_i g;cases h;exact .inr ⟨q _ _ g rfl,rfl,λw v=>by simp[Instr.checkKey,run_underlying g]⟩
  ·rename_i k el g;split at h
   ·rename_i l s h1 h2;split at h
    ·rename_i hls;cases h;refine .inl ⟨q _ _ g rfl,λw p A=> ?_⟩;have E:=sq z d el l h1 n;rw[mF]at A;rw[Instr.checkKey];simp only[gR,run_underlying g,ed];simp only[Std.Legacy.Range.forIn_eq_forIn_range',Std.Legacy.Range.size,Nat.sub_zero,Nat.add_one_sub_one,Nat.div_one];have c:∀j∈List.range' 0 k,j<k:=λj B=>by simp[List.mem_range'_1]at B;omega
     generalize List.range' 0 k=is at c;induction is with
     |nil=>simp
     |cons j is ih=>
      have B:=c j (by simp);have G:j*l.length+l.length<=k*l.length:=by rw[←Nat.succ_mul];exact LT _ B
      obtain⟨x,C,D⟩:=Fl (off:=j*s) (cs:=p) (by rw[h2,hls]) E (by simp at A;rw[←hls];omega) w;simp only[List.forIn_cons,gR,run_sizeOf h2,ed,C,D,oC];exact ih (λy J=>c y (by simp[J]))
    ·cases h
   ·cases h
  ·rename_i fs g;split at h
   ·cases h
   ·refine .inl ⟨q _ _ g rfl,λw p A=> ?_⟩;rw[Instr.checkKey];simp only[gR,run_underlying g,ed];rw[←Array.forIn_toList]
    have c:∀(L:List Field) (a:Nat) (o:List eS),goL P (ew P d) a L=some o->a+o.length<=p.size→
     (forIn L PUnit.unit fun f _=>(if f.name≠ "_" then do Instr.checkKey z (d+n) f.type (←part f.type p f.offset);pure (ForInStep.yield PUnit.unit)else do pure (ForInStep.yield PUnit.unit):Sem (ForInStep PUnit))).run P w= .ok () w:=by
     intro L;induction L with
     |nil=>intro a o _ _;simp
     |cons f L ih=>
      intro a o i I;simp only[goL]at i;split at i
      ·cases i
      ·rename_i hne;have H:f.name≠ "_" :=fun e=>hne (.inl e)
       have r:f.offset=a:=Classical.byContradiction λe=>hne (.inr e);split at i
       ·rename_i l s h1 h2;split at i
        ·rename_i hls;split at i
         ·rename_i m hm;cases i;rw[dS,dk]at I;obtain⟨x,C,D⟩:=Fl (off:=a) (cs:=p) (by rw[h2,hls]) (sq z d f.type l h1 n) ω w;simp only[List.forIn_cons,gR,H,ne_eq,not_false_eq_true,if_true,r,ed,C,D,oC];exact ih (a+s) m hm ω
         ·cases i
        ·cases i
       ·cases i
    have:=c fs.toList 0 o h (by simp at A;omega);simp at this⊢;rw[this];rfl
  ·cases h
variable{k:Value}
def mD{c:Bool}{d:List eS}(a:lD c d k=true):uj k=c/\∃b,bU d (cellsOf k) (cellsOf k)=some b:=by
 unfold lD at a;split at a
 ·rename_i h1 h2;exact⟨by simpa using h1,_,h2⟩
 ·cases a
variable{k':Value}
def vk{c:Bool}{d:List eS}{b:Bool}(a:sj c d k k'=some b):uj k'=c/\bU d (cellsOf k) (cellsOf k')=some b:=by
 unfold sj at a;split at a
 ·rename_i h1;exact⟨by simpa using h1,a⟩
 ·cases a
def vm(a:∀μ xs',LR μ (cellsOf k) xs'→xs'=cellsOf k)(b:VR μ k v'):v'=k:=by
 cases hk':uj k with
 |true=>
  cases k<;>cases hk'
  obtain⟨e,rfl,d⟩:=b.uP;rw[fm (a μ _ d)]
 |false=>
  have c:cellsOf k=[k]:=by cases k<;>first|rfl|cases hk'
  rw[c]at a;have:=a μ [v'] (.cons b .nil);simpa using this
def xe{d:Nat}{b:List eS}(a:ew P d t=some b)(w:World):(isAgg t).run P w= .ok (gK P t) w:=by
 cases d with
 |zero=>simp[ew]at a
 |succ d=>
  unfold ew at a;cases hd:P.underlying t with
  |none=>simp[hd]at a
  |some de=>
   simp only[isAgg,gR,run_underlying hd,ed,gK,hd];cases de<;>simp
variable{f:List eS}
def BO(g:ew P 100 t=some f){b:Bool}(m:lD (gK P t) f k=true)(j:sj (gK P t) f k k'=some b)(w:World):
 (Op.equal t k k').run P w= .ok b w:=by
 obtain⟨d,_⟩:=mD m;obtain⟨e,c⟩:=vk j;show(Op.equalIn 10000 t k k').run P w= .ok b w;have a:=xe (P:=P) g w;rcases qx 100 t f g 9900 with⟨g1,g2⟩|⟨g1,l,rfl,g2⟩
 ·rw[g1]at a;have:gK P t=true:=by injection a with q;exact q.symm
  rw[this]at d e;cases k<;>cases d
  cases k'<;>cases e
  exact g2 w _ _ b c
 ·rw[g1]at a;have:gK P t=false:=by injection a with q;exact q.symm
  rw[this]at d e;have h:cellsOf k=[k]:=by cases k<;>first|rfl|cases d
  have i:cellsOf k'=[k']:=by cases k'<;>first|rfl|cases e
  rw[h,i]at c;refine g2 w k k' b ?_;simp only[bU]at c;split at c
  ·rename_i q;cases c;exact q
  ·rename_i q;cases c;exact q
  ·cases c
def vD{c:List eS}(f:ew P 100 t=some c)(h:lD (gK P t) c k=true)(d:Bool)(w:World):(Instr.checkKey d 10000 t k).run P w= .ok () w:=by
 obtain⟨e,b,g⟩:=mD h;have a:=xe (P:=P) f w;rcases sq d 100 t c f 9900 with⟨g1,g2⟩|⟨_,_,g2⟩
 ·rw[g1]at a;have:gK P t=true:=by injection a with q;exact q.symm
  rw[this]at e;cases k<;>cases e
  exact g2 w _ (jX g).1
 ·exact g2 w k
def Fm{l:eS}{x y:Value}(h:jG l x y=some true):x=y:=by
 generalize hb:true=b at h;cases iE h with
 |b a c=>simp at hb;rw[hb]
 |i k a c=>simp at hb;rw[hb]
 |s a c=>
  have:a.toList=c.toList:=by simpa using hb
  rw[ByteArray.toList_eq,ByteArray.toList_eq]at this;have d:a=c:=by
   obtain⟨⟨x⟩⟩:=a;obtain⟨⟨y⟩⟩:=c;simp at this;rw[this]
  rw[d]
def tW:∀{b:List eS} {xs a:List Value},bU b xs a=some true->xs=a
 |[],[],[],_=>rfl
 |[],_::_,_,h=>by cases h
 |[],[],_::_,h=>by cases h
 |_::_,[],_,h=>by cases h
 |_::_,_::_,[],h=>by cases h
 |l::b,x::xs,y::a,h=>by
  simp only[bU]at h;split at h
  ·rename_i h1;rw[Fm h1,tW h]
  ·split at h<;>cases h
  ·cases h
def zD{a:Bool}{d:List eS}(i:lD a d k=true)(h:sj a d k k'=some true):k=k':=by
 obtain⟨b,_⟩:=mD i;obtain⟨c,g⟩:=vk h;have:=tW g;cases a with
 |true=>
  cases k<;>cases b
  cases k'<;>cases c
  rw[fm this]
 |false=>
  have e:cellsOf k=[k]:=by cases k<;>first|rfl|cases b
  have f:cellsOf k'=[k']:=by cases k'<;>first|rfl|cases c
  rw[e,f]at this;simpa using this
def sameBits_self{d:List eS}:∀{xs:List Value} {b:Bool},bU d xs xs=some b->∀n,(xs.zip xs).all (λ(x,y)=>Instr.sameBits n x y)=true:=by
 induction d with
 |nil=>intro xs b h n;cases xs with
  |nil=>rfl
  |cons=>cases h
 |cons l d ih=>
  intro xs b h n;cases xs with
  |nil=>cases h
  |cons x xs=>
   have:∃c q,jG l x x=some c/\bU d xs xs=some q:=by
    simp only[bU]at h;split at h
    ·rename_i a;exact⟨_,_,a,h⟩
    ·rename_i a;split at h
     ·rename_i q hq;exact⟨_,_,a,hq⟩
     ·cases h
    ·cases h
   obtain⟨c,q,a,e⟩:=this;have g:=ih e n;simp only[List.zip_cons_cons,List.all_cons,gk];refine⟨?_,g⟩;clear g h;cases x<;>cases l<;>simp[jG]at a<;>cases n<;>simp[Instr.sameBits,beq_toListBytes]
def Nw{d:Bool}(e:lD d f k=true):Instr.sameBits 10000 k k=true:=by
 obtain⟨g,b,a⟩:=mD e;cases k with
 |agg c=>
  have:=sameBits_self a 9999;simp only[cellsOf]at this;simp only[Instr.sameBits,beq_self_eq_true,yi];exact this
 |_=>
  have:=sameBits_self a 10000;simp only[cellsOf,List.zip_cons_cons,List.zip_nil_left,List.all_cons,List.all_nil,Fd]at this;exact this
def AA{g:List eS}(a:ew P 100 t=some g)(f:P.underlying t=some d){b:Bool}(r:lD (gK P t) g k=true)(o:sj (gK P t) g k k'=some b):
 Instr.sameNow d k k'=none∨Instr.sameNow d k k'=some b:=by
 obtain⟨h,_⟩:=mD r;obtain⟨i,e⟩:=vk o;have c:∀l,g=[l]->gK P t=false->jG l k k'=some b:=λl a p=>by
  rw[p]at h i;have j:cellsOf k=[k]:=by cases k<;>first|rfl|cases h
  have m:cellsOf k'=[k']:=by cases k'<;>first|rfl|cases i
  rw[j,m,a]at e;simp only[bU]at e;split at e
  ·rename_i q;cases e;exact q
  ·rename_i q;cases e;exact q
  ·cases e
 unfold ew at a;rw[f]at a;cases d with
 |bool=>
  cases a;have:=iE (c _ rfl (by simp[gK,f]));cases this;exact .inr rfl
 |int q=>
  cases a;have:=iE (c _ rfl (by simp[gK,f]));cases this;exact .inr (by simp[Instr.sameNow])
 |string=>
  cases a;have:=iE (c _ rfl (by simp[gK,f]));cases this;exact .inr (by simp[Instr.sameNow,beq_toListBytes])
 |array n el=>left;cases k<;>rfl
 |struct fs=>left;cases k<;>rfl
 |_=>cases a
def FR(μ:Mu)(k:Value)(es:List (Value×Value))(ms:List MapEntry)(i:Nat):Option (Nat×Value)->Option (Nat×Value)->Prop
 |none,r=>r=none
 |some (j,v),r=>∃m,r=some (j,m.val)/\i<=j/\es[j-i]? =some (k,v)/\ms[j-i]? =some m/\VR μ v m.val/\m.key=k
def EW{t:TypeId}{d:TypeDesc}{h:List eS}(f:ew P 100 t=some h)(l:P.underlying t=some d){k:Value}(c:lD (gK P t) h k=true)(w:World):
 ∀{es:List (Value×Value)} {ms:List MapEntry},MR μ es ms->∀(i:Nat) (r:Option (Nat×Value)),rE (gK P t) h k i es=some r→
 ∃g,FR μ k es ms i r g∧(Instr.findNow d k ms i=none∨Instr.findNow d k ms i=some g)/\(Instr.findAsking t k ms i).run P w= .ok g w
 |_,_, .nil,i,r,hf=>by
  cases hf;exact⟨none,rfl, .inr rfl,by simp[Instr.findAsking]⟩
 |_,_, .cons (k:=k0) (v:=v0) (es:=es) (m:=m) (ms:=ms) h1 h2 h3,i,r,hf=>by
  simp only[rE]at hf;have hkey:∀b,sj (gK P t) h k k0=some b->m.key=k0:=λb a=>vm (iT (vk a).2).2 h1;split at hf
  ·rename_i a;cases hf;have e:=hkey _ a;refine⟨some (i,m.val),⟨m,rfl,bl _,?_,by simp,h2,?_⟩,?_,?_⟩
   ·have:=zD c a;simp[this]
   ·rw[e];exact(zD c a).symm
   ·simp only[Instr.findNow,e];rcases AA f l c a with q|q<;>simp[q]
   ·simp only[Instr.findAsking,e,gR,BO f c a,ed,if_true,oC]
  ·rename_i a;have e:=hkey _ a;obtain⟨g,n,o,s⟩:=EW f l c w h3 (i+1) r hf;refine⟨g,?_,?_,?_⟩
   ·cases r with
    |none=>exact n
    |some p=>
     obtain⟨j,v⟩:=p;obtain⟨u,x,A,B,C,y,z⟩:=n;refine⟨u,x,ω,?_,?_,y,z⟩<;>rw[show j-i=(j-(i+1))+1 by omega]<;>simpa
   ·simp only[Instr.findNow,e];rcases AA f l c a with q|q
    ·simp[q]
    ·simp only[q];exact o
   ·simp only[Instr.findAsking,e,gR,BO f c a,ed];simpa using s
  ·cases hf
def ji{e:List eS}(b:ew P 100 t=some e)(j:lD (gK P t) e k=true)(w:World)(l:MR μ es ms){r:Option (Nat×Value)}
 (i:rE (gK P t) e k 0 es=some r):∃c,FR μ k es ms 0 r c∧(Instr.findKey t k ms).run P w= .ok c w:=by
 have a:∃d,P.underlying t=some d:=by
  cases a:P.underlying t with
  |none=>unfold ew at b;rw[a]at b;cases b
  |some d=>exact⟨d,rfl⟩
 obtain⟨d,a⟩:=a;obtain⟨c,f,g,h⟩:=EW b a j w l 0 r i;refine⟨c,f,?_⟩;simp only[Instr.findKey,gR,run_underlying a,ed];rcases g with q|q
 ·rw[q];exact h
 ·rw[q];simp
def vQ.set{l:List MapEntry}{cl:Nat}(b:vQ l cl){j:Nat}{m a:MapEntry}(c:l[j]? =some m)(d:a.born=m.born):vQ (l.set j a) cl:=by
 have e:(l.set j a).map (·.born)=l.map (·.born):=by
  apply wy;intro i;rw[wt,wt,If];by_cases h:j=i
  ·subst h;have:=(List.getElem?_eq_some_iff.1 c).1;rw[if_pos rfl,if_pos this,c];simp[d]
  ·rw[if_neg h]
 unfold vQ;rw[e];exact b
variable{cl:Nat}
def vQ.push{l:List MapEntry}(b:vQ l cl)(m:MapEntry)(a:m.born=cl):vQ (l++[m]) (cl+1):=by
 unfold vQ;rw[A1,xP,List.map_nil,a];refine⟨List.nodup_append.2 ⟨b.1,by simp,λx d y e=> ?_⟩,λn c=> ?_⟩
 ·rw[List.mem_singleton.1 e];exact Nat.ne_of_lt (b.2 x d)
 ·rcases List.mem_append.1 c with q|q
  ·exact EQ (b.2 n q)
  ·rw[List.mem_singleton.1 q];exact eA _
def R.Gu(g:R P μ h w){k:Blk}(hb:h.get r=some (.map es))(d:μ r=some k){es':List (Value×Value)}{ms':Array MapEntry}(n:MR μ es' ms'.toList)(m:vQ ms'.toList cl):
 ∃w',(setObj k.r (.map ms' cl)).run P w= .ok () w'∧R P μ (h.wr base r (.map es')) w'∧St μ h w μ (h.wr base r (.map es')) w':=by
 obtain⟨l,e,f,q,_⟩:=g.obj r _ hb k d;have i:k.r<w.heap.size:=(g.dom r k d).2;refine⟨{w with heap:=w.heap.setIfInBounds k.r (.map ms' cl)},by simp[setObj,Sem.run,f],?_⟩;refine g.write hb rfl rfl d (by simp) (λt j=>by simp[gS,Ne.symm j]) (AU.VQ (λc o p a=>by rw[f]at a;cases a) (λL a=>by rw[f]at a;cases a)) ?_;intro s b;rw[d]at b;cases b;exact⟨ms',cl,by simp[gS,i],n,m⟩
variable{m:MapEntry}
def MR.set(b:MR μ es ms)(a:VR μ k m.key)(c:VR μ v m.val):∀i,MR μ (es.set i (k,v)) (ms.set i m):=by
 induction b with
 |nil=>intro i;simp;exact .nil
 |cons h1 h2 h3 ih=>
  intro i;cases i with
  |zero=>simp;exact .cons a c h3
  |succ i=>simp;exact .cons h1 h2 (ih i)
def MR.push(b:MR μ es ms)(a:VR μ k m.key)(c:VR μ v m.val):MR μ (es++[(k,v)]) (ms++[m]):=by
 induction b with
 |nil=>exact .cons a c .nil
 |cons h1 h2 _ ih=>exact .cons h1 h2 ih
variable{A:TypeId}
def KA(d:R P μ h w)(o:dH μ e a.tmps){I:List eS}{ok:Bool}{m k:Operand}(u:P.underlying t=some (.map A el))(g:ew P 100 A=some I)(H:jb P el=some z)(y:flat z=true)
 (F:aP P m=true)(E:aP P k=true)(h1:aop h base e (.lookup (gK P A) I z ok m k)=some (.val v h')):
 Ran P μ h w base (((Instr.lookup t (a.eval m) (a.eval k) ok).run P w).andThen λv w=> .ok (.value v) w) v h':=by
 have f:∀{x x':Value} (b:Bool),VR μ x x'→VR μ (bif ok then .tuple #[x, .bool b]else x) (if ok=true then .tuple #[x', .bool b]else x'):=λb G=>by
  cases ok
  ·exact G
  ·exact VR.pg (.cons G (.cons (.bool b) .nil))
 have i:VR μ z z:=(VR.flat y).1;simp only[aop]at h1;split at h1
 ·rename_i kv hmv hkv;simp only[cond_eq_ite,ec]at h1;obtain⟨c,h1⟩:=h1;cases h1;have s:=dF d o F hmv;have q:=dF d o E hkv;generalize a.eval m=mv' at*;generalize a.eval k=kv' at*;cases s;have:=vm (iT (mD c).2.choose_spec).1 q;subst this;refine .pure d ?_ (by have:=f (x:=z) (x':=z) false i;rwa [cond_eq_ite]at this);obtain⟨J,l,n⟩:=ji (P:=P) (μ:=μ) g c w (es:=[]) (ms:=[]) .nil (r:=none) rfl;cases l;simp only[Instr.lookup,gR,run_underlying u,ed,oC,vD g c,n,eO H]
 ·rename_i r kv hmv hkv;split at h1
  ·rename_i es he;simp only[cond_eq_ite,ec]at h1;obtain⟨c,h1⟩:=h1;have s:=dF d o F hmv;have q:=dF d o E hkv;generalize a.eval m=mv' at*;generalize a.eval k=kv' at*;cases s with
   |map hkr=>
    have:=vm (iT (mD c).2.choose_spec).1 q;subst this;obtain⟨D,p,l,n,L⟩:=d.zL he hkr;split at h1
    ·rename_i j v0 hf;cases h1;obtain⟨J,B,C⟩:=ji (P:=P) g c w n hf;obtain⟨M,rfl,_,_,_,K,_⟩:=B;refine .pure d ?_ (by have:=f true K;rwa [cond_eq_ite]at this);simp only[Instr.lookup,gR,run_underlying u,j4 l (by simp),ed,oC,vD g c,C]
    ·rename_i hf;cases h1;obtain⟨J,B,C⟩:=ji (P:=P) g c w n hf;cases B;refine .pure d ?_ (by have:=f (x:=z) (x':=z) false i;rwa [cond_eq_ite]at this);simp only[Instr.lookup,gR,run_underlying u,j4 l (by simp),ed,oC,vD g c,C,eO H]
    ·cases h1
  ·cases h1
 ·cases h1
def OH(l:R P μ h w)(y:dH μ e a.tmps){L:List eS}{m k:Operand}(K:P.underlying t=some (.map A el))(p:ew P 100 A=some L)
 (O:aP P m=true)(N:aP P k=true)(Q:aP P x=true)(h1:aop h base e (.ot (gK P A) L m k x)=some (.val v h')):
 Ran P μ h w base (((Instr.mapUpdate t (a.eval m) (a.eval k) (a.eval x)).run P w).andThen λ_ w=> .ok .skip w) v h':=by
 simp only[aop]at h1;split at h1
 ·rename_i r kv xv hmv hkv hxv;split at h1
  ·rename_i es he;simp only[cond_eq_ite,ec]at h1;obtain⟨d,h1⟩:=h1;have M:=dF l y O hmv;have u:=dF l y N hkv;have J:=dF l y Q hxv;generalize a.eval m=mv' at*;generalize a.eval k=kv' at*;generalize a.eval x=xv' at*;cases M with
   |map hkr=>
    rename_i kk;have:=vm (iT (mD d).2.choose_spec).1 u;subst this;obtain⟨b,c,H,o,I⟩:=l.obj r _ he _ hkr;split at h1
    ·rename_i j v0 hf;cases h1;obtain⟨U,B,C⟩:=ji (P:=P) p d w o hf;obtain⟨q,rfl,_,_,s,V,S⟩:=B;rw[Nat.sub_zero]at s;have f:(b.modify j λe=>{e with key:=kv',val:=xv'}).toList=b.toList.set j {q with key:=kv',val:=xv'}:=by
      apply wy;intro i;have g:b[j]? =some q:=by simpa using s
      rw[If];simp only[Array.getElem?_toList,ab1];by_cases hij:j=i
      ·subst hij;obtain⟨z,T⟩:=Array.getElem?_eq_some_iff.1 g;subst T;simp[z]
      ·simp[hij]
     obtain⟨G,D,E,F⟩:=l.Gu (base:=base) he hkr (es':=uq es j (kv',xv)) (ms':=b.modify j λe=>{e with key:=kv',val:=xv'}) (cl:=c) (by rw[f,mV];exact o.set u J j) (by rw[f];exact I.set (m:=q) s rfl);refine⟨μ,undef,G, .inr ⟨?_,rfl⟩,(VR.dA rfl).1,E,F,AS.wr _ _ _ _⟩;have n:((b[j]?).map (·.key)).getD kv'=kv':=by
      have g:b[j]? =some q:=by simpa using s
      simp[g,S]
     simp only[Instr.mapUpdate,gR,run_underlying K,j4 H (by simp),ed,vD p d,C,n,Instr.keyThatStays,Nw d,if_true,oC,D]
    ·rename_i hf;cases h1;obtain⟨U,B,C⟩:=ji (P:=P) p d w o hf;cases B;obtain⟨G,D,E,F⟩:=l.Gu (base:=base) he hkr (es':=eL es [(kv',xv)]) (ms':=b.push {key:=kv',val:=xv',born:=c}) (cl:=c+1) (by rw[Array.toList_push,dS];exact o.push u J) (by rw[Array.toList_push];exact I.push _ rfl);refine⟨μ,undef,G, .inr ⟨?_,rfl⟩,(VR.dA rfl).1,E,F,AS.wr _ _ _ _⟩;simp only[Instr.mapUpdate,gR,run_underlying K,j4 H (by simp),ed,vD p d,C,D]
    ·cases h1
  ·cases h1
 ·cases h1
def LR.string(s:List UInt8):LR μ (s.map λb=>Value.int .u8 (b.toNat:Int)) (s.map λb=>Value.int .u8 (b.toNat:Int)):=by
 induction s with
 |nil=>exact .nil
 |cons y l ih=>exact .cons (.int _ _) ih
def Bj{a:World}(b:a.heap=w.heap)(ad:Addr):a.cell? ad=w.cell? ad:=by simp[World.cell?,b]
def PK(f:R P μ h w){x:Value}(i:VR μ x x')(g:dg h size x=some (l,n)):
 ∃l',LR μ l l'∧l'.length=n*size/\(∀a,(Builtin.lenOf x').run P a= .ok n a)∧
  ∀m,m<=n->∀a:World,a.heap=w.heap->(Builtin.firstCells size m x').run P a= .ok (l'.take (m*size)).toArray a:=by
 rcases Gd f i g with⟨cap,rfl,rfl,rfl⟩|⟨r,o,cap,l',rfl,g1,g2,g3⟩|⟨s,rfl,rfl,rfl,rfl⟩|⟨ad,rfl,rfl,rfl⟩
 ·exact⟨[], .nil,by simp,λa=>by simp[Builtin.lenOf],λm b a _=>by simp[Builtin.firstCells]⟩
 ·refine⟨l',g2,g1,λa=>by simp[Builtin.lenOf],λm b a e=> ?_⟩;have c:m*size<=n*size:=LT _ b;have:=run_loadCells (P:=P) (w:=a) (r:=r) (o:=o) (l:=l'.take (m*size)) (λj d=>by
   rw[Bj e,g3 j (by simp at d;omega)];congr 1;have:=CG l' 0 (m*size) j (by simp at d;omega);simpa using this.symm)
  rw[lp,g1,FX c]at this;simpa[Builtin.firstCells]using this
 ·refine⟨_,LR.string _,by simp,λa=>by simp[Builtin.lenOf],λm b a e=> ?_⟩;simp only[Builtin.firstCells,oC,xr];congr 1;apply fm;simp[ByteArray.data_extract,←List.map_take]
 ·refine⟨[], .nil,by simp,λa=>by simp[Builtin.lenOf],λm b a _=> ?_⟩;obtain rfl:m=0:=ω
  simp[Builtin.firstCells,loadCells,loadCellsFrom]
def ig(elem:TypeId)(size:Nat)(zeros:Bool)(ad:Option Addr)(sLen sCap n:Nat)(x:Value)(appended:Sem (Array Value)):Sem Value:=do
 let need:=sLen+n
 if need<=sCap then
  let new ←appended
  if let some a:=ad then storeCells (a.add (sLen*size)) new.toList
  pure (.slice ad need sCap)
 else
  if(need:Int)>IntKind.i64.max∧(zeros∨(←typeInfo elem).bytes=0)then runtimePanic (.error "growslice: len out of range")
  if Builtin.nextslicecap need sCap*(←typeInfo elem).bytes>2 ^ 48 then(if zeros then runtimePanic (.error "growslice: len out of range")else do
   if !(←Builtin.mayShare size sLen n ad x)then mark .noRoom
   unsupported (.resourceLimit "append: a slice or a string whose bytes no memory bears"))
  let newCap ←choose (.appendCap need sCap elem)
  askRoom (newCap*(←typeInfo elem).bytes)
  let old ←Builtin.firstCells size sLen (.slice ad sLen sCap)
  let new ←appended
  let rest:=Builtin.zeroCells (←zeroValue elem).cells (newCap-need)
  pure (.slice (some (←newRow elem (old++new++rest))) need newCap)
variable{zeros:Bool}{ad:Option Addr}{sCap sLen:Nat}
def tT{elem:TypeId}{a:Nat}{x:Value}{b:Sem (Array Value)}{h g:Array Value}
 (d:nE P elem=some a)(f:jb P elem=some z)(m:sCap<sLen+n)(k:a≠0)(hb:(2*(sLen+n)+768)*a<=281474976710656)
 (e:∀w1:World,w1.heap=w.heap->(Builtin.firstCells size sLen (.slice ad sLen sCap)).run P w1= .ok h w1)
 (c:∀w1:World,w1.heap=w.heap->b.run P w1= .ok g w1):
 (ig elem size zeros ad sLen sCap n x b).run P w=
   .ok (.slice (some ⟨w.heap.size,0,none⟩) (sLen+n) (grownCap w (sLen+n) sCap elem))
    (w.drew.alloc (.cells (h++g++Builtin.zeroCells z.cells (grownCap w (sLen+n) sCap elem-(sLen+n))) elem)):=by
 have t:¬sLen+n<=sCap:=ω
 have y:(2*(sLen+n)+768)*1<=(2*(sLen+n)+768)*a:=Ok _ (AC k);have u:¬ (((sLen+n:Nat):Int)>IntKind.i64.max/\(zeros=true∨a=0)):=by
  intro ⟨q,_⟩;have:IntKind.i64.max=9223372036854775807:=rfl;rw[this]at q;omega
 have v:¬Builtin.nextslicecap (sLen+n) sCap*a>2 ^ 48:=by
  have B:=nextslicecap_le m;have C:Builtin.nextslicecap (sLen+n) sCap*a<=(2*(sLen+n)+768)*a:=LT _ ω;omega
 have o:w.drew.heap=w.heap:=rfl;obtain⟨i,p,A⟩:=tR f;have l:i.bytes=a:=by
  simp only[nE,BT]at d;obtain⟨j,r,q⟩:=d;rw[p]at r;cases r;exact q
 unfold ig;simp only[t,u,v,if_false,gR,oC,ed,run_typeInfo p,l,run_choose,Question.forced,Cl,run_askRoom,eO f];have s:({w with drawn:=w.drawn+1}:World)=w.drew:=rfl;rw[s];simp only[e _ o,c _ o,ed,iJ,oC,grownCap];rfl
def kill(e:R P μ h w){k:Blk}(hb:h.get b=some (.cells vs true sz))(g:μ b=some k):
 R P μ (h.wr base b .dead) w/\St μ h w μ (h.wr base b .dead) w:=
 e.write hb rfl rfl g rfl (λ_ _=>rfl) ⟨λc a d f=>⟨c,a,d,f,bl _⟩,λL i=>⟨L,i, .refl L⟩⟩ trivial
def AQ(a:Array Value)(n:Nat):(Builtin.zeroCells a n).size=n*a.size:=by simp[Builtin.zeroCells]
def CF{k:Heap}(D:R P μ k w)(C:k.next=h.next){elem:TypeId}{x:Value}{m:Sem (Array Value)}{olds old' d a:List Value}
 (u:nE P elem=some b)(B:jb P elem=some z)(E:z.cells.size=size)(A:0<size)(y:sCap<sLen+n)(t:b≠0)(hb:(2*(sLen+n)+768)*b<=281474976710656)(i:LR μ olds old')(g:LR μ d a)(r:old'.length=sLen*size)(q:a.length=n*size)
 (s:∀w1:World,w1.heap=w.heap->(Builtin.firstCells size sLen (.slice ad sLen sCap)).run P w1= .ok old'.toArray w1)
 (p:∀w1:World,w1.heap=w.heap->m.run P w1= .ok a.toArray w1):
 ∃μ' v' w',(ig elem size zeros ad sLen sCap n x m).run P w= .ok v' w'∧VR μ' (.slice (some ⟨k.next,0,none⟩) (sLen+n) UNK) v'∧R P μ' (k.push (.cells (olds++d) true size)) w'∧
  St μ k w μ' (k.push (.cells (olds++d) true size)) w':=by
 have f:=grownCap_ge w (sLen+n) sCap elem;have e:=tT (P:=P) (w:=w) (elem:=elem) (zeros:=zeros) (x:=x) u B y t hb s p;generalize grownCap w (sLen+n) sCap elem=cap at f e;have v:(old'.toArray++a.toArray++Builtin.zeroCells z.cells (cap-(sLen+n))).size=cap*size:=by
  simp only[Array.size_append,List.size_toArray,r,q,AQ,E];rw[←Nat.add_mul,←Nat.add_mul];congr 1;omega
 obtain⟨F,G⟩:=D.FA (c:=old'.toArray++a.toArray++Builtin.zeroCells z.cells (cap-(sLen+n))) (own:=true) (sz:=size) (l:=olds++d) (el:=elem) (fz:=(0,0))
  (w':=w.drew.alloc (.cells (old'.toArray++a.toArray++Builtin.zeroCells z.cells (cap-(sLen+n))) elem)) rfl (λj _=>by simp)
  (by
    have:(old'.toArray++a.toArray++Builtin.zeroCells z.cells (cap-(sLen+n))).toList.take (olds++d).length=old'++a:=by
     rw[dk,i.length,g.length,←List.length_append,Sx,Sx];exact List.take_left' rfl
    rw[this];exact i.append g)
  (by rw[v,dk,i.length,g.length,r,q,←Nat.add_mul];exact LT _ f)
 exact⟨_,_,_,e,VR.fR (o:=0) (fM _ _ _) (by simp only;omega) A f,F,G⟩
def OE(m:R P μ h w){len cap':Nat}{k:Blk}(hb:h.get b=some (.cells vs own sz))(p:μ b=some k)(e:o+len*size<=vs.length):
 ∃a,a.length=len*size/\LR μ ((vs.drop o).take (len*size)) a∧∀c:World,c.heap=w.heap->(Builtin.firstCells size len (.slice (some ⟨k.r,k.d+o,none⟩) len cap')).run P c= .ok a.toArray c:=by
 obtain⟨a,f,g,i⟩:=OR.row (m.obj b _ hb) p e;refine⟨a,f,g,λc q=> ?_⟩;have:=run_loadCells (P:=P) (w:=c) (r:=k.r) (o:=k.d+o) (l:=a) (λj n=>by rw[Bj q];exact i j n);rw[f]at this;simpa[Builtin.firstCells]using this
def iI{elem:TypeId}{ad:Addr}{x:Value}{a:Sem (Array Value)}{c:List Value}(d:sLen+n<=sCap)
 (b:a.run P w= .ok c.toArray w)(e:(storeCells (ad.add (sLen*size)) c).run P w= .ok () w'):
 (ig elem size zeros (some ad) sLen sCap n x a).run P w= .ok (.slice (some ad) (sLen+n) sCap) w':=by
 unfold ig;simp only[d,if_true,gR,b,ed,e,oC]
def GI(u:R P μ h w){elem:TypeId}{p:Nat}{x s s':Value}{F:Sem (Array Value)}{j g:List Value}(U:VR μ s s')(f:LR μ j g)(D:g.length=n*size)
 (I:nE P elem=some p)(J:jb P elem=some z)(hz:z.cells.size=size)(y:0<size)(H:p≠0)(d:∀w1:World,w1.heap=w.heap->F.run P w1= .ok g.toArray w1)(h1:jV h base size p s j n=some (v,h')):
 ∃B sLen sCap,s'= .slice B sLen sCap/\∃μ' A t,(ig elem size zeros B sLen sCap n x F).run P w= .ok A t∧VR μ' v A∧R P μ' h' t∧St μ h w μ' h' t∧AS base h h':=by
 have ba:=f.length;unfold jV at h1;split at h1
 ·rename_i a0 len cap;simp only[beq_eq,ble_eq,cK,cond_eq_ite,decide_eq_true_eq]at h1;split at h1
  ·rename_i C;subst C;rw[ec]at h1;obtain⟨q,h1⟩:=h1;cases h1;have C:g=[]:=by simpa using D
   subst C;have fin:∀B len m,len<=m→(ig elem size zeros B len m 0 x F).run P w= .ok (.slice B len m) w:=λB len m hl=>by
    cases B with
    |none=>
     unfold ig;simp only[R0,hl,if_true,gR,d w rfl,ed,oC]
    |some B=>exact iI ω (d w rfl) (by simp[storeCells])
   cases U with
   |kV=>exact⟨none,len,cap,rfl,μ,_,w,fin _ _ _ q, .kV _ _,u, .refl _ _ _, .refl _ _⟩
   |nW s=>exact⟨_,0,0,rfl,μ,_,w,fin _ _ _ q, .nW s,u, .refl _ _ _, .refl _ _⟩
   |slice hk q1 q2=>exact⟨_,len,cap,rfl,μ,_,w,fin _ _ _ q2, .slice hk q1 q2,u, .refl _ _ _, .refl _ _⟩
   |fR hk q1 q2 q3=>exact⟨_,len,_,rfl,μ,_,w,fin _ _ _ q3, .fR hk q1 q2 q3,u, .refl _ _ _, .refl _ _⟩
  ·rename_i C;rw[ec]at h1;obtain⟨hb,h1⟩:=h1;split at h1
   ·rename_i _;simp only[gk,decide_eq_true_eq,ec]at h1;obtain⟨⟨G,Y⟩,h1⟩:=h1;subst G Y;cases h1;cases U with
    |kV=>
     obtain⟨μ',A,t,Q,K,L,M⟩:=CF (h:=h) u rfl (elem:=elem) (zeros:=zeros) (x:=x) (ad:=none) (sLen:=0) (sCap:=0) (olds:=[]) (old':=[]) I J hz y ω H hb .nil f (by simp) D
      (λw1 _=>by simp[Builtin.firstCells]) d
     rw[hF]at K;exact⟨none,0,0,rfl,μ',A,t,Q,K,L,M,AS.push _ _ _⟩
   ·rename_i b o;split at h1
    ·rename_i vs own sz hbo;split at h1
     ·rename_i hU;subst hU;rw[ec]at h1;simp only[gk,decide_eq_true_eq]at h1;obtain⟨⟨G,Y⟩,h1⟩:=h1;subst G Y;cases U with
      |slice _ q1 _=>exact absurd q1 (xc _)
      |fR hk q1 q2 q3=>
       rename_i c k;obtain⟨z0,ca,O,fz,z1,z2,z3,z4,z5⟩:=u.obj b _ hbo k hk;obtain⟨y1,y2,y3⟩:=z5 rfl;split at h1
       ·rename_i hc;obtain⟨Z,c4⟩:=hc;cases h1;rw[y1,hF]at z2 q1;have a:len+n<=c:=by
         have:(len+n)*sz<=c*sz:=by rw[z0]at q1;omega
         exact Nat.le_of_mul_le_mul_right this y
        have E:(len+n)*sz=len*sz+n*sz:=Bo _ _ _;obtain⟨t,V,W,X⟩:=u.sX (base:=base) hbo hk f (o:=o+len*sz) ω c4;refine⟨_,len,c,rfl,μ,_,t,iI a (d w rfl) (by rw[gI,←Nat.add_assoc]at*;exact V), .fR hk (by rw[y1,hF];exact q1) q2 a,W,X,AS.wr _ _ _ _⟩
       ·rw[ec]at h1;obtain⟨⟨⟨Z,c4⟩,c5⟩,h1⟩:=h1;subst Z;cases h1;have q:eL vs j=vs++j:=dS _ _;have aS:AS base h ((h.wr base b .dead).push (.cells (eL vs j) true sz)):=(AS.wr base h b .dead).trans (AS.push _ _ _);rw[y1,hF]at z2 q1;by_cases a:len+n<=c
        ·have E:(len+n)*sz=len*sz+n*sz:=Bo _ _ _;have aw:(len+n)*sz<=c*sz:=LT _ a;rw[z0]at q1;obtain⟨t,N,V,W,X,s4,s5,s6,s7⟩:=nV (P:=P) k.r g (0+len*sz) 0 w ca O fz z1 ω y3 (by rw[Jc f];exact c5);obtain⟨t1,t2⟩:=u.move (base:=base) (k':=⟨k.r,0,k.e,sz⟩) (o':= .cells (eL vs j) true sz) hbo rfl rfl hk W X (.zU z1 s4 ω) rfl (by
          intro k1 T;rw[fM]at T;cases T;refine⟨rfl,N,O,fz,s4,by rw[q];simp only[dk];omega,by simp only;omega,λi hi=> ?_,λ_=>⟨rfl,by simp only;omega,by rw[s5];exact y3⟩⟩;rw[q,dk]at hi;rw[q];simp only[hF];have ae:N[i]? =(dP ca.toList (len*sz) g)[i]? :=by
           have:=s6;rw[hF,R0]at this;rw[←this];simp
          rw[ae,pR g ca.toList (len*sz) i (by simp;omega)];have hm:∀b' k1,μ b'=some k1->upd μ h.next ⟨k.r,0,k.e,sz⟩ b'=some k1:=λb' k1 S=>by
           unfold upd;rw[if_neg];exact S;intro e;subst e;exact xc _ (u.dom _ _ S).1
          by_cases hi2:i<vs.length
          ·rw[if_neg ω];obtain⟨A,p1,p2⟩:=z4 i hi2;rw[y1,hF]at p1;refine⟨A,by simpa using p1,?_⟩;have:gv (vs++j) i=gv vs i:=by simp only[gv,cC];rw[oB hi2]
           rw[this];exact p2.mono hm
          ·rw[if_pos ω];have ar:i-vs.length<j.length:=ω
           have:gv (vs++j) i=gv j (i-vs.length):=by simp only[gv,cC];rw[hX ω]
           rw[this,c4];exact⟨gv g (i-vs.length),uh ω,(f.gv _ ar).mono hm⟩) s7
         refine⟨_,len,c,rfl,_,_,t,iI a (d w rfl) (by rw[gI];rw[y1];simpa using V),?_,t1,t2,aS⟩;have:=VR.fR (μ:=upd μ h.next ⟨k.r,0,k.e,sz⟩) (b:=h.next) (o:=0) (l:=len+n) (c:=c) (fM _ _ _) (by simp only;omega) y a;rw[y1];exact this
        ·obtain⟨l',o1,o2,o3⟩:=OE (cap':=c) u hbo hk (o:=0) (len:=len) (size:=sz) ω;obtain⟨t1,t2⟩:=kill (base:=base) u hbo hk;have aE:LR μ vs l':=by
          have e:(vs.drop 0).take (len*sz)=vs:=by rw[ww];exact go ω
          rw[e]at o2;exact o2
         obtain⟨μ',A,t,Q,K,L,M⟩:=CF (h:=h) t1 rfl (elem:=elem) (zeros:=zeros) (x:=x) (sLen:=len) (sCap:=c) I J hz y ω H hb aE f o1 D o3 d;rw[←q]at L M;exact⟨_,len,c,rfl,μ',A,t,Q,K,L,t2.trans M (bl _),aS⟩
     ·rename_i hU;split at h1
      ·rename_i a;rw[ec]at h1;simp only[gk,decide_eq_true_eq]at h1;obtain⟨⟨⟨G,Y⟩,Z⟩,h1⟩:=h1;subst G;cases h1;have E:(len+n)*size=len*size+n*size:=Bo _ _ _;cases U with
       |slice hk q1 q2=>
        obtain⟨t,V,W,X⟩:=u.sX (base:=base) hbo hk f (o:=o+len*size) ω Z;exact⟨_,len,cap,rfl,μ,_,t,iI a (d w rfl) (by rw[gI,Hd];exact V), .slice hk q1 a,W,X,AS.wr _ _ _ _⟩
       |fR=>exact absurd rfl hU
      ·rename_i a;rw[ec]at h1;obtain⟨G,h1⟩:=h1;cases h1;cases U with
       |slice hk q1 q2=>
        obtain⟨l',o1,o2,o3⟩:=OE (cap':=cap) u hbo hk (o:=o) (len:=len) (size:=size) G;obtain⟨μ',A,t,Q,K,L,M⟩:=CF (h:=h) u rfl (elem:=elem) (zeros:=zeros) (x:=x) (sLen:=len) (sCap:=cap) I J hz y ω H hb o2 f o1 D o3 d;rw[dS,bw,aT];exact⟨_,len,cap,rfl,μ',A,t,Q,K,L,M,AS.push _ _ _⟩
       |fR=>exact absurd rfl hU
    ·cases h1
   ·cases h1
 ·cases h1
def Kw(j:R P μ h w)(H:dH μ e a.tmps){m:TypeDesc}{s:Operand}
 (Q:ts[0]? =some t)(y:ts[1]? =some xt)(A:xs[0]? =some (a.eval s))(B:xs[1]? =some (a.eval x))(N:P.underlying t=some (.slice el))(C:P.underlying xt=some m)(q:∀k,m≠ .int k)
 (u:eM P el=some size)(p:nE P el=some b)(U:jb P el=some z)(E:bS (cellsOf z)=size)(r:size≠0)(o:b≠0)(O:aP P s=true)(T:aP P x=true)
 (h1:aop h base e (.append size b s x)=some (.val v h')):Ran P μ h w base (((Builtin.append_ ts ty xs).run P w).andThen λv w=> .ok (.value v) w) v h':=by
 simp only[aop]at h1;split at h1
 ·rename_i sv xv hsv hxv;split at h1
  ·rename_i l n hsrc;have h1:=mh h1;have gs:=dF j H O hsv;have M:=dF j H T hxv;generalize a.eval s=sv' at*;generalize a.eval x=xv' at*;obtain⟨V,J,G,K,L⟩:=PK j M hsrc;have c:∀i:World,i.heap=w.heap->(Builtin.firstCells size n xv').run P i= .ok V.toArray i:=λi S=>by
    have:=L n (bl _) i S
    rwa [←G,wd]at this
   have D:z.cells.size=size:=by rw[JH,←cK];exact E
   obtain⟨I,g,f,rfl,μ',v',w',W,X,Y,Z,q5⟩:=GI (elem:=el) (zeros:=false) (x:=xv') j gs J G p U D (AC r) o c h1;refine⟨μ',v',w', .inl ?_,X,Y,Z,q5⟩;have d:((m matches .int _):Bool)=false:=by cases m<;>first|rfl|exact(q _ rfl).elim
   have F:(Builtin.append_ ts ty xs).run P w=(ig el size false I g f n xv' (Builtin.firstCells size n xv')).run P w:=by
    unfold Builtin.append_ ig;simp only[Q,y,A,B,gR,run_underlying N,run_underlying C,run_sizeOf u,ed,oC,d,Cl,if_false,K,P1,if_true,false_or];rfl
   rw[F,W];rfl
  ·cases h1
 ·cases h1
def Sy(j:R P μ h w)(G:dH μ e a.tmps){d s:Operand}
 (N:ts[0]? =some t)(A:xs[0]? =some (a.eval d))(B:xs[1]? =some (a.eval s))(L:P.underlying t=some (.slice el))(y:eM P el=some size)(q:aP P d=true)(u:aP P s=true)
 (h1:aop h base e (.copy size d s)=some (.val v h')):Ran P μ h w base (((Builtin.copy_ ts ty xs).run P w).andThen λv w=> .ok (.value v) w) v h':=by
 simp only[aop]at h1;split at h1
 ·rename_i a0 dl dc sv hdv hsv;split at h1
  ·rename_i l n hsrc;have F:=dF j G q hdv;have gs:=dF j G u hsv;generalize a.eval d=dv' at*;generalize a.eval s=sv' at*;obtain⟨H,J,S,K,p⟩:=PK j gs hsrc;have p:=p (Nat.min n dl) (Nat.min_le_left _ _) w rfl;have g:∀i c,dv'= .slice i dl c->∀f,(match i with|some a=>(storeCells a (H.take (Nat.min n dl*size))).run P w|none=> .ok () w)= .ok () f→(Builtin.copy_ ts ty xs).run P w= .ok (goInt (Nat.min n dl)) f:=λi c O f z=>by
    subst O;unfold Builtin.copy_;simp only[N,A,B,gR,run_underlying L,ed,K,run_sizeOf y,p,oC];cases i with
    |none=>cases z;simp
    |some i=>simp only[gR];simp only at z;rw[z];rfl
   split at h1
   ·cases h1;cases F with
    |kV=>exact⟨μ,_,w, .inl (by rw[g none _ rfl w rfl];rfl), .int _ _,j, .refl _ _ _, .refl _ _⟩
   ·rename_i b o;split at h1
    ·rename_i vs sz hbo;simp only[ble_eq,cK,bw,cond_eq_ite,ec,gk,decide_eq_true_eq]at h1;obtain⟨⟨Q,I⟩,h1⟩:=h1;cases h1;have x:=J.take (Nat.min n dl*size);have M:(l.take (Nat.min n dl*size)).length<=Nat.min n dl*size:=by simp;omega
     have fin:∀k,μ b=some k->∃f,(storeCells ⟨k.r,k.d+o,none⟩ (H.take (Nat.min n dl*size))).run P w= .ok () f∧R P μ (h.wr base b (.cells (dP vs o (l.take (Nat.min n dl*size))) true sz)) f∧
      St μ h w μ (h.wr base b (.cells (dP vs o (l.take (Nat.min n dl*size))) true sz)) f:=λk m=>j.sX hbo m x ω I
     cases F with
     |slice m q1 q2=>
      obtain⟨f,C,D,E⟩:=fin _ m;exact⟨μ,_,f, .inl (by rw[g _ _ rfl f C];rfl), .int _ _,D,E,AS.wr _ _ _ _⟩
     |fR m q1 q2 q3=>
      obtain⟨f,C,D,E⟩:=fin _ m;exact⟨μ,_,f, .inl (by rw[g _ _ rfl f C];rfl), .int _ _,D,E,AS.wr _ _ _ _⟩
    ·cases h1
   ·cases h1
  ·cases h1
 ·cases h1
def OF(j:R P μ h w)(F:dH μ e a.tmps)
 (p:ts[0]? =some t)(c:xs[0]? =some (a.eval x))(l:P.underlying t=some (.slice el))(C:jb P el=some z)(u:dQ (cellsOf z)=true)(s:aP P x=true)
 (h1:aop h base e (.clear (cellsOf z) x)=some (.val v h')):Ran P μ h w base (((Builtin.clear_ ts ty xs).run P w).andThen λv w=> .ok (.value v) w) v h':=by
 simp only[aop]at h1;split at h1
 ·rename_i a0 n dc hdv;have q:=dF j F s hdv;generalize a.eval x=dv' at*;simp only[cond_eq_ite,beq_eq,decide_eq_true_eq]at h1;split at h1
  ·rename_i hn;subst hn;cases h1;refine⟨μ, .tuple #[],w, .inl ?_,VR.pg .nil,j, .refl _ _ _, .refl _ _⟩;cases q<;>simp[Builtin.clear_,p,c,run_underlying l]
  ·rename_i hn;obtain⟨m,rfl⟩:∃m,n=m+1:=⟨n-1,ω⟩;split at h1
   ·cases h1;cases q with
    |kV=>exact⟨μ, .tuple #[],w, .inl (by simp[Builtin.clear_,p,c,run_underlying l]),VR.pg .nil,j, .refl _ _ _, .refl _ _⟩
   ·rename_i b o;split at h1
    ·rename_i vs sz hbo;simp only[ble_eq,cK,ec,gk,decide_eq_true_eq]at h1;obtain⟨⟨D,E⟩,h1⟩:=h1;cases h1;have i:LR μ (eR (m+1) (cellsOf z)) (Builtin.zeroCells z.cells (m+1)).toList:=DI u (m+1);have fin:∀k,μ b=some k->∃f,(storeCells ⟨k.r,k.d+o,none⟩ (Builtin.zeroCells z.cells (m+1)).toList).run P w= .ok () f∧R P μ (h.wr base b (.cells (dP vs o (eR (m+1) (cellsOf z))) true sz)) f∧
      St μ h w μ (h.wr base b (.cells (dP vs o (eR (m+1) (cellsOf z))) true sz)) f:=λk g=>j.sX hbo g i D E
     cases q with
     |slice g q1 q2=>
      obtain⟨f,y,A,B⟩:=fin _ g;exact⟨μ, .tuple #[],f, .inl (by simp[Builtin.clear_,p,c,run_underlying l,eO C,y]),VR.pg .nil,A,B,AS.wr _ _ _ _⟩
     |fR g q1 q2 q3=>
      obtain⟨f,y,A,B⟩:=fin _ g;exact⟨μ, .tuple #[],f, .inl (by simp[Builtin.clear_,p,c,run_underlying l,eO C,y]),VR.pg .nil,A,B,AS.wr _ _ _ _⟩
    ·cases h1
   ·cases h1
 ·cases h1
def ei{r a:Result Next}(hr:Ran P μ h w base r v h')(b:a=r):Ran P μ h w base a v h':=b▸hr
def fq{β:Type}{x:Option α}{f:α->β}{y:β}(h:x.map f=some y):∃z,x=some z/\f z=y:=by simpa[BT]using h
def VW(j:R P μ h w)(u:dH μ e a.tmps){o:Oper}{O:AOp}(g:iy P o.op=some O)(h1:aop h base e O=some (.val v h'))(hb:∀c,o.op≠ .call c):
 Ran P μ h w base ((execOp a.eval o).run P w) v h':=by
 unfold iy at g;split at g
 ·rename_i hall;cases hop:o.op<;>rw[hop]at g hall<;>simp only[Op.operands,List.all_cons,List.all_nil,Fd,gk]at hall<;>(try dsimp only at g)<;>(try (cases g;done))<;>(try (exact absurd hop (hb _)))
  case move x=>cases g;exact ei (OI j u hall h1) (by simp[execOp,hop])
  case assign x=>cases g;exact ei (OI j u hall h1) (by simp[execOp,hop])
  case pick c x y=>cases g;exact ei (SH j u hall.1 hall.2.1 hall.2.2 h1) (by simp[execOp,hop])
  case alloc t=>
   split at g
   ·rename_i z D;split at g
    ·rename_i C;cases g;exact ei (VV j D C h1) (by simp[execOp,hop])
    ·cases g
   ·cases g
  case box t x=>cases g;exact ei (VU (t:=t) j u hall h1) (by simp[execOp,hop])
  case build t ps=>
   have J:∀p∈ps.toList,aP P p.2=true:=λp K=>List.all_eq_true.1 hall p.2 (by simpa using⟨p.1,by simpa using K⟩);split at g
   ·rename_i z fs D hd;split at g
    ·rename_i hcc;obtain⟨S,L,rfl⟩:=fq g;exact ei (FE j u (.inr ⟨fs,hd,hcc.2,rfl⟩) D hcc.1 J (by simpa[Program.cellsOf,eM]using L) h1) (by simp[execOp,hop])
    ·cases g
   ·rename_i z n el D hd;split at g
    ·rename_i s C;split at g
     ·rename_i hcc;obtain⟨S,L,rfl⟩:=fq g;exact ei (FE j u (.inl ⟨_,_,s,hd,C,rfl⟩) D hcc J L h1) (by simp[execOp,hop])
     ·cases g
    ·cases g
   ·cases g
  case buildSlice t n ps=>
   have J:∀p∈ps.toList,aP P p.2=true:=λp K=>List.all_eq_true.1 hall p.2 (by simpa using⟨p.1,by simpa using K⟩);split at g
   ·rename_i el hd;split at g
    ·rename_i s z C D;split at g
     ·rename_i hcc;obtain⟨S,L,rfl⟩:=fq g;exact ei (Kx j u hd C D hcc.2.2.2 hcc.1 hcc.2.1 hcc.2.2.1 J L h1) (by simp[execOp,hop])
     ·cases g
    ·cases g
   ·cases g
  case load t x=>obtain⟨n,B,rfl⟩:=fq g;exact ei (SD j u B hall h1) (by simp[execOp,hop])
  case store t x y=>obtain⟨n,B,rfl⟩:=fq g;exact ei (OL j u B hall.1 hall.2 h1) (by simp[execOp,hop])
  case nilCheck x=>cases g;exact KE j u hop hall h1
  case binOp op t x y yt=>
   have A:∀{r},Ran P μ h w base r v h'→((do eqGuard op t x y (a.eval x) (a.eval y);binOp op t (a.eval x) (a.eval y)).run P w).andThen (λv w=> .ok (.value v) w)=r->Ran P μ h w base ((execOp a.eval o).run P w) v h':=λU T=>
    ei U (by rw[←T];simp[execOp,hop];cases (eqGuard op t x y (a.eval x) (a.eval y)).run P w<;>simp[Result.andThen])
   split at g
   ·rename_i fs hd;split at g
    ·rename_i ls hl _;split at g
     ·cases g
     ·rename_i hg;cases g;exact A (vz j u rfl τ (by simpa using hg) hall.1 hall.2 h1 ⟨fs, .inl hd⟩) rfl
    ·split at g
     ·cases g
     ·rename_i hg;cases g;exact A (vz j u rfl τ (by simpa using hg) hall.1 hall.2 h1 ⟨fs, .inl hd⟩) rfl
    ·cases g
   ·rename_i n el hd;split at g
    ·split at g
     ·cases g
     ·rename_i hg;cases g;exact A (vz j u rfl τ (by simpa using hg) hall.1 hall.2 h1 ⟨#[], .inr ⟨_,_,hd⟩⟩) rfl
    ·split at g
     ·cases g
     ·rename_i hg;cases g;exact A (vz j u rfl τ (by simpa using hg) hall.1 hall.2 h1 ⟨#[], .inr ⟨_,_,hd⟩⟩) rfl
    ·cases g
   ·rename_i ms hd;split at g
    ·rename_i hcc;obtain⟨n,B,rfl⟩:=fq g;exact A (zV j u B hd (by simp[uy]) (λ_=>hcc) hall.1 hall.2 h1) rfl
    ·cases g
   ·rename_i p hd;obtain⟨n,B,rfl⟩:=fq g;exact A (zV j u B hd (by simp[uy]) (λq=>by cases q) hall.1 hall.2 h1) rfl
   ·rename_i p hd;obtain⟨n,B,rfl⟩:=fq g;exact A (zV j u B hd (by simp[uy]) (λq=>by cases q) hall.1 hall.2 h1) rfl
   ·rename_i p q hd;obtain⟨n,B,rfl⟩:=fq g;exact A (zV j u B hd (by simp[uy]) (λq=>by cases q) hall.1 hall.2 h1) rfl
   ·rename_i p q r hd;obtain⟨n,B,rfl⟩:=fq g;exact A (zV j u B hd (by simp[uy]) (λq=>by cases q) hall.1 hall.2 h1) rfl
   ·rename_i hd;obtain⟨n,B,rfl⟩:=fq g;exact A (VT j u B hd hall.1 hall.2 h1) rfl
   ·cases g;exact A (OJ j u hall.1 hall.2 h1) rfl
   ·cases g;exact A (OJ j u hall.1 hall.2 h1) rfl
   ·cases g
  case unOp op t x=>cases g;exact ei (Za j u hall h1) (by simp[execOp,hop])
  case convert s d x=>
   split at g
   ·rename_i k k' C hd;cases g;exact ei (Hq j u C hd hall h1) (by simp[execOp,hop])
   ·rename_i C hd;cases g
   ·rename_i el C hd;split at g
    ·rename_i hel;cases g
    ·cases g
   ·rename_i el C hd;split at g
    ·rename_i hel;cases g
    ·cases g
   ·cases g
  case makeInterface t x=>
   split at g
   ·cases g
   ·rename_i d hni hd;cases g;exact ei (Ht j u hd (λm M=>hni m M) hall h1) (by simp[execOp,hop])
   ·cases g
  case makeFunc fn fs cs=>
   cases fn<;>(try (cases g;done))
   cases g;simp only[Sx,QQ,gk]at hall;exact ei (KC j u hall.1 hall.2 h1) (by simp[execOp,hop])
  case makeMap t r=>
   cases r with
   |none=>cases g;exact ei (FF (t:=t) j (r:=none) (.inl rfl) h1) (by simp[execOp,hop])
   |some r=>
    cases r<;>simp only at g<;>(try (cases g;done))
    rename_i c;cases c<;>simp only at g<;>(try (cases g;done))
    rename_i k n;split at g
    ·rename_i kt el hd;cases g;exact ei (FF (t:=t) j (r:=some (.int k n)) (.inr ⟨k,n,kt,el,rfl,hd⟩) h1) (by simp[execOp,hop,Act.eval])
    ·cases g
  case makeSlice t l c=>
   split at g
   ·rename_i el hd;split at g
    ·rename_i s z b C D hb;split at g
     ·rename_i hcc;cases g;exact ei (Hu j u hd C D hb hcc.2.2 hcc.1 hcc.2.1 hall.1 hall.2 h1) (by simp[execOp,hop])
     ·cases g
    ·cases g
   ·cases g
  case slice t x lo hi mx=>
   simp only[Pi,Sx,QQ,List.all_cons,List.all_nil,Fd,gk]at hall;have I:∀(y:Option Operand),(y.toArray.toList.all (aP P))=true->∀z,y=some z->aP P z=true:=λy V z D=>by subst D;simpa using V
   obtain⟨⟨⟨N,F⟩,E⟩,H⟩:=hall;have F:=I _ F;have E:=I _ E;have H:=I _ H;split at g
   ·cases g
   ·rename_i hmh;have G:mx.isSome=true->hi.isSome=true:=λq=>by cases hi<;>simp_all
    split at g
    ·rename_i hd;split at g
     ·cases g
     ·cases g
    ·rename_i el hd;obtain⟨n,B,rfl⟩:=fq g;exact ei (Hw j u hd B N G F E H h1) (by simp[execOp,hop])
    ·rename_i n el hd;split at g
     ·rename_i hU;obtain⟨s,B,rfl⟩:=fq g;exact ei (xu j u (.inl hd) hU B N G F E H h1) (by simp[execOp,hop])
     ·cases g
    ·rename_i p hd;split at g
     ·rename_i n el K;split at g
      ·rename_i hU;obtain⟨s,B,rfl⟩:=fq g;exact ei (xu j u (.inr ⟨p,hd,K⟩) hU B N G F E H h1) (by simp[execOp,hop])
      ·cases g
     ·cases g
    ·cases g
  case fieldAddr s x f=>
   split at g
   ·rename_i fs hd;split at g
    ·rename_i fl hf;split at g
     ·rename_i n B;cases g;exact ei (OG j u hd hf B hall h1) (by simp[execOp,hop])
     ·cases g
    ·cases g
   ·cases g
  case field s x f=>
   split at g
   ·rename_i fs hd;split at g
    ·rename_i fl hf;cases g
    ·cases g
   ·cases g
  case indexAddr t x i=>
   split at g
   ·rename_i n el hd;obtain⟨s,C,rfl⟩:=fq g;exact ei (Ky j u hd C hall.1 hall.2 h1) (by simp[execOp,hop])
   ·rename_i el hd;obtain⟨s,C,rfl⟩:=fq g;exact ei (Kz j u hd C hall.1 hall.2 h1) (by simp[execOp,hop])
   ·cases g
  case index t x i=>
   split at g
   ·rename_i n el hd;split at g
    ·rename_i s ag C hag;cases g;exact ei (SA j u hd C hag hall.1 hall.2 h1) (by simp[execOp,hop])
    ·cases g
   ·rename_i hd;cases g;exact ei (SC j u hd hall.1 hall.2 h1) (by simp[execOp,hop])
   ·cases g
  case lookup t m k ok=>
   split at g
   ·rename_i kt el hd;split at g
    ·rename_i ls z hl D;split at g
     ·rename_i hf;cases g;exact ei (KA j u hd hl D hf hall.1 hall.2 h1) (by simp[execOp,hop])
     ·cases g
    ·cases g
   ·cases g
  case mapUpdate t m k x=>
   split at g
   ·rename_i kt el hd;split at g
    ·rename_i ls hl;cases g;exact ei (OH j u hd hl hall.1 hall.2.1 hall.2.2 h1) (by simp[execOp,hop])
    ·cases g
   ·cases g
  case range t x=>
   split at g
   ·rename_i hd;cases g
   ·cases g;cases h1
   ·cases g
  case entry x=>cases g;cases h1
  case next x s=>
   cases s with
   |true=>cases g
   |false=>cases g;cases h1
  case typeAssert x xt t ok=>
   split at g
   ·cases g
   ·rename_i d hni hd;split at g
    ·rename_i z D;split at g
     ·rename_i hf;cases g;exact ei (Hx (xt:=xt) j u hd (λm M=>hni m M) D hf hall h1) (by simp[execOp,hop])
     ·cases g
    ·cases g
   ·cases g
  case extract x i=>cases g;exact ei (Hr j u hall h1) (by simp[execOp,hop])
  case defer c=>
   split at g
   ·cases g;simp only[aop]at h1;split at h1<;>cases h1
   ·cases g
  case panic x=>
   cases g;obtain⟨W,_,Q⟩:=aD h1;split at Q<;>cases Q
 ·cases g
end Go.A
end
