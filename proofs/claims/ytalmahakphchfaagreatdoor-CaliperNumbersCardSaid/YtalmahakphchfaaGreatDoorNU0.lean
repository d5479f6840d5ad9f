/- Walks of functions, plain laws, the table. -/
import Derived.Test.YtalmahakphchfaaGreatDoorNF
import Derived.Test.YtalmahakphchfaaGreatDoorNV
import Derived.Test.YtalmahakphchfaaGreatDoorND
import Derived.Carry
import Derived.Lib.SmallJoins
import Derived.Deep.Slices
import Derived.Deep.Fields
import Derived.Test.YtalmahakphchfaaGreatDoorNH
import Derived.SizedLaws
import Derived.KernelRfl
import Derived.Lib.LaidTab
set_option linter.all false
set_option maxRecDepth 100000
section
namespace Go.A.Pk
variable {T:Nat->Option af}
structure Rd where
 id:Int
 known:Int
 kind:Nat
 cells:List Nat
 of:Int
 deriving DecidableEq
structure IsR (r:Rd):Prop where
 cells:IsS r.cells
 kind:r.kind<256
def rdL(r:Rd):List Value:= .int .i64 r.id:: .int .i64 r.known:: .int .u8 (r.kind:Nat)::(us r.cells++[.int .i64 r.of])
theorem dL:∀{a b:List Value},cK a=true->cK b=true->cK (a++b)=true
 |[],_,_,h=>h
 |v::a,b,h1,h2=>by
  rw[List.cons_append];cases v<;>first|(simp only[cK]at h1;cases h1;done)|(simp only[cK]at h1⊢;exact dL h1 h2)
def rsL(l:List Rd):List Value:=l.flatMap rdL
structure Uf (vs:List Value) (o:Nat) (r:Rd):Prop where
 all:bB 12 (bA o vs)=rdL r
 id:aT vs (o+0)=some (.int .i64 r.id)
 known:aT vs (o+1)=some (.int .i64 r.known)
 kind:aT vs (o+2)=some (.int .u8 (r.kind:Nat))
 cells:bB 8 (bA (o+3) vs)=us r.cells
 of:aT vs (o+11)=some (.int .i64 r.of)
structure RdS (h:Heap) (v:Value) (l:List Rd):Prop where
 sl:bS h 12 v l.length (rsL l)
 ok:∀r∈l,IsR r
open Classical in
noncomputable def pSd:List Value->Heap->Option (Value×Heap)
 |[],h=>if Tab h then some (.bool true,h)else none
 |_,_=>none
theorem TV{h:Heap}(hf:T 6=some (.mQ pSd))(hg:Tab h):Pu T 6 [] h (.bool true):=by
 refine⟨_,_,⟨1,λn hn=> ?_⟩,rfl,rfl⟩;obtain⟨k,rfl⟩:∃k,n=k+1:=⟨n-1,by omega⟩;simp only[iV,hf,pSd,if_pos hg]
end Go.A.Pk
end
section
namespace Go.A
open Go.ChangeShapes Go.WideShapes Go.ChangeAt Go.RowKit
section
variable {H:Type} {enc:TypeId×Value->H} {P:Program}
theorem pz(hl:laidOutB P=true){W W':World}(hb:Below W.heap.size W W'):∀{ts:List TypeId} {vs:List Value} {ds:List (DataW H)} {ps:List MemPlace},(∀t∈ts,P.readableRec t=true/\t<P.types.size)->DataW.TrodAll enc P W 0 (λ_=>true) true ts vs ds ps→
 (∀x∈ps,x.block<W.heap.size)->DataW.TrodAll enc P W' 0 (λb=>decide (b<W.heap.size)) true ts vs ds ps
 |[],vs,ds,ps,_,h,_=>by
  obtain⟨rfl,rfl,rfl⟩:=trodAll_nil h;exact trodAll_mk0
 |t::ts,vs,ds,ps,hr,h,hlt=>by
  obtain⟨v,vs',d,ds',p,q,rfl,rfl,rfl,hd,hrest⟩:=trodAll_cons h;have h1:=hr t (List.mem_cons_self ..);exact⟨p,q,Below.trod hl h1.1 h1.2 hd hb λx hx=>hlt x (List.mem_append_left _ hx),pz hl hb (λt ht=>hr t (List.mem_cons_of_mem _ ht)) hrest λx hx=>hlt x (List.mem_append_right _ hx),rfl⟩
theorem G8{f:Func}{s:ChangeSpec}{W W':World}{args:Array Value}{ds gs:List (DataW H)}{before:List MemPlace}{tb:TypeId}(hW:DataW.Whole enc P f.params.toList s.vars false W args.toList ds gs before)(hv:s.vars=[])
 (hfn:(s.fn H ds).results=[.lit (.bool true)]/\(s.fn H ds).args=ds/\(s.fn H ds).vars=[])(hl:laidOutB P=true)(hr:∀t∈f.params.toList,P.readableRec t=true/\t<P.types.size)(hres:f.resultTypes= #[tb])(htb:P.underlying tb=some .bool)(hb:Below W.heap.size W W'):
 s.post enc P f false true false false W args (.bool true) W':=by
 have hW':=hW;obtain⟨p,q,hA,hV,hpq,hz,hn⟩:=hW;rw[hv]at hV;obtain⟨rfl,rfl⟩:=trodVars_none hV;have hbp:before=p:=by simpa using hpq
 subst hbp;obtain⟨h1,h2,h3⟩:=hfn;have hlt:∀x∈before,x.block<W.heap.size:=λx hx=>by simpa using hW'.lt x hx
 refine⟨ds,[],before,[],before,[],hW',?_,?_,?_,hb.frame _,λh=>by cases h⟩
 ·rw[List.append_nil,h1,hres];exact trodAll_cons_mk (shut_bool htb _) trodAll_mk0
 ·rw[List.append_nil,h2];exact pz hl hb hr hA hlt
 ·rw[List.append_nil,h3,hv];rfl
end
end Go.A
end
section
namespace Go.A.Pk
open Go Go.Proofs Go.Joins Go.ChangeShapes Go.WideShapes Go.RowKit Go.Deep
inductive iI (W:World) (sz:Nat):Value->Nat->List Value->Prop
 |nil:iI W sz (.slice none 0 0) 0 []
 |empty {b o cap c el fz}:W.heap[b]? =some (.cells c el fz)->cap<UNK->iI W sz (.slice (some ⟨b,o,none⟩) 0 cap) 0 []
 |full {b o cap n c el fz} {cs:List Value}:W.heap[b]? =some (.cells c el fz)->n≠0->cs.length=n*sz->0<sz->n<=cap->cap<UNK->(∀j,j<n*sz->c[o+j]? =cs[j]?)->(∀x∈cs,cT x=true)->iI W sz (.slice (some ⟨b,o,none⟩) n cap) n cs
structure Ob where
 vs:List Value
 sz:Nat
 b:Nat
 d:Nat
 e:Nat
def mP:Nat->List Ob->List (Nat×bO)
 |_,[]=>[]
 |n,o::l=>(n, .cells o.vs false o.sz)::mP (n+1) l
abbrev Gl:=List (Nat×List Value)
def glL(G:Gl)(l:List (Nat×bO)):List (Nat×bO):=match G with
 |[]=>l
 |(g,vs)::G=>(g, .cells vs false 1)::glL G l
def glM(G:Gl)(f:Mu):Mu:=match G with
 |[]=>f
 |(g,vs)::G=>λx=>if x=g then some ⟨g,0,vs.length,1⟩else glM G f x
def obH(G:Gl)(l:List Ob):Heap:=⟨glL G (mP 1000 l),1000+l.length,[]⟩
def obM(G:Gl)(l:List Ob):Mu:=glM G λx=>if 1000<=x then(l[x-1000]?).map λo=>⟨o.b,o.d,o.e,o.sz⟩else none
structure PA (W:World) (μ:Mu) (o:Ob):Prop where
 ok:∃c el fz,W.heap[o.b]? =some (.cells c el fz)/\o.d+o.vs.length<=o.e/\o.e<=c.size/\∀i,i<o.vs.length->∃v',c[o.d+i]? =some v'∧VR μ (gv o.vs i) v'
theorem uM:∀(l:List Ob) (n x:Nat),eZ (mP n l) x=if n<=x then(l[x-n]?).map λo=> .cells o.vs false o.sz else none
 |[],n,x=>by simp[mP,eZ]
 |o::l,n,x=>by
  simp only[mP,eZ,cond_eq_ite,beq_eq,decide_eq_true_eq];by_cases hx:n=x
  ·subst hx;rw[if_pos rfl,if_pos (Nat.le_refl _),Nat.sub_self];rfl
  ·rw[if_neg hx,uM l (n+1) x];by_cases h1:n<=x
   ·rw[if_pos h1,if_pos (by omega),show x-n=(x-(n+1))+1 by omega,List.getElem?_cons_succ]
   ·rw[if_neg h1,if_neg (by omega)]
structure tR (W:World) (G:Gl):Prop where
 ok:∀q∈G,q.1<Tryz.prog.globals.size/\(∃t fz,W.heap[q.1]? =some (.cells q.2.toArray t fz))/\∀v∈q.2,cT v=true
 nd:(G.map (·.1)).Nodup
theorem xV(G:Gl)(l:List (Nat×bO))(x:Nat):(∃vs,(x,vs)∈G/\eZ (glL G l) x=some (.cells vs false 1))∨((∀vs,(x,vs) ∉ G)/\eZ (glL G l) x=eZ l x):=by
 induction G with
 |nil=>exact .inr ⟨λvs h=>(nomatch h),rfl⟩
 |cons q G ih=>
  obtain⟨g,vs⟩:=q;by_cases hx:x=g
  ·subst hx;refine .inl ⟨vs,List.mem_cons_self,?_⟩;simp[glL,eZ]
  ·have e:eZ (glL ((g,vs)::G) l) x=eZ (glL G l) x:=by
    simp only[glL,eZ,cond_eq_ite,beq_eq,decide_eq_true_eq,if_neg (Ne.symm hx)]
   rw[e];rcases ih with⟨us,h1,h2⟩|⟨h1,h2⟩
   ·exact .inl ⟨us,List.mem_cons_of_mem _ h1,h2⟩
   ·exact .inr ⟨λus h=>by
     rcases List.mem_cons.1 h with h|h
     ·cases h;exact hx rfl
     ·exact h1 us h,h2⟩
theorem qz{G:Gl}(hn:(G.map (·.1)).Nodup)(f:Mu)(x:Nat):(∀vs,(x,vs)∈G->glM G f x=some ⟨x,0,vs.length,1⟩)/\((∀vs,(x,vs) ∉ G)->glM G f x=f x):=by
 induction G with
 |nil=>exact⟨λvs h=>by(cases h),λ_=>rfl⟩
 |cons q G ih=>
  obtain⟨g,us⟩:=q;rw[List.map_cons,List.nodup_cons]at hn;obtain⟨i1,i2⟩:=ih hn.2;refine⟨λvs h=> ?_,λh=> ?_⟩
  ·rcases List.mem_cons.1 h with h|h
   ·cases h;simp[glM]
   ·have:x≠g:=λe=>hn.1 (List.mem_map.2 ⟨(x,vs),h,e⟩);simp only[glM,if_neg this];exact i1 vs h
  ·have:x≠g:=λe=>h us (by rw[e];exact List.mem_cons_self);simp only[glM,if_neg this];exact i2 λvs hv=>h vs (List.mem_cons_of_mem _ hv)
theorem kL{n:Nat}(h:n<Tryz.prog.globals.size):n<1000:=by
 have:=qA;omega
theorem Ds{W:World}{G:Gl}(hG:tR W G)(l:List Ob)(x:Nat)(h:1000<=x):(obH G l).get x=(l[x-1000]?).map λo=> .cells o.vs false o.sz:=by
 show eZ (glL G (mP 1000 l)) x=_;rcases xV G (mP 1000 l) x with⟨vs,h1,_⟩|⟨_,h2⟩
 ·have:=kL (hG.ok _ h1).1;simp only at this;omega
 ·rw[h2,uM,if_pos h]
theorem yy{W:World}{G:Gl}(hG:tR W G)(l:List Ob)(x:Nat)(h:1000<=x):obM G l x=(l[x-1000]?).map λo=>⟨o.b,o.d,o.e,o.sz⟩:=by
 unfold obM;rw[(qz hG.nd _ x).2 λvs hv=>by have:=kL (hG.ok _ hv).1;simp only at this;omega,if_pos h]
theorem N7{W:World}{G:Gl}(hG:tR W G)(l:List Ob){g:Nat}{vs:List Value}(h:(g,vs)∈G):(obH G l).get g=some (.cells vs false 1):=by
 show eZ (glL G (mP 1000 l)) g=_;rcases xV G (mP 1000 l) g with⟨us,h1,h2⟩|⟨h1,_⟩
 ·rw[h2];have e:us=vs:=by
   have q1:=(qz hG.nd (λ_=>none) g).1 _ h;clear h2;have hn:=hG.nd;clear hG q1;induction G with
   |nil=>cases h
   |cons q G ih=>
    rw[List.map_cons,List.nodup_cons]at hn;rcases List.mem_cons.1 h with e1|e1
    ·rcases List.mem_cons.1 h1 with e2|e2
     ·rw[←e1]at e2;exact(Prod.mk.inj e2).2
     ·exact(hn.1 (List.mem_map.2 ⟨_,e2,by rw[←e1]⟩)).elim
    ·rcases List.mem_cons.1 h1 with e2|e2
     ·exact(hn.1 (List.mem_map.2 ⟨_,e1,by rw[←e2]⟩)).elim
     ·exact ih e1 e2 hn.2
  rw[e]
 ·exact(h1 vs h).elim
theorem mb{W:World}{G:Gl}(hG:tR W G){l:List Ob}{x:Nat}{a:bO}(h:(obH G l).get x=some a):(∃vs,(x,vs)∈G/\a= .cells vs false 1/\obM G l x=some ⟨x,0,vs.length,1⟩)∨(1000<=x/\∃o,l[x-1000]? =some o/\a= .cells o.vs false o.sz/\obM G l x=some ⟨o.b,o.d,o.e,o.sz⟩):=by
 have h':eZ (glL G (mP 1000 l)) x=some a:=h;rcases xV G (mP 1000 l) x with⟨vs,h1,h2⟩|⟨h1,h2⟩
 ·rw[h2]at h';cases h';exact .inl ⟨vs,h1,rfl,(qz hG.nd _ x).1 vs h1⟩
 ·rw[h2,uM]at h';split at h'
  ·rename_i h8;cases hl:l[x-1000]? with
   |none=>rw[hl]at h';cases h'
   |some o=>
    rw[hl]at h';cases h';exact .inr ⟨h8,o,rfl,rfl,by rw[yy hG l x h8,hl];rfl⟩
  ·cases h'
theorem Ii{W:World}{G:Gl}(hG:tR W G){l:List Ob}{x:Nat}{k:Blk}(h:obM G l x=some k):(∃vs,(x,vs)∈G/\k=⟨x,0,vs.length,1⟩)∨(1000<=x/\∃o,l[x-1000]? =some o/\k=⟨o.b,o.d,o.e,o.sz⟩):=by
 by_cases hg:∃vs,(x,vs)∈G
 ·obtain⟨vs,hv⟩:=hg;have:=(qz hG.nd (λx=>if 1000<=x then(l[x-1000]?).map λo=>(⟨o.b,o.d,o.e,o.sz⟩:Blk)else none) x).1 vs hv;exact .inl ⟨vs,hv,(Option.some.inj (this.symm.trans h)).symm⟩
 ·have:=(qz hG.nd (λx=>if 1000<=x then(l[x-1000]?).map λo=>(⟨o.b,o.d,o.e,o.sz⟩:Blk)else none) x).2 λvs hv=>hg ⟨vs,hv⟩;have h:=this.symm.trans h;split at h
  ·rename_i h8;cases hl:l[x-1000]? with
   |none=>rw[hl]at h;cases h
   |some o=>rw[hl]at h;cases h;exact .inr ⟨h8,o,rfl,rfl⟩
  ·cases h
theorem R.obs{W:World}{G:Gl}(hG:tR W G){l:List Ob}(H:∀o∈l,PA W (obM G l) o):R Tryz.prog (obM G l) (obH G l) W:=by
 refine⟨Nat.le_trans qA (Nat.le_add_right _ _),λg o hgs hx=> ?_,λx o hx=> ?_,λx o hx=> ?_,λx k hk=> ?_,λx y o o' k k' hne hx hy _ _ hk hk' _=> ?_⟩
 ·rcases mb hG hx with⟨vs,h1,rfl,h3⟩|⟨h8,_⟩
  ·obtain⟨_,⟨t,fz,hw⟩,_⟩:=hG.ok _ h1;refine⟨_,h3,rfl,rfl,λ_ _ c' t' fz' hc'=> ?_⟩;rw[hw]at hc';cases hc';show vs.length=vs.toArray.size;simp
  ·have:=kL hgs;omega
 ·rcases mb hG hx with⟨vs,h1,rfl,h3⟩|⟨h8,ob,hl,rfl,h3⟩
  ·obtain⟨_,⟨t,fz,hw⟩,hn⟩:=hG.ok _ h1;intro k hk;rw[h3]at hk;cases hk;refine⟨rfl,vs.toArray,t,fz,hw,by show 0+vs.length<=vs.length;omega,by simp,λi hi=> ?_,λh=>by cases h⟩;refine⟨vs[i],by show vs.toArray[0+i]? =_;rw[Nat.zero_add,List.getElem?_toArray,List.getElem?_eq_getElem hi],?_⟩;have e:gv vs i=vs[i]'hi:=by unfold gv;rw[cA,List.getElem?_eq_getElem hi];rfl
   rw[e];exact(VR.cT (hn _ (List.getElem_mem _))).1
  ·intro k hk;rw[h3]at hk;cases hk;obtain⟨c,el,fz,hW,h1,h2,hv⟩:=(H ob (List.mem_of_getElem? hl)).ok;exact⟨rfl,c,el,fz,hW,h1,h2,hv,λh=>by cases h⟩
 ·rcases mb hG hx with⟨vs,h1,rfl,h3⟩|⟨h8,ob,hl,rfl,h3⟩
  ·have:=kL (hG.ok _ h1).1;show x<1000+l.length;simp only at this;omega
  ·have:=(List.getElem?_eq_some_iff.1 hl).1;show x<1000+l.length;omega
 ·rcases Ii hG hk with⟨vs,h1,rfl⟩|⟨h8,ob,hl,rfl⟩
  ·obtain⟨hlt,⟨t,fz,hw⟩,hn⟩:=hG.ok _ h1;have:=kL hlt;exact⟨by show x<1000+l.length;simp only at this;omega,(Array.getElem?_eq_some_iff.1 hw).1⟩
  ·have:=(List.getElem?_eq_some_iff.1 hl).1;obtain⟨c,el,fz,hW,_⟩:=(H ob (List.mem_of_getElem? hl)).ok;exact⟨by show x<1000+l.length;omega,(Array.getElem?_eq_some_iff.1 hW).1⟩
 ·rcases mb hG hx with⟨vs,h1,rfl,h3⟩|⟨h8,ob,hl,rfl,h3⟩<;>rcases mb hG hy with⟨vs',h1',rfl,h3'⟩|⟨h8',ob',hl',rfl,h3'⟩<;>exact⟨rfl,rfl⟩
theorem N8{W:World}{G:Gl}(hG:tR W G){l:List Ob}:∀b o,(obH G l).get b=some o->o.ro=true∨o.live=false:=λb o hx=>by
 rcases mb hG hx with⟨vs,h1,rfl,h3⟩|⟨h8,ob,hl,rfl,h3⟩<;>exact .inl rfl
theorem oQ:∀(l:List Ob) (n:Nat),((mP n l).map (·.1)).Nodup/\∀b∈(mP n l).map (·.1),n<=b/\b<n+l.length
 |[],n=>⟨by simp[mP],λb hb=>by simp[mP]at hb⟩
 |o::l,n=>by
  obtain⟨h1,h2⟩:=oQ l (n+1);refine⟨?_,λb hb=> ?_⟩
  ·simp only[mP,List.map_cons,List.nodup_cons];exact⟨λq=>by have:=(h2 n q).1;omega,h1⟩
  ·simp only[mP,List.map_cons,List.mem_cons]at hb;rcases hb with rfl|hb
   ·simp
   ·have:=h2 b hb;simp only[List.length_cons];omega
theorem uu:∀{G:Gl} {l:List (Nat×bO)},(glL G l).map (·.1)=G.map (·.1)++l.map (·.1)
 |[],l=>rfl
 |(g,vs)::G,l=>by
  show g::(glL G l).map (·.1)=_;rw[uu];rfl
theorem KW{W:World}{G:Gl}(hG:tR W G)(l:List Ob):Rdy (obH G l):=by
 refine⟨⟨?_,λb hb=> ?_⟩,rfl⟩
 ·show((glL G (mP 1000 l)).map (·.1)).Nodup;rw[uu,List.nodup_append];refine⟨hG.nd,(oQ l 1000).1,λa ha b hb e=> ?_⟩;obtain⟨q,hq,rfl⟩:=List.mem_map.1 ha;have h1:=kL (hG.ok _ hq).1;have h2:=((oQ l 1000).2 b hb).1;omega
 ·have hb':b∈(glL G (mP 1000 l)).map (·.1):=hb;rw[uu]at hb';show b<1000+l.length;rcases List.mem_append.1 hb' with q|q
  ·obtain⟨q,hq,rfl⟩:=List.mem_map.1 q;have h1:=kL (hG.ok _ hq).1;omega
  ·exact((oQ l 1000).2 b q).2
theorem iI.lay{W:World}{G:Gl}(hG:tR W G){sz n:Nat}{sl:Value}{cs:List Value}(s:iI W sz sl n cs):∃ob:List Ob,(∀μ,∀o∈ob,PA W μ o)/\∀(L:List Ob) (i:Nat),(∀o,ob[0]? =some o->L[i]? =some o)->∃a c,VR (obM G L) (.slice a n c) sl/\bS (obH G L) sz (.slice a n c) n cs/\c<UNK:=by
 cases s with
 |nil=>exact⟨[],(λ_ o ho=>by cases ho),λL i _=>⟨none,0, .iN _ _, .nil,by unfold UNK;omega⟩⟩
 | @empty b o cap c el fz hW hc=>
   refine⟨[⟨[],sz,b,0,0⟩],λμ o' ho=> ?_,λL i hL=> ?_⟩
   ·rw[List.mem_singleton.1 ho];exact⟨c,el,fz,hW,Nat.le_refl _,Nat.zero_le _,λi hi=>by cases hi⟩
   ·have hi:=hL _ rfl;have hg:(obH G L).get (1000+i)=some (.cells [] false sz):=by rw[Ds hG _ _ (by omega),show 1000+i-1000=i by omega,hi];rfl
    have hm:obM G L (1000+i)=some ⟨b,0,0,sz⟩:=by rw[yy hG _ _ (by omega),show 1000+i-1000=i by omega,hi];rfl
    have hlt:=(List.getElem?_eq_some_iff.1 hi).1;refine⟨some ⟨1000+i,o,none⟩,cap,?_, .mem ⟨by show 1000+i<1000+L.length;omega,⟨[],false,sz,hg,?_⟩,by simp⟩ (Nat.zero_le _),hc⟩
    ·have:=VR.slice (μ:=obM G L) (b:=1000+i) (o:=o) (l:=0) (c:=cap) (k:=⟨b,0,0,sz⟩) hm hc (Nat.zero_le _);simpa using this
    ·rw[cw,List.drop_nil];cases 0*sz<;>rfl
 | @full b o cap _ c el fz _ hW hne hlen hsz hl hc hat hno=>
   have hpos:0<n*sz:=Nat.mul_pos (Nat.pos_of_ne_zero hne) hsz;have hsize:o+n*sz<=c.size:=by
    have h1:=hat (n*sz-1) (by omega);have h2:cs[n*sz-1]? =some (cs[n*sz-1]'(by omega)):=List.getElem?_eq_getElem _;rw[h2]at h1;have:=(Array.getElem?_eq_some_iff.1 h1).1;omega
   refine⟨[⟨cs,sz,b,o,o+n*sz⟩],λμ o' ho=> ?_,λL i hL=> ?_⟩
   ·rw[List.mem_singleton.1 ho];refine⟨c,el,fz,hW,by show o+cs.length<=o+n*sz;omega,hsize,λi hi=> ?_⟩;have hi':i<cs.length:=hi;have h2:cs[i]? =some (cs[i]'hi'):=List.getElem?_eq_getElem _;refine⟨_,(hat i (by omega)).trans h2,?_⟩;have e:gv cs i=cs[i]'hi':=by unfold gv;rw[cA,h2];rfl
    show VR μ (gv cs i) _;rw[e];exact(VR.cT (hno _ (List.getElem_mem _))).1
   ·have hi:=hL _ rfl;have hg:(obH G L).get (1000+i)=some (.cells cs false sz):=by rw[Ds hG _ _ (by omega),show 1000+i-1000=i by omega,hi];rfl
    have hm:obM G L (1000+i)=some ⟨b,o,o+n*sz,sz⟩:=by rw[yy hG _ _ (by omega),show 1000+i-1000=i by omega,hi];rfl
    have hlt:=(List.getElem?_eq_some_iff.1 hi).1;refine⟨some ⟨1000+i,0,none⟩,cap,?_, .mem ⟨by show 1000+i<1000+L.length;omega,⟨cs,false,sz,hg,?_⟩,hlen⟩ hl,hc⟩
    ·have:=VR.slice (μ:=obM G L) (b:=1000+i) (o:=0) (l:=n) (c:=cap) (k:=⟨b,o,o+n*sz,sz⟩) hm hc hl;simpa using this
    ·rw[cZ,cw,List.drop_zero,List.take_of_length_le (by omega)]
theorem St.below{μ μ':Mu}{h h':Heap}{W W':World}(s:St μ h W μ' h' W')(hro:∀b o,h.get b=some o->o.ro=true∨o.live=false):Below W.heap.size W W':=
 ⟨s.same.os,s.same.tape,s.same.out,s.le,λr hr=>s.keep r hr λ⟨b,o,k,g1,g2,g3,_⟩=>by
  rcases hro b o g1 with q|q
  ·rw[q]at g3;cases g3
  ·rw[q]at g2;cases g2⟩
end Go.A.Pk
end
section
namespace Go.A.Pk
open Go Go.Proofs Go.Joins Go.ChangeShapes Go.WideShapes Go.RowKit Go.Deep
section
variable {H:Type} {enc:TypeId×Value->H} {W:World} {base:Nat} {spare:Nat->Bool} {held:Bool}
theorem nE:Tryz.prog.cellsOf 3=1:=by kernel_rfl
theorem Kh:Tryz.prog.cellsOf 34=1:=by kernel_rfl
theorem qq:Tryz.prog.cellsOf 36=8:=by kernel_rfl
theorem lK{fuel:Nat}{cs:List Value}{x:DataW H×List MemPlace}(h:DataW.trod enc Tryz.prog W base spare held fuel 36 cs=some x):∃pl,IsS pl/\cs=us pl:=by
 obtain⟨xs,m,_,_,hl,hxl,hg⟩:=DataW.trod_array Tryz.underlying36 h;rw[qq]at hl;have key:∀i,i<8->∃n:Nat,n<U64/\cs[i]? =some (.int .u64 (n:Int)):=λi hi=>by
  have hg:=hg i hi;rw[Kh]at hg;have hx:xs[i]? =some xs[i]:=List.getElem?_eq_getElem (by omega);rw[hx]at hg;obtain⟨z,hz,_,hw⟩:=DataW.trod_int Tryz.underlying34 hg;have hb:0<=z/\z<=18446744073709551615:=by
   simpa[Lit.wf,IntKind.min,IntKind.max,IntKind.signed,IntKind.bits]using hw
  obtain⟨n,rfl⟩:=Int.eq_ofNat_of_zero_le hb.1;refine⟨n,by unfold U64;omega,?_⟩;have hz2:(cs.drop (i*1)).take 1=[Value.int .u64 (n:Int)]:=hz;have hz':((cs.drop (i*1)).take 1)[0]? =some (.int .u64 (n:Int)):=by rw[hz2];rfl
  rw[List.getElem?_take_of_lt (by omega),List.getElem?_drop]at hz';simpa using hz'
 let f:Value->Nat:=λv=>match v with| .int _ n=>n.toNat|_=>0
 refine⟨cs.map f,⟨by simpa using hl,λx hx=> ?_⟩,?_⟩
 ·obtain⟨y,hy,rfl⟩:=List.mem_map.1 hx;obtain⟨i,hi,rfl⟩:=List.mem_iff_getElem.1 hy;obtain⟨n,hn,hk⟩:=key i (by omega);rw[List.getElem?_eq_getElem hi,Option.some.injEq]at hk;rw[hk];exact hn
 ·apply List.ext_getElem?;intro i;by_cases hi:i<8
  ·obtain⟨n,hn,hk⟩:=key i hi;rw[hk];simp only[us,List.getElem?_map,hk,z7];rfl
  ·rw[List.getElem?_eq_none (by omega),List.getElem?_eq_none (by rw[aI,List.length_map];omega)]
theorem add_eq(b o n:Nat):(Addr.mk b o none).add n=⟨b,o+n,none⟩:=by
 unfold Addr.add;by_cases h:n=0
 ·rw[if_pos h,h,Nat.add_zero]
 ·rw[if_neg h]
instance:Inhabited Rd:=⟨⟨0,0,0,[],0⟩⟩
end
def JD:List Value:=zZ.map λn=> .int .u8 (n:Nat)
abbrev vJ(W:World):Prop:=∃t fz,W.heap[0]? =some (.cells JD.toArray t fz)
theorem vJ.gl{W:World}(h:vJ W):tR W [(0,JD)]:=by
 refine⟨λq hq=> ?_,by simp⟩;rw[List.mem_singleton.1 hq];refine⟨of_decide_eq_true (by kernel_rfl),h,λv hv=> ?_⟩;simp only[JD,List.mem_map]at hv;obtain⟨n,_,rfl⟩:=hv;rfl
theorem wT:Tryz.prog.globalNamed "math/bits.deBruijn64tab" =some 0:=by kernel_rfl
theorem JF:(Tryz.prog.globals[0]?).map (·.type)=some 222:=by kernel_rfl
theorem JE:∃e,Tryz.prog.underlying 222=some (.array 64 e)/\Tryz.prog.underlying e=some (.int .u8)/\Tryz.prog.cellsOf e=1/\Tryz.prog.cellsOf 222=64:=⟨_,Tryz.underlying222,by kernel_rfl,by kernel_rfl,by kernel_rfl⟩
theorem O4{W:World}{d:DataW Unit}{rest:List (String×DataW Unit)}(hd:d=Lib.tabData .u8 (zZ.map fun n:Nat=>(n:Int)))(h:laidMet Tryz.prog (("math/bits.deBruijn64tab",d)::rest) W):vJ W:=by
 subst hd;obtain⟨e,h1,h2,h3,h4⟩:=JE;have hT:=Lib.tabIs_of_head wT JF h1 h2 h3 h4 h;unfold Lib.TabIs World.var? at hT;rw[wT]at hT;simp only[Option.bind_some]at hT;split at hT
 ·rename_i c t fz he;refine⟨t,fz,he.trans ?_⟩;have:c=JD.toArray:=by
   rw[Option.some.inj hT];simp[JD,List.map_map,Function.comp_def]
  rw[this]
 ·cases hT
end Go.A.Pk
end
section
namespace Go.A.Pk
variable {T:Nat->Option af}
def wL(w:List Nat×List Nat):List Value:=us w.1++us w.2
def wV(w:List Nat×List Nat):Value:= .agg (wL w).toArray
structure IsW (w:List Nat×List Nat):Prop where
 a:IsS w.1
 b:IsS w.2
theorem iq{w:List Nat×List Nat}(h:IsW w):(wL w).length=16:=by
 simp[wL,aI,h.a.len,h.b.len]
theorem Mb{w:List Nat×List Nat}(h:IsW w):bB 8 (bA (0+0) (wL w))=us w.1:=by
 rw[cZ,cw,Nat.zero_add,List.drop_zero];show(us w.1++us w.2).take 8=_;rw[List.take_append_of_le_length (by rw[aI,h.a.len];omega),List.take_of_length_le (by rw[aI,h.a.len];omega)]
theorem JK{w:List Nat×List Nat}(h:IsW w):bB 8 (bA (0+8) (wL w))=us w.2:=by
 rw[cZ,cw,Nat.zero_add];show((us w.1++us w.2).drop 8).take 8=_;rw[List.drop_append_of_le_length (by rw[aI,h.a.len];omega),List.drop_of_length_le (by rw[aI,h.a.len];omega),List.nil_append,List.take_of_length_le (by rw[aI,h.b.len];omega)]
theorem zI{w:List Nat×List Nat}(h:IsW w):bB 16 (bA 0 (wL w))=wL w:=by
 rw[cZ,cw,List.drop_zero,List.take_of_length_le (by rw[iq h];omega)]
theorem mU{w:List Nat×List Nat}(h:IsW w):Nat.beq (bK (wL w)) 16=true:=by rw[bM,iq h];rfl
theorem DO(w:List Nat×List Nat):cK (wL w)=true:=dL (cg _) (cg _)
theorem Mc{w:List Nat×List Nat}{s:List Nat}(h:IsW w)(hs:IsS s):bZ (wL w) 0 (us s)=wL (s,w.2):=by
 rw[gM (by rw[iq h,aI,hs.len];omega),aI,hs.len,List.take_zero];show []++us s++(us w.1++us w.2).drop 8=us s++us w.2;rw[List.drop_append_of_le_length (by rw[aI,h.a.len];omega),List.drop_of_length_le (by rw[aI,h.a.len];omega)];simp
theorem Md{w:List Nat×List Nat}{s:List Nat}(h:IsW w)(hs:IsS s):bZ (wL w) 8 (us s)=wL (w.1,s):=by
 rw[gM (by rw[iq h,aI,hs.len];omega),aI,hs.len];show(us w.1++us w.2).take 8++us s++(us w.1++us w.2).drop 16=us w.1++us s;rw[List.take_append_of_le_length (by rw[aI,h.a.len];omega),List.take_of_length_le (by rw[aI,h.a.len];omega),List.drop_of_length_le (by simp[aI,h.a.len,h.b.len])];simp
def w0:List Nat×List Nat:=(s0,s0)
theorem dI{h:Heap}{base:Nat}(hb:base<=h.next)(o o':bO):Ext h ((h.push o).wr base h.next o'):=⟨Nat.le_succ _,Heap.aq hb,λb hb=>by
 rw[z5 (by omega),z4 hb],λw=>(w.push _).as (AS.wr base _ _ _)⟩
theorem ef{h:Heap}{base:Nat}(vs ws:List Value):((h.push (.cells vs true 1)).wr base h.next (.cells ws true 1)).get h.next=some (.cells ws true 1):=by rw[z6,z3];rfl
end Go.A.Pk
end
