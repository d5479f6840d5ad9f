/- Walks of functions, plain laws, the table. -/
import Derived.Test.YtgffeapobcfigaaGreatDoorMU3
import Derived.Test.YtgffeapobcfigaaGreatDoorMF
import Derived.Test.YtgffeapobcfigaaGreatDoorMU2
import Derived.Test.YtgffeapobcfigaaGreatDoorMD
set_option linter.all false
section
set_option maxRecDepth 100000
namespace Go.A.Pk
variable {T:Nat→Option af}
def z8:List Nat:=[0,0,0,0,0,0,0,0]
theorem Mi(f:List Nat)(i k:Nat):(fL f).set (0+i*1) (.int .u8 (k:Nat))=fL (f.set i k):=by
 rw[Nat.zero_add,Nat.mul_one];unfold fL;rw[List.map_set]
end Go.A.Pk
end
section
set_option maxRecDepth 100000
namespace Go.A.Pk
def InC(s:List Nat)(x y z:Nat):Prop:=(x:Int)≤7-(jm s).1.hi.x∧(y:Int)≤7-(jm s).1.hi.y∧(z:Int)≤7-(jm s).1.hi.z
def Rn(a:List Nat)(im:List (List Nat))(p:List Nat):Prop:=∃s∈im,∃x y z:Nat,InC s x y z∧ve (shC x y z) s=p∧sIn p a=true
structure PlI (a:List Nat) (im:List (List Nat)) (i z y x:Nat) (l:List (List Nat)):Prop where
 ok:∀p∈l,IsS p
 pw:l.Pairwise SLt
 sound:∀p∈l,Rn a im p
 comp:∀j s,im[j]? =some s→∀x' y' z':Nat,InC s x' y' z'→(j<i∨j=i∧(z'<z∨z'=z∧(y'<y∨y'=y∧x'<x)))→sIn (ve (shC x' y' z') s) a=true→ve (shC x' y' z') s∈l
end Go.A.Pk
end
section
set_option maxRecDepth 100000
namespace Go.A.Pk
variable {T:Nat→Option af}
theorem bK.Pe{h h':Heap}{sz n:Nat}{v:Value}{cs:List Value}(s:bK h sz v n cs)(hn:h.next≤h'.next)(ha:∀z,z<h.next→h'.get z=h.get z):bK h' sz v n cs:=by
 cases s with
 |nil=>exact .nil
 |mem s hc=>
  obtain⟨vs,own,t,g1,g2⟩:=s.obj
  exact .mem ⟨Nat.lt_of_lt_of_le s.lt hn,⟨vs,own,t,(ha _ s.lt).trans g1,g2⟩,s.len⟩ hc
end Go.A.Pk
end
section
set_option maxRecDepth 100000
namespace Go.A.Pk
structure RH (t:List Nat) (l:List Pb) (f:List Nat):Prop where
 len:f.length=l.length
 at':∀(i:Nat) (p:Pb) (k:Nat),l[i]? =some p→f[i]? =some k→k=0∨k=Qm t p
section
variable {w:List Nat×List Nat} (hw:IsW w) {t:List Nat} (ht:IsS t) (h1:Sub w.1 t) (h2:Sub t w.2) {l:List Pb} (hl:∀p∈l,IsS p.cells)
include hw ht h1 h2 hl
end
end Go.A.Pk
end
section
set_option maxRecDepth 100000
namespace Go.A.Pk
def mnF(g:Nat→Int)(L:List Nat)(c:Int):Int:=L.foldl (fun n p=>min n (g p)) c
theorem iT(g:Nat→Int):∀(L:List Nat) (c:Int),mnF g L c≤c
 |[],c=>Int.le_refl c
 |p::L,c=>Int.le_trans (iT g L (min c (g p))) (Int.min_le_left _ _)
theorem AT(g:Nat→Int):∀{L:List Nat} {c:Int} {p:Nat},p∈L→mnF g L c≤g p
 |x::L,c,p,h=>by
  rcases List.mem_cons.1 h with rfl|h
  ·exact Int.le_trans (iT g L (min c (g p))) (Int.min_le_right _ _)
  ·exact AT g (L:=L) (c:=min c (g x)) h
theorem xu{g:Nat→Int}{d:Int}:∀{L:List Nat} {c:Int},d≤c→(∀p∈L,d≤g p)→d≤mnF g L c
 |[],c,h,_=>h
 |p::L,c,h,hl=>xu (L:=L) (Int.le_min.2 ⟨h,hl p List.mem_cons_self⟩) fun x hx=>hl x (List.mem_cons_of_mem _ hx)
theorem Gi{g g':Nat→Int}{L:List Nat}{c:Int}(h:∀p∈L,g p≤g' p):mnF g L c≤mnF g' L c:=
 xu (iT g L c) fun p hp=>Int.le_trans (AT g hp) (h p hp)
theorem vO{g g':Nat→Int}:∀{L:List Nat} {c:Int},(∀p∈L,g p=g' p)→mnF g L c=mnF g' L c
 |[],_,_=>rfl
 |p::L,c,h=>by
  show mnF g L (min c (g p))=mnF g' L (min c (g' p))
  rw[h p List.mem_cons_self]
  exact vO fun x hx=>h x (List.mem_cons_of_mem _ hx)
theorem Gj(g:Nat→Int)(L:List Nat)(c:Int)(p:Nat):mnF g (L++[p]) c=min (mnF g L c) (g p):=by
 unfold mnF;rw[List.foldl_append];rfl
def gL(n:Nat)(f:List Nat):List Nat:=(List.range n).filter fun p=>decide (f.getD p 0=0)
theorem lQ{n:Nat}{f:List Nat}{p:Nat}:p∈gL n f↔p<n∧f.getD p 0=0:=by
 unfold gL;rw[List.mem_filter,List.mem_range,decide_eq_true_eq]
theorem Dr(n:Nat)(f:List Nat):gL (n+1) f=gL n f++(if f.getD n 0=0 then [n]else []):=by
 unfold gL
 rw[List.range_succ,List.filter_append]
 congr 1
 by_cases h:f.getD n 0=0
 ·rw[if_pos h,List.filter_cons_of_pos (by rw[decide_eq_true_eq];exact h)];rfl
 ·rw[if_neg h,List.filter_cons_of_neg (by rw[decide_eq_true_eq];exact h)];rfl
theorem FE{f:List Nat}{p x a:Nat}(hp:p<f.length):(f.set p a).getD x 0=if x=p then a else f.getD x 0:=by
 rw[List.getD_eq_getElem?_getD,List.getD_eq_getElem?_getD,List.getElem?_set]
 by_cases h:p=x
 ·rw[if_pos h,if_pos h.symm,if_pos (by omega)];rfl
 ·rw[if_neg h,if_neg (fun q=>h q.symm)]
theorem F3{n:Nat}{f:List Nat}{p a:Nat}(hp:p<f.length)(ha:a≠0):gL n (f.set p a)=(gL n f).filter fun x=>decide (x≠p):=by
 unfold gL
 rw[List.filter_filter]
 refine List.filter_congr fun x _=> ?_
 rw[FE hp]
 by_cases h:x=p
 ·rw[if_pos h,decide_eq_false ha,decide_eq_false (by simpa using h)];rfl
 ·rw[if_neg h,decide_eq_true h,Bool.true_and]
theorem Cf{n:Nat}{f:List Nat}{p a:Nat}(hp:p<f.length)(ha:a≠0)(hm:p∈gL n f):(gL n (f.set p a)).length<(gL n f).length:=by
 rw[F3 hp ha,List.length_filter_lt_length_iff_exists]
 exact⟨p,hm,by simp⟩
theorem F2(n:Nat)(f:List Nat):(gL n f).length≤n:=by
 unfold gL
 exact Nat.le_trans (List.length_filter_le _ _) (by rw[List.length_range];exact Nat.le_refl _)
section
variable (w:List Nat×List Nat) (l:List Pb) (ns:List (List (List Nat)))
def kU(f:List Nat):Bool:=bsB w (l.zip f)&&ns.any fun r=>decide (ru (l.zip f) (bsS w.1 (l.zip f)) r=3)
def gW(p:Nat):Int:=(l.getD p ⟨s0,0⟩).cost
def iR:Nat→List Nat→Int
 |0,f=>if kU w l ns f then 100000 else 0
 |k+1,f=>if kU w l ns f then mnF (fun p=>gW l p+max (iR k (f.set p 1)) (iR k (f.set p 2))) (gL l.length f) 100000 else 0
def fu(f:List Nat):Int:=iR w l ns l.length f
end
variable {w:List Nat×List Nat} {l:List Pb} {ns:List (List (List Nat))}
theorem sE:∀{k k':Nat} {f:List Nat},l.length≤f.length→(gL l.length f).length≤k→k≤k'→iR w l ns k' f=iR w l ns k f
 |0,0,f,_,_,_=>rfl
 |0,k'+1,f,_,h,_=>by
  have:gL l.length f=[]:=List.eq_nil_of_length_eq_zero (by omega)
  simp only[iR,this,mnF,List.foldl_nil]
 |k+1,0,f,_,_,h=>by omega
 |k+1,k'+1,f,hf,h,hk=>by
  have key:∀p∈gL l.length f,∀a,a≠0→iR w l ns k' (f.set p a)=iR w l ns k (f.set p a):=fun p hp a ha=>by
   have hpl:=(lQ.1 hp).1
   have:=Cf (a:=a) (by omega) ha hp
   exact sE (by rw[List.length_set];exact hf) (by omega) (by omega)
  simp only[iR]
  rw[vO fun p hp=>(show gW l p+max (iR w l ns k' (f.set p 1)) (iR w l ns k' (f.set p 2))=gW l p+max (iR w l ns k (f.set p 1)) (iR w l ns k (f.set p 2))by rw[key p hp 1 (by omega),key p hp 2 (by omega)])]
theorem KW{f:List Nat}(hf:l.length≤f.length):fu w l ns f=if kU w l ns f then mnF (fun p=>gW l p+max (fu w l ns (f.set p 1)) (fu w l ns (f.set p 2))) (gL l.length f) 100000 else 0:=by
 unfold fu
 have h1:=F2 l.length f
 rw[←sE (k':=l.length+1) hf h1 (by omega)]
 simp only[iR]
theorem sX(hc:∀p∈l,0≤p.cost):∀{k:Nat} {f:List Nat},0≤iR w l ns k f∧iR w l ns k f≤100000
 |0,f=>by unfold iR;split<;>omega
 |k+1,f=>by
  unfold iR
  split
  ·refine⟨xu (by omega) fun p hp=> ?_,iT _ _ _⟩
   have h1:0≤gW l p:=by
    have hpl:=(lQ.1 hp).1
    unfold gW
    rw[List.getD_eq_getElem?_getD,List.getElem?_eq_getElem hpl]
    exact hc _ (List.getElem_mem hpl)
   have h2:=(sX hc (k:=k) (f:=f.set p 1)).1
   have h3:=Int.le_max_left (iR w l ns k (f.set p 1)) (iR w l ns k (f.set p 2))
   omega
  ·omega
theorem CM(hc:∀p∈l,0≤p.cost)(f:List Nat):0≤fu w l ns f∧fu w l ns f≤100000:=sX hc
theorem I6{l:List Pb}{f:List Nat}{x:Pb}{k:Nat}(h:f[l.length]? =some k):(l++[x]).zip f=l.zip f++[(x,k)]:=by
 induction l generalizing f with
 |nil=>
  cases f with
  |nil=>simp at h
  |cons a f=>simp at h;subst h;simp
 |cons p l ih=>
  cases f with
  |nil=>simp at h
  |cons a f=>
   simp only[List.length_cons,List.getElem?_cons_succ]at h
   simp[ih h]
theorem yH(z:Zs)(x:Pb)(s:List Nat):alB (z++[(x,0)]) s=alB z s:=by
 unfold alB;rw[List.all_append];simp
theorem Fb(z:Zs)(x:Pb)(s:List Nat):bsS s (z++[(x,0)])=bsS s z:=by
 unfold bsS;rw[List.foldl_append];rfl
theorem Dk(z:Zs)(x:Pb)(s:List Nat)(r:List (List Nat)):ru (z++[(x,0)]) s r=ru z s r:=by
 unfold ru
 simp only[yH]
theorem uk{f:List Nat}{x:Pb}(h:f[l.length]? =some 0):kU w (l++[x]) ns f=kU w l ns f:=by
 unfold kU bsB
 rw[I6 h]
 simp only[Fb,yH,Dk]
theorem Er{x:Pb}:∀{k:Nat} {f:List Nat},f.length=8→l.length<8→f[l.length]? =some 0→iR w (l++[x]) ns (k+1) f≤iR w l ns k f:=by
 intro k
 induction k with
 |zero=>
  intro f _ _ hz
  simp only[iR]
  rw[uk hz]
  split
  ·exact iT _ _ _
  ·exact Int.le_refl _
 |succ k ih=>
  intro f hf hl hz
  simp only[iR]
  rw[uk hz]
  split
  ·refine xu (iT _ _ _) fun p hp=> ?_
   obtain⟨hpl,hp0⟩:=lQ.1 hp
   have hp':p∈gL (l++[x]).length f:=lQ.2 ⟨by rw[List.length_append,List.length_singleton];omega,hp0⟩
   refine Int.le_trans (AT _ hp') ?_
   have hz':∀a,(f.set p a)[l.length]? =some 0:=fun a=>by rw[List.getElem?_set_ne (by omega)];exact hz
   have e1:=ih (f:=f.set p 1) (by rw[List.length_set];exact hf) hl (hz' 1)
   have e2:=ih (f:=f.set p 2) (by rw[List.length_set];exact hf) hl (hz' 2)
   have e3:gW (l++[x]) p=gW l p:=by
    unfold gW
    rw[List.getD_eq_getElem?_getD,List.getD_eq_getElem?_getD,List.getElem?_append_left hpl]
   simp only[iR]at e1 e2⊢
   rw[e3]
   omega
  ·exact Int.le_refl _
theorem si{r:List (List Nat)}{f:List Nat}(h:kU w l ns f=true):kU w l (ns++[r]) f=true:=by
 unfold kU at h⊢
 rw[List.any_append,Bool.and_eq_true]at*
 exact⟨h.1,by rw[h.2];rfl⟩
theorem pM(hc:∀p∈l,0≤p.cost){r:List (List Nat)}:∀{k:Nat} {f:List Nat},iR w l ns k f≤iR w l (ns++[r]) k f
 |0,f=>by
  cases h:kU w l ns f with
  |true=>simp only[iR,h,si h,if_true,Int.le_refl]
  |false=>
   have:=(sX (w:=w) (ns:=ns++[r]) hc (k:=0) (f:=f)).1
   simp only[iR,h]at this⊢
   simpa using this
 |k+1,f=>by
  cases h:kU w l ns f with
  |true=>
   simp only[iR,h,si h,if_true]
   refine Gi fun p _=> ?_
   have e1:=pM hc (r:=r) (k:=k) (f:=f.set p 1)
   have e2:=pM hc (r:=r) (k:=k) (f:=f.set p 2)
   omega
  |false=>
   have:=(sX (w:=w) (ns:=ns++[r]) hc (k:=k+1) (f:=f)).1
   simp only[iR,h]at this⊢
   simpa using this
def fW(w:List Nat×List Nat)(l:List Pb)(os:List (List Nat)):Int×Int:=
 if kY w l os≠0 then(0,kY w l os)else if lT w=true then(0,82)else if 100000≤fu w l (os.map (fQ w)) z8 then(0,81)else(fu w l (os.map (fQ w)) z8,0)
theorem lI{w:List Nat×List Nat}{l:List Pb}{os:List (List Nat)}:kY w l os=0↔sIn w.1 w.2=true∧os.length≤6∧os.any (fun s=>decide (s=s0))=false∧l.length≤8∧l.any mS=false:=by
 unfold kY prE
 cases sIn w.1 w.2<;>cases os.any (fun s=>decide (s=s0))<;>cases l.any mS<;>by_cases h6:6<os.length<;>by_cases h8:8<l.length<;>simp[h6,h8]<;>omega
theorem Cr{l:List Pb}(h:l.any mS=false):∀p∈l,1≤p.cost∧p.cost≤1000:=fun p hp=>by
 have:=List.any_eq_false.1 h p hp
 unfold mS inR at this
 simp at this
 exact this.2
theorem Qd{n:Nat}(h:n<8):z8[n]? =some 0:=by
 match n,h with
 |0,_=>rfl
 |1,_=>rfl
 |2,_=>rfl
 |3,_=>rfl
 |4,_=>rfl
 |5,_=>rfl
 |6,_=>rfl
 |7,_=>rfl
theorem lK{w:List Nat×List Nat}{l:List Pb}{os:List (List Nat)}:(fW w l os).2=0↔kY w l os=0∧lT w=false∧fu w l (os.map (fQ w)) z8<100000:=by
 unfold fW
 by_cases h1:kY w l os=0
 ·rw[if_neg (by simpa using h1)]
  cases h2:lT w with
  |true=>simp
  |false=>
   rw[if_neg (by simp)]
   by_cases h3:100000≤fu w l (os.map (fQ w)) z8
   ·rw[if_pos h3];simp;omega
   ·rw[if_neg h3];simp[h1];omega
 ·rw[if_pos h1];simp[h1]
theorem C8{w:List Nat×List Nat}{l:List Pb}{os:List (List Nat)}(h:(fW w l os).2=81)(h1:kY w l os≠81):kY w l os=0∧lT w=false∧100000≤fu w l (os.map (fQ w)) z8:=by
 unfold fW at h
 by_cases h1':kY w l os=0
 ·rw[if_neg (by simpa using h1')]at h
  cases h2:lT w with
  |true=>rw[h2]at h;simp at h
  |false=>
   rw[h2,if_neg (by simp)]at h
   by_cases h3:100000≤fu w l (os.map (fQ w)) z8
   ·exact⟨h1',rfl,h3⟩
   ·rw[if_neg h3]at h;simp at h
 ·rw[if_pos h1']at h
  exact absurd h h1
theorem Jg{w:List Nat×List Nat}{l:List Pb}{os:List (List Nat)}:kY w l os≠81:=by
 unfold kY prE
 split
 ·decide
 ·split
  ·decide
  ·split
   ·decide
   ·split
    ·decide
    ·split<;>decide
theorem p9{w:List Nat×List Nat}{l:List Pb}{os:List (List Nat)}(h:(fW w l os).2=0):(fW w l os).1=fu w l (os.map (fQ w)) z8:=by
 obtain⟨h1,h2,h3⟩:=lK.1 h
 unfold fW
 rw[if_neg (by simpa using h1),if_neg (by simp[h2]),if_neg (by omega)]
theorem wz{w:List Nat×List Nat}{l:List Pb}{ns:List (List (List Nat))}{x:Pb}(hl:l.length<8):fu w (l++[x]) ns z8≤fu w l ns z8:=by
 have:=Er (w:=w) (l:=l) (ns:=ns) (x:=x) (k:=l.length) (f:=z8) rfl hl (Qd hl)
 unfold fu
 rw[List.length_append,List.length_singleton]
 exact this
theorem AW{w:List Nat×List Nat}{l:List Pb}{os:List (List Nat)}{x:Pb}(he:(fW w l os).2=0):
 (fW w (l++[x]) os).2≠81∧((fW w (l++[x]) os).2=0→(fW w (l++[x]) os).1≤(fW w l os).1):=by
 obtain⟨h1,h2,h3⟩:=lK.1 he
 have hlen:kY w (l++[x]) os=0→l.length<8:=fun q=>by
  have:=(lI.1 q).2.2.2.1
  rw[List.length_append,List.length_singleton]at this;omega
 refine⟨fun q=> ?_,fun q=> ?_⟩
 ·obtain⟨q1,q2,q3⟩:=C8 q Jg
  have:=wz (w:=w) (ns:=os.map (fQ w)) (x:=x) (hlen q1)
  omega
 ·rw[p9 q,p9 he]
  exact wz (hlen (lK.1 q).1)
theorem AV{w:List Nat×List Nat}{l:List Pb}{os:List (List Nat)}{o:List Nat}(hg:(fW w l (os++[o])).2=0):(fW w l os).2=0∧(fW w l os).1≤(fW w l (os++[o])).1:=by
 obtain⟨h1,h2,h3⟩:=lK.1 hg
 obtain⟨a1,a2,a3,a4,a5⟩:=lI.1 h1
 rw[List.length_append,List.length_singleton]at a2
 rw[List.any_append,Bool.or_eq_false_iff]at a3
 have hc:∀p∈l,0≤p.cost:=fun p hp=>by have:=(Cr a5 p hp).1;omega
 have hv:fu w l (os.map (fQ w)) z8≤fu w l ((os++[o]).map (fQ w)) z8:=by
  rw[List.map_append]
  exact pM hc
 have h0:(fW w l os).2=0:=lK.2 ⟨lI.2 ⟨a1,by omega,a3.1,a4,a5⟩,h2,by omega⟩
 exact⟨h0,by rw[p9 h0,p9 hg];exact hv⟩
end Go.A.Pk
end
section
set_option maxRecDepth 100000
namespace Go.A.Pk
variable {T:Nat→Option af}
def kM(mm:List (List Nat×Int)):List (Value×Value):=mm.map fun x=>(fV x.1, .int .i64 x.2)
theorem wZ:∀{f g:List Nat} {n:Nat},f.length=n→g.length=n→bG (aT n (.i .u8)) (fL f) (fL g)=some (decide (f=g))
 |[],[],n,h1,_=>by subst h1;rfl
 |[],_::_,n,h1,h2=>by subst h1;simp at h2
 |_::_,[],n,h1,h2=>by subst h2;simp at h1
 |a::f,b::g,n,h1,h2=>by
  subst h1
  have ih:=wZ (f:=f) (g:=g) (n:=f.length) rfl (by simpa using h2)
  show bG (.i .u8::aT f.length (.i .u8)) (.int .u8 (a:Nat)::fL f) (.int .u8 (b:Nat)::fL g)=_
  have e:iD (.i .u8) (.int .u8 ((a:Nat):Int)) (.int .u8 ((b:Nat):Int))=some (decide (a=b)):=by
   simp only[iD,if_true,Option.some.injEq]
   by_cases h:a=b
   ·subst h;simp
   ·rw[decide_eq_false h];simp;omega
  unfold bG
  rw[e]
  by_cases h:a=b
  ·subst h
   rw[decide_eq_true rfl,ih]
   simp
  ·rw[decide_eq_false h,ih]
   simp[h]
theorem kA(f:List Nat):cellsOf (fV f)=fL f:=by show(fL f).toArray.toList=_;simp
theorem FT{f:List Nat}(hf:f.length=8):jr true (aT 8 (.i .u8)) (fV f)=true:=by
 unfold jr
 rw[kA,wZ hf hf]
 rfl
theorem Mn{f g:List Nat}(hf:f.length=8)(hg:g.length=8):nu true (aT 8 (.i .u8)) (fV f) (fV g)=some (decide (f=g)):=by
 unfold nu
 rw[kA,kA,wZ hf hg]
 rfl
def oM(f:List Nat):Nat→List (List Nat×Int)→Option (Nat×Int)
 |_,[]=>none
 |i,x::mm=>if f=x.1 then some (i,x.2)else oM f (i+1) mm
theorem findF{f:List Nat}(hf:f.length=8):∀{mm:List (List Nat×Int)} {i:Nat},(∀x∈mm,x.1.length=8)→mR true (aT 8 (.i .u8)) (fV f) i (kM mm)=some ((oM f i mm).map fun p=>(p.1, .int .i64 p.2))
 |[],_,_=>rfl
 |x::mm,i,h=>by
  show mR true (aT 8 (.i .u8)) (fV f) i ((fV x.1, .int .i64 x.2)::kM mm)=_
  unfold mR oM
  rw[Mn hf (h x List.mem_cons_self)]
  by_cases e:f=x.1
  ·rw[decide_eq_true e,if_pos e];rfl
  ·rw[decide_eq_false e,if_neg e]
   exact findF hf fun y hy=>h y (List.mem_cons_of_mem _ hy)
theorem vK{f:List Nat}:∀{mm:List (List Nat×Int)} {i j:Nat} {v:Int},oM f i mm=some (j,v)→(f,v)∈mm
 |x::mm,i,j,v,h=>by
  unfold oM at h
  split at h
  ·rename_i e
   cases h
   rw[e]
   exact List.mem_cons_self
  ·exact List.mem_cons_of_mem _ (vK h)
def AO(mm:List (List Nat×Int))(f:List Nat)(v:Int):List (List Nat×Int):=
 match oM f 0 mm with
 |some (i,_)=>mm.set i (f,v)
 |none=>mm++[(f,v)]
theorem Gg(mm:List (List Nat×Int))(i:Nat)(f:List Nat)(v:Int):pg (kM mm) i (fV f, .int .i64 v)=kM (mm.set i (f,v)):=by
 rw[j4];unfold kM;rw[List.map_set]
theorem Gf(mm:List (List Nat×Int))(f:List Nat)(v:Int):dI (kM mm) [(fV f, .int .i64 v)]=kM (mm++[(f,v)]):=by
 rw[dD];unfold kM;rw[List.map_append];rfl
theorem F8{mm:List (List Nat×Int)}{f:List Nat}{v:Int}{x:List Nat×Int}(h:x∈AO mm f v):x=(f,v)∨x∈mm:=by
 unfold AO at h
 split at h
 ·exact(List.mem_or_eq_of_mem_set h).symm
 ·rcases List.mem_append.1 h with h|h
  ·exact .inr h
  ·exact .inl (List.mem_singleton.1 h)
def pV(w:List Nat×List Nat)(l:List Pb)(ns:List (List (List Nat)))(mm:List (List Nat×Int)):Prop:=∀x∈mm,x.1.length=8∧x.2=fu w l ns x.1
theorem pV.put{w:List Nat×List Nat}{l:List Pb}{ns:List (List (List Nat))}{mm:List (List Nat×Int)}(h:pV w l ns mm){f:List Nat}(hf:f.length=8):pV w l ns (AO mm f (fu w l ns f)):=fun x hx=>by
 rcases F8 hx with rfl|hx
 ·exact⟨hf,rfl⟩
 ·exact h x hx
theorem BS{base:Nat}{h:Heap}{e:Env}{m k:Operand}{r:Nat}{mm:List (List Nat×Int)}{f:List Nat}{u:Value}(hm:ev h e m=some (.map (some r)))(hk:ev h e k=some (fV f))(hr:h.get r=some (.map (kM mm)))(hf:f.length=8)(h8:∀x∈mm,x.1.length=8)
 (hu:(match oM f 0 mm with|some (_,v)=>Value.tuple #[.int .i64 v, .bool true]|none=> .tuple #[.int .i64 0, .bool false])=u):aop h base e (.lookup true (aT 8 (.i .u8)) (.int .i64 0) true m k)=some (.val u h):=by
 subst hu
 simp only[aop,hm,hk,hr,u9,FT hf,cond_true,findF hf h8]
 cases oM f 0 mm<;>rfl
theorem EJ{base:Nat}{h:Heap}{e:Env}{m k v:Operand}{r:Nat}{mm:List (List Nat×Int)}{f:List Nat}{n:Int}(hm:ev h e m=some (.map (some r)))(hk:ev h e k=some (fV f))(hv:ev h e v=some (.int .i64 n))(hr:h.get r=some (.map (kM mm)))(hf:f.length=8)(h8:∀x∈mm,x.1.length=8):
 aop h base e (.kT true (aT 8 (.i .u8)) m k v)=some (.val (.tuple #[]) (h.wr base r (.map (kM (AO mm f n))))):=by
 simp only[aop,hm,hk,hv,hr,FT hf,cond_true,findF hf h8]
 unfold AO
 cases oM f 0 mm with
 |none=>simp only[Option.map_none,Gf]
 |some p=>simp only[z7,Gg]
theorem wA{base:Nat}{e:Env}{h:Heap}{ops:List aW}{bf:List Nat}{rs rs':List Rec}{Q:Env→Heap→Prop}{i mask:Nat}{is:List Nat}{dst:Option Nat}{m k v:Operand}{g:Option (Nat×Bool)}{er:Env}{r:Nat}{mm:List (List Nat×Int)}{f:List Nat}{n:Int}(ho:bH ops i=some ⟨dst, .kT true (aT 8 (.i .u8)) m k v,g⟩)(hm:bH bf i=some mask)
 (he:bE e (bS ⟨dst, .kT true (aT 8 (.i .u8)) m k v,g⟩)=er)(hw:bC er g=some true)(hmv:ev {h with log:=[]} er m=some (.map (some r)))(hk:ev {h with log:=[]} er k=some (fV f))(hv:ev {h with log:=[]} er v=some (.int .i64 n))(hr:h.get r=some (.map (kM mm)))(hf:f.length=8)(h8:∀x∈mm,x.1.length=8)(hlt:r<h.next)
 (hrs:aZ (h.wr base r (.map (kM (AO mm f n)))) base [r] mask rs=some rs')
 (H:WD T base ops bf Q is rs' (bM e dst (.tuple #[])) (h.wr base r (.map (kM (AO mm f n))))):WD T base ops bf Q (i::is) rs e h:=
 jk ho hm he hw rfl (EJ (h:={h with log:=[]}) hmv hk hv hr hf h8) (AF hlt _) (qj hlt _) hrs H
structure QuH (h:Heap) (q m:Nat) (w:List Nat×List Nat) (pv nv ov:Value) (l:List Pb) (os:List (List Nat)) (ns:List (List (List Nat))):Prop where
 hw:IsW w
 gq:h.get q=some (.cells (quL w pv nv ov (.map (some m))) true 1)
 sp:PbS h pv l
 hl:l.length≤8
 so:SsQ h ov os
 hol:os.length<1000000
 sn:NdS h nv ns
 hns:ns.length=os.length
 hrn:∀r∈ns,r.length<1000000
 mem:∃mm,h.get m=some (.map (kM mm))∧pV w l ns mm
theorem bK.Cd{h h':Heap}{sz n m:Nat}{es:List (Value×Value)}{v:Value}{cs:List Value}(s:bK h sz v n cs)(hm:h.get m=some (.map es))(hn:h.next≤h'.next)(ha:∀z,z<h.next→z≠m→h'.get z=h.get z):bK h' sz v n cs:=by
 cases s with
 |nil=>exact .nil
 |mem s hc=>
  obtain⟨vs,own,t,g1,g2⟩:=s.obj
  refine .mem ⟨Nat.lt_of_lt_of_le s.lt hn,⟨vs,own,t,(ha _ s.lt fun e=> ?_).trans g1,g2⟩,s.len⟩ hc
  subst e
  rw[g1]at hm;cases hm
theorem QuH.keep{h h':Heap}{q m:Nat}{w:List Nat×List Nat}{pv nv ov:Value}{l:List Pb}{os:List (List Nat)}{ns:List (List (List Nat))}(Q:QuH h q m w pv nv ov l os ns)(hwf:WF h)(hn:h.next≤h'.next)(ha:∀z,z<h.next→z≠m→h'.get z=h.get z)(hm:∃mm,h'.get m=some (.map (kM mm))∧pV w l ns mm):QuH h' q m w pv nv ov l os ns:=by
 obtain⟨mm,g1,_⟩:=Q.mem
 obtain⟨vals,s1,s2⟩:=Q.sn.ex
 refine⟨Q.hw,(ha q (hwf.ef Q.gq) fun e=> ?_).trans Q.gq,⟨bK.Cd Q.sp.sl g1 hn ha,Q.sp.ok⟩,Q.hl,⟨bK.Cd Q.so.sl g1 hn ha,Q.so.ok⟩,Q.hol,⟨vals,bK.Cd s1 g1 hn ha,fun i r hi=> ?_⟩,Q.hns,Q.hrn,hm⟩
 ·have:=Q.gq
  rw[e,g1]at this;cases this
 ·obtain⟨v,hv,sv⟩:=s2 i r hi
  exact⟨v,hv,⟨bK.Cd sv.sl g1 hn ha,sv.ok⟩⟩
theorem QuH.ext{h h':Heap}{q m:Nat}{w:List Nat×List Nat}{pv nv ov:Value}{l:List Pb}{os:List (List Nat)}{ns:List (List (List Nat))}(Q:QuH h q m w pv nv ov l os ns)(hwf:WF h)(x:Ext h h'):QuH h' q m w pv nv ov l os ns:=by
 refine Q.keep hwf x.next (fun z hz _=>x.old z hz) ?_
 obtain⟨mm,g1,g2⟩:=Q.mem
 exact⟨mm,(x.old m (hwf.ef g1)).trans g1,g2⟩
theorem QuH.log{h:Heap}{q m:Nat}{w:List Nat×List Nat}{pv nv ov:Value}{l:List Pb}{os:List (List Nat)}{ns:List (List (List Nat))}(Q:QuH h q m w pv nv ov l os ns)(lg:List Nat):QuH {h with log:=lg} q m w pv nv ov l os ns:=
 ⟨Q.hw,Q.gq,Q.sp.log lg,Q.hl,Q.so.log lg,Q.hol,Q.sn.log lg,Q.hns,Q.hrn,Q.mem⟩
structure yy (T:Nat→Option af):Prop where
 qu:BO T
 f108:T 108=some f108
 f147:T 147=some f147
 f149:T 149=some f149
 f228:T 228=some f228
set_option maxHeartbeats 4000000 in
theorem CO(F:yy T){h:Heap}(hr:Rdy h){f:List Nat}(hf:f.length=8){p a:Nat}(hp:p<8):
 Pu T 149 [fV f, .int .i64 (p:Nat), .int .u8 (a:Nat)] h (fV (f.set p a)):=by
 refine .of F.qu.p F.f149 hr ?_ ?_
 ·show cS (fL (f.set p a)).toArray.toList=true
  rw[List.toList_toArray]
  generalize f.set p a=f
  induction f with
  |nil=>rfl
  |cons a f ih=>exact ih
 have hfc:=kA f
 have x0:Ext h ((h.push (.cells (cellsOf (fV f)) true 1)).push (.cells (aT 8 (.int .u8 0)) true 1)):=((Ext.refl h).push _).push _
 have g0:((h.push (.cells (cellsOf (fV f)) true 1)).push (.cells (aT 8 (.int .u8 0)) true 1)).get h.next=some (.cells (fL f) true 1):=by rw[hfc];exact(z4 (Nat.lt_succ_self _)).trans (z3 h _)
 have g1:((h.push (.cells (cellsOf (fV f)) true 1)).push (.cells (aT 8 (.int .u8 0)) true 1)).get (h.next+1)=some (.cells (fL z8) true 1):=z3 _ _
 have n0:((h.push (.cells (cellsOf (fV f)) true 1)).push (.cells (aT 8 (.int .u8 0)) true 1)).next=h.next+2:=rfl
 refine y4 ?_;refine yB ?_;refine an (dL) ?_;refine y3 ?_
 generalize((h.push (.cells (cellsOf (fV f)) true 1)).push (.cells (aT 8 (.int .u8 0)) true 1))=H at*
 have hnx:(h.push (.cells (cellsOf (fV f)) true 1)).next=h.next+1:=rfl
 rw[hnx]
 clear hnx
 have W:=x0.wf hr.wf
 have hL:=x0.log.trans hr.log
 have hset:=Mi f p a
 have hfl2:(fL f).length=8:=by rw[og];exact hf
 have hzl:(fL z8).length=8:=rfl
 have hsl:(f.set p a).length=8:=by rw[List.length_set];exact hf
 have ks1:=ri hsl
 have ks2:=oh hsl
 have ks3:(fL (f.set p a)).length=8:=by rw[og];exact hsl
 have ks4:=B5 (f.set p a)
 generalize f.set p a=g at*
 refine y4 ?_;refine yM ?_;refine yM ?_;refine an (eY (by exact rfl) (by exact rfl) (by omega)) ?_;refine an (yG (by exact rfl) (by exact rfl) (by assumption) (by exact rfl) (by exact rfl) (by omega)) ?_;refine y3 ?_
 rw[hset]
 refine y4 ?_;refine an (ct (by exact rfl) (by(simp(disch:=first|omega|(simp only[z1,z2];omega))only[z3,z4,z5,z6,z7,z1,z2,g0,g1];exact rfl)) (by assumption) (by assumption)) ?_
 refine an (dg (by exact rfl) (by exact rfl) (by(simp(disch:=first|omega|(simp only[z1,z2];omega))only[z3,z4,z5,z6,z7,z1,z2,g0,g1];exact rfl)) (by assumption) (by assumption) (by assumption)) ?_;refine y3 ?_;refine aG ?_
 refine aD ?_ (dJ (own:=true) (s:=1) rfl ?_ ks1 ks2 rfl) rfl
 ·rw[Heap.aN (by omega),Heap.aN (by omega)];exact hL
 ·(simp(disch:=first|omega|(simp only[z1,z2];omega))only[z3,z4,z5,z6,z7,z1,z2,g0,g1];done)
set_option maxHeartbeats 4000000 in
theorem Jy(F:yy T){h:Heap}(hr:Rdy h)(q:Value)(f:List Nat)(hq:cellsOf q=[q]):
 Al T 147 [q,fV f] h fun v h'=>v= .func (.func 228) #[] #[.pointer (some ⟨h.next,0,none⟩), .pointer (some ⟨h.next+1,0,none⟩)]∧h'.next=h.next+2∧h'.get h.next=some (.cells [q] true 1)∧h'.get (h.next+1)=some (.cells (fL f) true 1):=by
 refine .of F.qu.p F.f147 hr ?_ ?_
 ·rintro v h1 hv ⟨rfl,_⟩
  cases hv
 have hfc:=kA f
 refine y4 ?_;refine yB ?_;refine yB ?_;refine yM ?_;refine y3 ?_;refine y4 ?_
 refine an (gK (by exact rfl) (by exact rfl)) ?_;refine yM ?_;refine y3 ?_;refine aG ?_
 refine ej hr.log rfl ⟨rfl,rfl,?_,?_⟩
 ·rw[hq];exact(z4 (Nat.lt_succ_self _)).trans (z3 h _)
 ·rw[←hfc];exact z3 _ _
set_option maxHeartbeats 8000000 in
theorem Jz(F:yy T){h:Heap}(hr:Rdy h){q m:Nat}{w:List Nat×List Nat}{pv nv ov:Value}{l:List Pb}{os:List (List Nat)}{ns:List (List (List Nat))}(Qh:QuH h q m w pv nv ov l os ns){f:List Nat}(hf:f.length=8){b1 b2:Nat}(g1:h.get b1=some (.cells [.pointer (some ⟨q,0,none⟩)] true 1))
 {px:bw}{W:Nat→Prop}{N lp:Nat}{P:List Nat→Heap→Prop}{S:Heap→Prop}(Y:I9 px T W N lp (fun p=>[.int .i64 ((p:Nat):Int)]) (gL l.length f) P S)(hN:N≤h.next)(hlp:lp<h.next)(hb2:∀d H,P d H→H.get b2=some (.cells (fL f) true 1))(hP0:P [] h):
 GrW T 228 [.func (.yield lp) #[] #[], .pointer (some ⟨b1,0,none⟩), .pointer (some ⟨b2,0,none⟩)] h W (P (gL l.length f)) S:=by
 refine .of F.qu.p F.f228 hlp (fun h1 h2 hn ha hp=>Y.fF _ _ _ hp (by omega) fun x hx=>ha x (by omega)) Y.CE ?_
 obtain⟨a,c,rfl⟩:=Qh.sp.form
 have gq:=Qh.gq
 have kp:=Cu Qh.hw (.slice a l.length c) nv ov (.map (some m))
 have hl8:=Qh.hl
 refine y4 ?_;refine yL ?_;refine an (cA (by exact rfl)) ?_;refine yF ?_;refine an (bO (by exact rfl) (by assumption) (by assumption)) ?_;refine yD ?_;refine yM ?_;refine y3 ?_;refine aK ?_
 refine dG (fun k e ds h'=>∃i:Nat,i≤l.length∧k=l.length-i∧e=[(0, .func (.yield lp) #[] #[]),(2, .pointer (some ⟨b2,0,none⟩)),(9, .int .i64 (l.length:Nat)),(10, .int .i64 (i:Nat))]∧ds=[]∧Ws W h h'∧P (gL i f) h')
  ⟨0,Nat.zero_le _,rfl,rfl,rfl,(Ext.refl h).ws,hP0⟩ ?_
 rintro k e ds G ⟨i,hi,rfl,rfl,rfl,xG,hP⟩
 have WG:=xG.wf hr.wf
 have hLG:∀z∈G.log,W z:=fun z hz=>(xG.log z hz).elim (fun q=>by rw[hr.log]at q;cases q) id
 have gb2:=hb2 _ _ hP
 by_cases hlt:i<l.length
 ·obtain⟨y,hy⟩:∃y,f[i]? =some y:=⟨f[i]'(by omega),List.getElem?_eq_getElem _⟩
  have kf:=AH hy
  have hgd:f.getD i 0=y:=by rw[List.getD_eq_getElem?_getD,hy];rfl
  have mlt:aA .lss (.int .i64 (i:Nat)) (.int .i64 (l.length:Nat))=some (.bool true):=jg (by omega)
  have mk:aA .eql (.int .u8 (y:Nat)) (.int .u8 0)=some (.bool (decide (y=0))):=Cg (c:=0) rfl
  have hst:=Dr i f
  rw[hgd]at hst
  by_cases hy0:y=0
  ·rw[decide_eq_true hy0]at mk
   rw[if_pos hy0]at hst
   refine y4 ?_;refine yW ?_;refine y3 ?_;refine ah ?_;refine yY ?_;refine aH ?_;refine aV ?_;refine ah ?_;refine aK ?_
   refine y4 ?_;refine yM ?_;refine yM ?_;refine y3 ?_;refine y4 ?_;refine yM ?_
   refine an (eY (by exact rfl) (by exact rfl) (by omega)) ?_;refine an (bO (by exact rfl) (by assumption) (by assumption)) ?_;refine yW ?_;refine yM ?_;refine yO ?_;refine yM ?_;refine yO ?_
   refine yM ?_;refine yO ?_
   refine mM (fn:= .yield lp) (args:=[.int .i64 (i:Nat)]) (by exact rfl) ?_
   refine Y.call F.qu.p (x:=i) (lQ.2 ⟨hlt,by rw[hgd];exact hy0⟩) WG (by have:=xG.next;omega) hlp hP ?_ ?_
   ·intro G2 x2 hP2
    rw[←hst]at hP2
    refine yO ?_;refine yA ?_;refine yT ?_;refine y3 ?_;refine yX ?_;refine aH ?_;refine ff ?_;refine aV ?_;refine aJ ?_
    refine ia ?_;refine yM ?_;refine y3 ?_
    exact⟨l.length-(i+1),by omega,i+1,by omega,rfl,rfl,rfl,xG.trans x2,hP2⟩
   ·intro G2 x2 hm2 hS2
    refine yO ?_;refine yA ?_;refine yT ?_;refine y3 ?_;refine yY ?_;refine aG ?_;refine mU ?_;refine eW ?_;refine eW ?_;refine mU ?_
    exact Ft (fun z hz=>(x2.log z hz).elim (hLG z) id) rfl hm2 hS2
  ·rw[decide_eq_false hy0]at mk
   rw[if_neg hy0,List.append_nil]at hst
   rw[←hst]at hP
   refine y4 ?_;refine yW ?_;refine y3 ?_;refine ah ?_;refine yY ?_;refine aH ?_;refine aV ?_;refine ah ?_;refine aK ?_
   refine y4 ?_;refine yM ?_;refine yM ?_;refine y3 ?_;refine y4 ?_;refine yM ?_
   refine an (eY (by exact rfl) (by exact rfl) (by omega)) ?_;refine an (bO (by exact rfl) (by assumption) (by assumption)) ?_;refine yW ?_;refine yM ?_;refine yP ?_;refine yP ?_
   refine yP ?_;refine yP ?_;refine yU ?_;refine y3 ?_;refine yX ?_;refine aH ?_;refine ff ?_;refine aV ?_;refine aJ ?_
   refine ia ?_;refine yM ?_;refine y3 ?_
   exact⟨l.length-(i+1),by omega,i+1,by omega,rfl,rfl,rfl,xG,hP⟩
 ·obtain rfl:i=l.length:=by omega
  have mlt:aA .lss (.int .i64 (l.length:Nat)) (.int .i64 (l.length:Nat))=some (.bool false):=jD (by omega)
  refine y4 ?_;refine yW ?_;refine y3 ?_;refine ah ?_;refine yX ?_;refine dw ?_;refine dQ ?_;refine dQ ?_;refine iN ?_
  exact Fs hLG rfl hP
set_option maxHeartbeats 8000000 in
theorem J9(F:yy T){h:Heap}(hr:Rdy h){q m:Nat}{w:List Nat×List Nat}{pv nv ov:Value}{l:List Pb}{os:List (List Nat)}{ns:List (List (List Nat))}(Qh:QuH h q m w pv nv ov l os ns){f:List Nat}(hf:f.length=8):
 Pu T 108 [.pointer (some ⟨q,0,none⟩),fV f] h (.tuple #[.bool (bsB w (l.zip f)), .bool (kU w l ns f)]):=by
 refine .of F.qu.p F.f108 hr rfl ?_
 have hfc:=kA f
 have x0:Ext h (h.push (.cells (cellsOf (fV f)) true 1)):=(Ext.refl h).push _
 have g0:(h.push (.cells (cellsOf (fV f)) true 1)).get h.next=some (.cells (fL f) true 1):=by rw[hfc];exact z3 h _
 have n0:(h.push (.cells (cellsOf (fV f)) true 1)).next=h.next+1:=rfl
 refine y4 ?_;refine yB ?_;refine yM ?_;refine yM ?_;refine y3 ?_
 generalize(h.push (.cells (cellsOf (fV f)) true 1))=H at*
 have W:=x0.wf hr.wf
 have hL:=x0.log.trans hr.log
 have QH:=Qh.ext hr.wf x0
 have gqn:=hr.wf.ef Qh.gq
 have kf8:=ri hf
 have kf9:=oh hf
 have hw:=Qh.hw
 have C1:=Jh F.qu (h:={H with log:=[]}) (.of W) hw QH.gq (QH.sp.log []) QH.hl hf
 have hbs:IsS (bsS w.1 (l.zip f)):=AB hw.a (I5 Qh.sp.ok)
 unfold kU
 generalize bsB w (l.zip f)=can at*
 generalize hbz:bsS w.1 (l.zip f)=s at*
 have kb8:=bF hbs.len
 have kb9:=cD hbs.len
 have kbn:=hbs.len
 have x3:=iC (h:=H) (base:=h.next) (by omega) (.cells (aT 8 (.int .u64 0)) true 1) (.cells (us s) true 1)
 have g14:=jB (h:=H) (base:=h.next) (aT 8 (.int .u64 0)) (us s)
 have n3:((H.push (.cells (aT 8 (.int .u64 0)) true 1)).wr h.next H.next (.cells (us s) true 1)).next=H.next+1:=rfl
 refine y4 ?_;refine yM ?_;refine yV ?_
 refine yC ?_
 refine FW.pu C1 ?_
 clear C1
 refine yM ?_;refine yE ?_;refine yE ?_;refine an (dL) ?_
 refine an (dg (by exact rfl) (by exact rfl) (by(simp(disch:=first|omega|(simp only[z1,z2];omega))only[z3,z4,z5,z6,z7,z1,z2,g0,g14];exact rfl)) (by(simp only[aI];assumption)) (by exact rfl) (by exact dB _)) ?_
 refine yM ?_;refine y3 ?_
 generalize((H.push (.cells (aT 8 (.int .u64 0)) true 1)).wr h.next H.next (.cells (us s) true 1))=H2 at*
 have W2:=x3.wf W
 have hL2:=x3.log.trans hL
 have Q2:=QH.ext W x3
 have g02:=(x3.old _ (by omega)).trans g0
 obtain⟨a,c,hov⟩:=Q2.so.sl.form
 subst hov
 have gq2:=Q2.gq
 have ko:=LL hw pv nv (.slice a os.length c) (.map (some m))
 have hol:=Qh.hol
 clear g0
 cases can with
 |false=>
  refine ah ?_;refine y4 ?_;refine yM ?_;refine yA ?_;refine y3 ?_;refine yY ?_;refine y4 ?_;refine yM ?_
  refine yM ?_;refine y3 ?_;refine aG ?_;refine eW ?_
  exact aD hL2 rfl rfl
 |true=>
 refine ah ?_;refine y4 ?_;refine yM ?_;refine yA ?_;refine y3 ?_;refine yX ?_;refine aH ?_;refine aV ?_;refine ah ?_;refine y4 ?_
 refine yM ?_;refine an (cA (by exact rfl)) ?_;refine yF ?_;refine an (bO (by exact rfl) (by assumption) (by assumption)) ?_;refine yD ?_;refine yM ?_;refine y3 ?_;refine aK ?_
 refine dG (fun k e ds h'=>∃i:Nat,i≤os.length∧k=os.length-i∧e=[(0, .pointer (some ⟨q,0,none⟩)),(3, .pointer (some ⟨h.next,0,none⟩)),(6, .pointer (some ⟨H.next,0,none⟩)),(20, .int .i64 (os.length:Nat)),(21, .int .i64 (i:Nat))]∧ds=[]∧H2=h'∧(ns.take i).any (fun r=>decide (ru (l.zip f) s r=3))=false)
  ⟨0,Nat.zero_le _,rfl,rfl,rfl,rfl,rfl⟩ ?_
 rintro k e ds _ ⟨i,hi,rfl,rfl,rfl,rfl,hno⟩
 by_cases hlt:i<os.length
 ·obtain⟨r,hr2⟩:∃r,ns[i]? =some r:=⟨ns[i]'(by rw[Qh.hns];exact hlt),List.getElem?_eq_getElem _⟩
  have mlt:aA .lss (.int .i64 (i:Nat)) (.int .i64 (os.length:Nat))=some (.bool true):=jg (by omega)
  have C2:=Dl F.qu (h:={H2 with log:=[]}) (.of W2) hw Q2.gq (Q2.sp.log []) Q2.hl hf hbs (Q2.sn.log []) (by rw[Qh.hns];exact Qh.hol) hr2 (Qh.hrn r (List.mem_of_getElem? hr2))
  have hs1:(ns.take (i+1)).any (fun r=>decide (ru (l.zip f) s r=3))=((ns.take i).any (fun r=>decide (ru (l.zip f) s r=3))||decide (ru (l.zip f) s r=3)):=by rw[iW hr2,List.any_append];simp
  have hyes:decide (ru (l.zip f) s r=3)=true→ns.any (fun r=>decide (ru (l.zip f) s r=3))=true:=fun q=>List.any_eq_true.2 ⟨r,List.mem_of_getElem? hr2,q⟩
  rw[hno,Bool.false_or]at hs1
  generalize ru (l.zip f) s r=j at*
  have mk:aA .eql (.int .u8 (j:Nat)) (.int .u8 3)=some (.bool (decide (j=3))):=Cg (c:=3) rfl
  cases hj:decide (j=3)with
  |true=>
   rw[hj]at mk
   rw[hyes hj]
   refine y4 ?_;refine yW ?_;refine y3 ?_;refine ah ?_;refine yY ?_;refine aH ?_;refine aV ?_;refine ah ?_;refine aK ?_
   refine y4 ?_;refine yM ?_;refine yM ?_;refine y3 ?_;refine y4 ?_;refine yM ?_
   refine yV ?_;refine yV ?_;refine yM ?_
   refine yC ?_
   refine FW.pu C2 ?_
   refine yW ?_;refine y3 ?_;refine yY ?_;refine y4 ?_;refine yM ?_;refine yM ?_;refine y3 ?_;refine aG ?_;refine mU ?_;refine eW ?_;refine eW ?_;refine mU ?_;refine eW ?_
   exact aD hL2 rfl rfl
  |false=>
   rw[hj]at mk hs1
   refine y4 ?_;refine yW ?_;refine y3 ?_;refine ah ?_;refine yY ?_;refine aH ?_;refine aV ?_;refine ah ?_;refine aK ?_
   refine y4 ?_;refine yM ?_;refine yM ?_;refine y3 ?_;refine y4 ?_;refine yM ?_
   refine yV ?_;refine yV ?_;refine yM ?_
   refine yC ?_
   refine FW.pu C2 ?_
   refine yW ?_;refine y3 ?_;refine yX ?_;refine aH ?_;refine ff ?_;refine aV ?_;refine aJ ?_
   refine ia ?_;refine yM ?_;refine y3 ?_
   exact⟨os.length-(i+1),by omega,i+1,by omega,rfl,rfl,rfl,rfl,hs1⟩
 ·obtain rfl:i=os.length:=by omega
  have mlt:aA .lss (.int .i64 (os.length:Nat)) (.int .i64 (os.length:Nat))=some (.bool false):=jD (by omega)
  rw[←Qh.hns,List.take_length]at hno
  rw[hno]
  refine y4 ?_;refine yW ?_;refine y3 ?_;refine ah ?_;refine yX ?_;refine dw ?_;refine dQ ?_;refine dQ ?_;refine iN ?_;refine aV ?_
  refine y4 ?_;refine yM ?_;refine yM ?_;refine y3 ?_;refine aG ?_
  exact aD hL2 rfl rfl
end Go.A.Pk
end
