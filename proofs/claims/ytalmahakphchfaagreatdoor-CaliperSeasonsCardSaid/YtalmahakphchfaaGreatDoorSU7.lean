/- Walks of functions, plain laws, the table. -/
import Derived.Test.YtalmahakphchfaaGreatDoorSU6
import Derived.Test.YtalmahakphchfaaGreatDoorSU3
import Derived.Test.YtalmahakphchfaaGreatDoorSU2
import Derived.Test.YtalmahakphchfaaGreatDoorSU5
import Derived.Test.YtalmahakphchfaaGreatDoorSU0
import Derived.Test.YtalmahakphchfaaGreatDoorSH
import Derived.Test.YtalmahakphchfaaGreatDoorST
import Derived.KernelRfl
import Derived.Test.YtalmahakphchfaaGreatDoorSD
set_option linter.all false
section
set_option maxRecDepth 100000
namespace Go.A.Pk
theorem Be{a b:List Nat}(ha:IsS a)(h:Sub a b)(h0:¬a=s0):¬b=s0:=by
 rintro rfl
 obtain⟨c,hc⟩:=Dt ha h0
 have:=h c hc
 rw[wX]at this
 cases this
theorem oh{f:Nat→List Nat}{ss:List Sp}{n:Nat}{x:Sp}(hx:ss[n]? =some x):gT f ss (n+1)=gT f ss n++lQ (f n) x:=by
 show gT f ss n++(match ss[n]? with|some x=>lQ (f n) x|none=>[])=_
 rw[hx]
theorem om{f:Nat→List Nat}{ss:List Sp}{i:Nat}{x:Sp}(hi:¬f i=s0)(hx:ss[i]? =some x):∀{n:Nat},i<n→n≤ss.length→(gT f ss n)[(gT f ss i).length]? =some ⟨x.id,x.size,f i⟩
 |0,h,_=>absurd h (Nat.not_lt_zero _)
 |n+1,h,hn=>by
  obtain⟨y,hy⟩:∃y,ss[n]? =some y:=⟨ss[n],List.getElem?_eq_getElem (by omega)⟩
  rw[oh hy]
  by_cases e:i=n
  ·subst e
   rw[hx]at hy;cases hy
   rw[List.getElem?_append_right (Nat.le_refl _),Nat.sub_self,show lQ (f i) x=[⟨x.id,x.size,f i⟩]from if_neg hi]
   rfl
  ·have ih:=om hi hx (n:=n) (by omega) (by omega)
   rw[List.getElem?_append_left (List.getElem?_eq_some_iff.1 ih).1]
   exact ih
theorem Bn{f:Nat→List Nat}{ss:List Sp}:∀{n:Nat},n≤ss.length→∀{j:Nat},j<(gT f ss n).length→∃i x,i<n∧(gT f ss i).length=j∧¬f i=s0∧ss[i]? =some x∧(gT f ss n)[j]? =some ⟨x.id,x.size,f i⟩
 |0,_,j,h=>absurd h (Nat.not_lt_zero _)
 |n+1,hn,j,h=>by
  obtain⟨y,hy⟩:∃y,ss[n]? =some y:=⟨ss[n],List.getElem?_eq_getElem (by omega)⟩
  by_cases hj:j<(gT f ss n).length
  ·obtain⟨i,x,h1,h2,h3,h4,_⟩:=Bn (n:=n) (by omega) hj
   exact⟨i,x,by omega,h2,h3,h4,by rw[←h2];exact om h3 h4 (by omega) hn⟩
  ·rw[oh hy,List.length_append]at h
   have h0:¬f n=s0:=by
    intro e
    rw[show lQ (f n) y=[]from if_pos e]at h
    simp at h;omega
   rw[show lQ (f n) y=[⟨y.id,y.size,f n⟩]from if_neg h0,List.length_singleton]at h
   have e:(gT f ss n).length=j:=by omega
   exact⟨n,y,by omega,e,h0,hy,by rw[←e];exact om h0 hy (by omega) hn⟩
theorem Co{f:Nat→List Nat}{ss:List Sp}{i j:Nat}(hi:¬f i=s0)(h:i<j)(hj:j≤ss.length):(gT f ss i).length<(gT f ss j).length:=by
 obtain⟨x,hx⟩:∃x,ss[i]? =some x:=⟨ss[i],List.getElem?_eq_getElem (by omega)⟩
 exact(List.getElem?_eq_some_iff.1 (om hi hx h hj)).1
theorem mN{os:List Od}{ss:List Sp}{k s:Nat}:s∈gM os ss k↔(∃i,i<os.length∧oS os i k=true∧s=i)∨∃j,j<ss.length∧ot ss os j k=true∧s=40+j:=by
 unfold gM mJ
 rw[List.map_append,List.mem_append]
 constructor
 ·rintro(h|h)
  ·obtain⟨p,hp,rfl⟩:=List.mem_map.1 h
   obtain⟨i,hi,rfl⟩:=List.mem_map.1 hp
   obtain⟨h1,h2⟩:=List.mem_filter.1 hi
   exact .inl ⟨i,List.mem_range.1 h1,h2,rfl⟩
  ·obtain⟨p,hp,rfl⟩:=List.mem_map.1 h
   obtain⟨i,hi,rfl⟩:=List.mem_map.1 hp
   obtain⟨h1,h2⟩:=List.mem_filter.1 hi
   refine .inr ⟨i,List.mem_range.1 h1,h2,?_⟩
   show(40+(i:Int)).toNat=40+i
   omega
 ·rintro(⟨i,h1,h2,rfl⟩|⟨j,h1,h2,rfl⟩)
  ·exact .inl (List.mem_map.2 ⟨_,List.mem_map.2 ⟨s,List.mem_filter.2 ⟨List.mem_range.2 h1,h2⟩,rfl⟩,rfl⟩)
  ·refine .inr (List.mem_map.2 ⟨_,List.mem_map.2 ⟨j,List.mem_filter.2 ⟨List.mem_range.2 h1,h2⟩,rfl⟩,?_⟩)
   show(40+(j:Int)).toNat=40+j
   omega
theorem yR{os:List Od}{ss:List Sp}{f g:Nat→List Nat}(h40:os.length≤40)(h20:ss.length≤20)(hf:∀i,IsS (f i))(hg:∀i,IsS (g i))(h:∀i,i<ss.length→Sub (f i) (g i)):lsN os (lP g ss)≤lsN os (lP f ss):=by
 have lf:=jY f ss ss.length
 have lg:=jY g ss ss.length
 have I:=FB (adj:=gM os (lP f ss)) (A:=40) (B:=60) (sg h40 (Nat.le_trans lf h20)) (n:=os.length) h40
 have J:=FB (adj:=gM os (lP g ss)) (A:=40) (B:=60) (sg h40 (Nat.le_trans lg h20)) (n:=os.length) h40
 have key:∀j,∃t,j<(lP f ss).length→∃i x,i<ss.length∧(gT f ss i).length=j∧¬f i=s0∧ss[i]? =some x∧(lP f ss)[j]? =some ⟨x.id,x.size,f i⟩∧t=(gT g ss i).length:=by
  intro j
  by_cases hj:j<(lP f ss).length
  ·obtain⟨i,x,h1,h2,h3,h4,h5⟩:=Bn (Nat.le_refl _) hj
   exact⟨_,fun _=>⟨i,x,h1,h2,h3,h4,h5,rfl⟩⟩
  ·exact⟨0,fun q=>absurd q hj⟩
 obtain⟨ψ,hψ⟩:=Classical.axiomOfChoice key
 have hle:=MtI.le I J (φ:=fun s=>if s<40 then s else 40+ψ (s-40)) (fun k _ s hs=> ?_) (fun k1 _ k2 _ s hs t ht e=> ?_)
 ·unfold lsN;omega
 ·rcases mN.1 hs with⟨i,h1,h2,rfl⟩|⟨j,h1,h2,rfl⟩
  ·rw[if_pos (show s<40 by omega)]
   exact mN.2 (.inl ⟨s,h1,h2,rfl⟩)
  ·rw[if_neg (by omega),Nat.add_sub_cancel_left]
   obtain⟨i,x,e1,e2,e3,e4,e5,e6⟩:=hψ j h1
   have hsub:=h i e1
   have hg0:=Be (hf i) hsub e3
   have hgt:=om hg0 e4 e1 (Nat.le_refl _)
   refine mN.2 (.inr ⟨ψ j,by rw[e6];exact(List.getElem?_eq_some_iff.1 hgt).1,?_,rfl⟩)
   unfold ot at h2⊢
   rw[e5]at h2
   rw[e6,show(lP g ss)[(gT g ss i).length]? =some ⟨x.id,x.size,g i⟩from hgt]
   cases hk:os[k]? with
   |none=>rw[hk]at h2;cases h2
   |some y=>
    rw[hk]at h2
    replace h2:(decide (x.size=y.size)&&jt (f i) y.cI)=true:=h2
    show(decide (x.size=y.size)&&jt (g i) y.cI)=true
    rw[Bool.and_eq_true]at h2⊢
    exact⟨h2.1,CA (hf i) (hg i) hsub h2.2⟩
 ·rcases mN.1 hs with⟨i,h1,_,rfl⟩|⟨j,h1,_,rfl⟩<;>rcases mN.1 ht with⟨i2,g1,_,rfl⟩|⟨j2,g1,_,rfl⟩
  ·simp only[if_pos (show s<40 by omega),if_pos (show t<40 by omega)]at e;exact e
  ·simp only[if_pos (show s<40 by omega),if_neg (show¬40+j2<40 by omega)]at e;omega
  ·simp only[if_pos (show t<40 by omega),if_neg (show¬40+j<40 by omega)]at e;omega
  ·simp only[if_neg (show¬40+j<40 by omega),if_neg (show¬40+j2<40 by omega),Nat.add_sub_cancel_left]at e
   obtain⟨i,x,a1,a2,a3,a4,a5,a6⟩:=hψ j h1
   obtain⟨i2,x2,b1,b2,b3,b4,b5,b6⟩:=hψ j2 g1
   rw[a6,b6]at e
   have ga:=Be (hf i) (h i a1) a3
   have gb:=Be (hf i2) (h i2 b1) b3
   have hii:i=i2:=by
    rcases Nat.lt_trichotomy i i2 with q|q|q
    ·have:=Co ga q (Nat.le_of_lt b1);omega
    ·exact q
    ·have:=Co gb q (Nat.le_of_lt a1);omega
   subst hii
   omega
theorem Cn{f:Nat→List Nat}{ss:List Sp}:∀{n:Nat},n≤ss.length→((gT f ss n).map Sp.id).Sublist ((ss.take n).map Sp.id)
 |0,_=>by simp[gT]
 |n+1,h=>by
  obtain⟨x,hx⟩:∃x,ss[n]? =some x:=⟨ss[n],List.getElem?_eq_getElem (by omega)⟩
  rw[oh hx,List.take_add_one,hx,List.map_append,List.map_append]
  refine(Cn (by omega)).append ?_
  unfold lQ
  split
  ·exact List.nil_sublist _
  ·exact List.Sublist.refl _
theorem Cm{f:Nat→List Nat}{ss:List Sp}:∀{n:Nat},n≤ss.length→(∀i,i<n→¬f i=s0)→(gT f ss n).map Sp.id=(ss.take n).map Sp.id
 |0,_,_=>by simp[gT]
 |n+1,h,h0=>by
  obtain⟨x,hx⟩:∃x,ss[n]? =some x:=⟨ss[n],List.getElem?_eq_getElem (by omega)⟩
  rw[oh hx,List.take_add_one,hx,List.map_append,List.map_append,Cm (by omega) (fun i hi=>h0 i (by omega)),show lQ (f n) x=[⟨x.id,x.size,f n⟩]from if_neg (h0 n (by omega))]
  rfl
theorem yG{os:List Od}{ss:List Sp}{cr:List Wd}{ps:List (List Nat)}{r:Int}(hc:∀w∈cr,IsW w)(hp:∀p∈ps,IsS p):J9 os ss cr ps r:=by
 intro e1 e2 _
 unfold wNo at e1
 rw[Bool.or_eq_false_iff]at e1
 have hlen:cr.length=ss.length:=Decidable.byContradiction fun q=>by have:=e1.1;rw[decide_eq_true q]at this;cases this
 have hgood:∀w∈cr,sIn w.1 w.2=true∧¬w.2=s0:=fun w hw=>by
  have:=List.any_eq_false.1 e1.2 w hw
  unfold oP at this
  simpa using this
 have hI:∀i,IsS (crF (fun w=>w.2) cr i):=fun i=>vL (fun w hw=>hw.b) hc i
 have hL:∀i,IsS (crF (fun w=>w.1) cr i):=fun i=>vL (fun w hw=>hw.a) hc i
 have hM:∀i,IsS (crM cr ps i):=fun i=>Aa hc hp i
 have hat:∀i,i<ss.length→∃w,w∈cr∧crF (fun w=>w.2) cr i=w.2∧crF (fun w=>w.1) cr i=w.1∧crM cr ps i=mI w.1 (kP (psF ps i) w.2):=fun i hi=>by
  have hw:cr[i]? =some cr[i]:=List.getElem?_eq_getElem (by omega)
  refine⟨cr[i],List.getElem_mem (by omega),?_,?_,?_⟩
  ·unfold crF;rw[hw]
  ·unfold crF;rw[hw]
  ·unfold crM;rw[hw]
 have hsb:=e2
 unfold seB at e2
 simp only[Bool.and_eq_true,decide_eq_true_eq]at e2
 obtain⟨⟨⟨⟨o1,s1⟩,o2⟩,s2⟩,r1⟩:=e2
 obtain⟨t1,t2,_⟩:=mV.1 s1
 have hall:=Cm (f:=crF (fun w=>w.2) cr) (ss:=ss) (Nat.le_refl _) (fun i hi=>by
  obtain⟨w,hw,q1,_⟩:=hat i hi
  rw[q1];exact(hgood w hw).2)
 rw[List.take_length]at hall
 have hlH:(wHi cr ss).length=ss.length:=by have:=congrArg List.length hall;rwa [List.length_map,List.length_map]at this
 have h20:ss.length≤20:=by omega
 refine⟨?_,yR o2 h20 hM hI fun i hi=> ?_,yR o2 h20 hL hM fun i hi=> ?_⟩
 ·unfold seB
  simp only[Bool.and_eq_true,decide_eq_true_eq]
  refine⟨⟨⟨⟨o1,mV.2 ⟨fun x hx=> ?_,?_,fun _ _=>by simp⟩⟩,o2⟩,Nat.le_trans (jY _ _ _) h20⟩,r1⟩
  ·obtain⟨j,hj,rfl⟩:=List.getElem_of_mem hx
   obtain⟨i,x,a1,a2,a3,a4,a5⟩:=Bn (Nat.le_refl _) hj
   have ex:(lP (crM cr ps) ss)[j]=⟨x.id,x.size,crM cr ps i⟩:=by
    have q:(lP (crM cr ps) ss)[j]? =some ⟨x.id,x.size,crM cr ps i⟩:=a5
    rw[List.getElem?_eq_getElem hj]at q
    exact Option.some.inj q
   rw[ex]
   obtain⟨w,hw,q1,_⟩:=hat i a1
   have hm:=om (f:=crF (fun w=>w.2) cr) (by rw[q1];exact(hgood w hw).2) a4 a1 (Nat.le_refl _)
   have:=t1 _ (List.mem_of_getElem? hm)
   unfold spB thB at this⊢
   simp only[Bool.and_eq_true,decide_eq_true_eq]at this⊢
   exact⟨this.1,a3⟩
  ·refine List.Sublist.nodup (Cn (Nat.le_refl _)) ?_
   rw[List.take_length,←hall]
   exact t2
 ·obtain⟨w,hw,q1,q2,q3⟩:=hat i hi
  rw[q1,q3]
  exact(xO (hc w hw) (wE hp i) (hgood w hw).1).2
 ·obtain⟨w,hw,q1,q2,q3⟩:=hat i hi
  rw[q2,q3]
  exact(xO (hc w hw) (wE hp i) (hgood w hw).1).1
end Go.A.Pk
end
section
set_option maxRecDepth 100000
namespace Go.A.Pk
open Go Go.Proofs Go.Joins Go.ChangeShapes Go.WideShapes Go.RowKit Go.Deep
section
variable {H:Type} {enc:TypeId×Value→H} {W:World} {base:Nat} {held:Bool}
instance:Inhabited Od:=⟨⟨0,0,0,0,0,[]⟩⟩
instance:Inhabited Sp:=⟨⟨0,0,[]⟩⟩
theorem xV:Tryz.prog.cellsOf 135=13:=by kernel_rfl
theorem xT:Tryz.prog.cellsOf 38=10:=by kernel_rfl
theorem EG:Tryz.prog.cellsOf 25=3:=by kernel_rfl
theorem H8:Tryz.prog.cellsOf 22=1:=by kernel_rfl
theorem EF:Tryz.prog.cellsOf 23=1:=by kernel_rfl
theorem H9:Tryz.prog.cellTypes Tryz.prog.depth 25=some [22,23,3]:=by kernel_rfl
theorem zm{fuel:Nat}{cs:List Value}{spare:Nat→Bool}{x:DataW H×List MemPlace}(h:DataW.trod enc Tryz.prog W base spare held fuel 135 cs=some x):∃p:Od,IsS p.cI∧cs=odL p:=by
 obtain⟨xs,n,_,hx,hcl,hlen,hg⟩:=DataW.trod_struct Tryz.underlying135 h
 rw[xV]at hcl
 match cs,hcl with
 |[c0,c1,c2,c3,c4,c5,c6,c7,c8,c9,c10,c11,c12],_=>
  match xs,hlen with
  |[y0,y1,y2,y3,y4,y5],_=>
   have g0:DataW.trod enc Tryz.prog W base spare held n 3 [c0]=some y0:=by have:=hg 0 _ rfl;simpa[mR]using this
   have g1:DataW.trod enc Tryz.prog W base spare held n 3 [c1]=some y1:=by have:=hg 1 _ rfl;simpa[mR]using this
   have g2:DataW.trod enc Tryz.prog W base spare held n 3 [c2]=some y2:=by have:=hg 2 _ rfl;simpa[mR]using this
   have g3:DataW.trod enc Tryz.prog W base spare held n 3 [c3]=some y3:=by have:=hg 3 _ rfl;simpa[mR]using this
   have g4:DataW.trod enc Tryz.prog W base spare held n 3 [c4]=some y4:=by have:=hg 4 _ rfl;simpa[mR]using this
   have g5:DataW.trod enc Tryz.prog W base spare held n 36 [c5,c6,c7,c8,c9,c10,c11,c12]=some y5:=by have:=hg 5 _ rfl;simpa[nY]using this
   obtain⟨a0,h0,_⟩:=DataW.trod_int Tryz.underlying3 g0
   obtain⟨a1,h1,_⟩:=DataW.trod_int Tryz.underlying3 g1
   obtain⟨a2,h2,_⟩:=DataW.trod_int Tryz.underlying3 g2
   obtain⟨a3,h3,_⟩:=DataW.trod_int Tryz.underlying3 g3
   obtain⟨a4,h4,_⟩:=DataW.trod_int Tryz.underlying3 g4
   cases h0;cases h1;cases h2;cases h3;cases h4
   obtain⟨pl,hp,h5⟩:=jN g5
   refine⟨⟨a0,a1,a2,a3,a4,pl⟩,hp,?_⟩
   show _=[_,_,_,_,_]++us pl
   rw[←h5];rfl
theorem zF{fuel:Nat}{cs:List Value}{spare:Nat→Bool}{x:DataW H×List MemPlace}(h:DataW.trod enc Tryz.prog W base spare held fuel 38 cs=some x):∃p:Sp,IsS p.cI∧cs=spL p:=by
 obtain⟨xs,n,_,hx,hcl,hlen,hg⟩:=DataW.trod_struct Tryz.underlying38 h
 rw[xT]at hcl
 match cs,hcl with
 |[c0,c1,c5,c6,c7,c8,c9,c10,c11,c12],_=>
  match xs,hlen with
  |[y0,y1,y5],_=>
   have g0:DataW.trod enc Tryz.prog W base spare held n 3 [c0]=some y0:=by have:=hg 0 _ rfl;simpa[mR]using this
   have g1:DataW.trod enc Tryz.prog W base spare held n 3 [c1]=some y1:=by have:=hg 1 _ rfl;simpa[mR]using this
   have g5:DataW.trod enc Tryz.prog W base spare held n 36 [c5,c6,c7,c8,c9,c10,c11,c12]=some y5:=by have:=hg 2 _ rfl;simpa[nY]using this
   obtain⟨a0,h0,_⟩:=DataW.trod_int Tryz.underlying3 g0
   obtain⟨a1,h1,_⟩:=DataW.trod_int Tryz.underlying3 g1
   cases h0;cases h1
   obtain⟨pl,hp,h5⟩:=jN g5
   refine⟨⟨a0,a1,pl⟩,hp,?_⟩
   show _=[_,_]++us pl
   rw[←h5];rfl
theorem CQ(p:Od):∀v∈odL p,cT v=true:=fun v hv=>by
 rcases List.mem_append.1 hv with q|q
 ·simp only[List.mem_cons,List.not_mem_nil,or_false]at q
  rcases q with rfl|rfl|rfl|rfl|rfl<;>rfl
 ·exact nw _ v q
theorem CR(p:Sp):∀v∈spL p,cT v=true:=fun v hv=>by
 rcases List.mem_append.1 hv with q|q
 ·simp only[List.mem_cons,List.not_mem_nil,or_false]at q
  rcases q with rfl|rfl<;>rfl
 ·exact nw _ v q
theorem FU(p:Wd):∀v∈wL p,cT v=true:=fun v hv=>by
 rcases List.mem_append.1 hv with q|q
 ·exact nw _ v q
 ·exact nw _ v q
def Ka(W:World)(v:Value)(l:List Od):Prop:=gI W 13 v l.length (l.flatMap odL)∧∀p∈l,IsS p.cI
def Kc(W:World)(v:Value)(l:List Sp):Prop:=gI W 10 v l.length (l.flatMap spL)∧∀p∈l,IsS p.cI
def Ke(W:World)(v:Value)(l:List Wd):Prop:=gI W 16 v l.length (l.flatMap wL)∧∀p∈l,IsW p
theorem zh{v:Value}{d:DataW H}{p:List MemPlace}(hv:Value.okWide Tryz.prog W .any base 22 v)(h:DataW.Trod enc Tryz.prog W 0 (fun _=>true) held 22 v d p)(hz:∀n∈d.weights Tryz.prog 22,n≤reachBytes):∃l,Ka W v l:=
 mw (α:=Od) Tryz.underlying22 xV (by decide) (show Tryz.prog.bytesOf 135=104 by kernel_rfl) (by decide) (fun p=>IsS p.cI) odL (fun p h=>fS h) CQ (fun h=>zm h) hv h hz
theorem zk{v:Value}{d:DataW H}{p:List MemPlace}(hv:Value.okWide Tryz.prog W .any base 23 v)(h:DataW.Trod enc Tryz.prog W 0 (fun _=>true) held 23 v d p)(hz:∀n∈d.weights Tryz.prog 23,n≤reachBytes):∃l,Kc W v l:=
 mw (α:=Sp) Tryz.underlying23 xT (by decide) (show Tryz.prog.bytesOf 38=80 by kernel_rfl) (by decide) (fun p=>IsS p.cI) spL (fun p h=>eM h) CR (fun h=>zF h) hv h hz
theorem AK{v:Value}{d:DataW H}{p:List MemPlace}(hv:Value.okWide Tryz.prog W .any base 26 v)(h:DataW.Trod enc Tryz.prog W 0 (fun _=>true) held 26 v d p)(hz:∀n∈d.weights Tryz.prog 26,n≤reachBytes):∃l,Ke W v l:=
 mw (α:=Wd) Tryz.underlying26 BG (by decide) (show Tryz.prog.bytesOf 41=128 by kernel_rfl) (by decide) IsW wL (fun p h=>iP h) FU (fun h=>Bj h) hv h hz
structure Kb (W:World) (v:Value) (ov sv:Value) (os:List Od) (ss:List Sp) (r:Int):Prop where
 v:v=seV ov sv r
 so:Ka W ov os
 sp:Kc W sv ss
theorem zi{v:Value}{d:DataW H}{p:List MemPlace}(hv:Value.okWide Tryz.prog W .any base 25 v)(h:DataW.Trod enc Tryz.prog W 0 (fun _=>true) held 25 v d p)(hz:∀n∈d.weights Tryz.prog 25,n≤reachBytes):∃ov sv os ss r,Kb W v ov sv os ss r:=by
 simp only[Value.okWide,Tryz.underlying25]at hv
 obtain⟨cs,rfl,hsz,ts,hts,_,hcell⟩:=hv
 rw[H9]at hts
 cases hts
 obtain⟨fuel,hf⟩:=h
 have hf:DataW.trod enc Tryz.prog W 0 (fun _=>true) held fuel 25 cs.toList=some (d,p):=by simpa[Value.cells]using hf
 obtain⟨xs,n,_,hx,hcl,hlen,hg⟩:=DataW.trod_struct Tryz.underlying25 hf
 rw[EG]at hcl
 obtain⟨l,rfl⟩:∃l:List Value,cs=l.toArray:=⟨cs.toList,by simp⟩
 rw[List.toList_toArray]at hcl hg
 match l,hcl with
 |[c0,c1,c2],_=>
  match xs,hlen with
  |[y0,y1,y2],_=>
   have g0:DataW.trod enc Tryz.prog W 0 (fun _=>true) held n 22 [c0]=some y0:=by have:=hg 0 _ rfl;simpa[H8]using this
   have g1:DataW.trod enc Tryz.prog W 0 (fun _=>true) held n 23 [c1]=some y1:=by have:=hg 1 _ rfl;simpa[EF]using this
   have g2:DataW.trod enc Tryz.prog W 0 (fun _=>true) held n 3 [c2]=some y2:=by have:=hg 2 _ rfl;simpa[mR]using this
   obtain⟨r,h2,_⟩:=DataW.trod_int Tryz.underlying3 g2
   cases h2
   have v0:Value.okWide Tryz.prog W .any base 22 c0:=by
    obtain⟨u,hu,hc⟩:=hcell 0 c0 (by simp)
    have e:u=22:=by simpa using hu.symm
    rw[e]at hc
    simp only[Value.okWide,Tryz.underlying22];exact hc
   have v1:Value.okWide Tryz.prog W .any base 23 c1:=by
    obtain⟨u,hu,hc⟩:=hcell 1 c1 (by simp)
    have e:u=23:=by simpa using hu.symm
    rw[e]at hc
    simp only[Value.okWide,Tryz.underlying23];exact hc
   obtain⟨a0,l0,k0,rfl⟩:=okWide_slice Tryz.underlying22 v0
   obtain⟨a1,l1,k1,rfl⟩:=okWide_slice Tryz.underlying23 v1
   have hd:d=DataW.agg [y0.1,y1.1,y2.1]:=congrArg Prod.fst hx
   obtain⟨os,ho⟩:=zh (d:=y0.1) (p:=y0.2) v0 ⟨n,by simpa[Value.cells]using g0⟩ fun k hk=>hz k (by
    rw[hd]
    simp only[DataW.weights,Tryz.underlying25,List.map_cons,List.map_nil,DataW.weightsEach,List.mem_append]
    simp[hk])
   obtain⟨ss,hs⟩:=zk (d:=y1.1) (p:=y1.2) v1 ⟨n,by simpa[Value.cells]using g1⟩ fun k hk=>hz k (by
    rw[hd]
    simp only[DataW.weights,Tryz.underlying25,List.map_cons,List.map_nil,DataW.weightsEach,List.mem_append]
    simp[hk])
   exact⟨_,_,os,ss,r,⟨rfl,ho,hs⟩⟩
end
theorem La{W:World}{G:Gl}(hG:sI W G){z1 n1 z2 n2 z3 n3 z4 n4:Nat}{s1 s2 s3 s4:Value}{c1 c2 c3 c4:List Value}(h1:gI W z1 s1 n1 c1)(h2:gI W z2 s2 n2 c2)(h3:gI W z3 s3 n3 c3)(h4:gI W z4 s4 n4 c4):
 ∃(h:Heap) (μ:Mu),R Tryz.prog μ h W∧(∀b o,h.get b=some o→o.ro=true∨o.live=false)∧Rdy h∧1000≤h.next∧(∀g vs,(g,vs)∈G→h.get g=some (.cells vs false 1))∧
 (∃a c,VR μ (.slice a n1 c) s1∧cA h z1 (.slice a n1 c) n1 c1∧c<UNK)∧(∃a c,VR μ (.slice a n2 c) s2∧cA h z2 (.slice a n2 c) n2 c2∧c<UNK)∧(∃a c,VR μ (.slice a n3 c) s3∧cA h z3 (.slice a n3 c) n3 c3∧c<UNK)∧(∃a c,VR μ (.slice a n4 c) s4∧cA h z4 (.slice a n4 c) n4 c4∧c<UNK):=by
 obtain⟨o1,k1,q1⟩:=h1.lay hG
 obtain⟨o2,k2,q2⟩:=h2.lay hG
 obtain⟨o3,k3,q3⟩:=h3.lay hG
 obtain⟨o4,k4,q4⟩:=h4.lay hG
 have hat:∀(A B C:List Ob) (o:Ob),B[0]? =some o→(A++B++C)[A.length]? =some o:=fun A B C o ho=>by
  have hl:=(List.getElem?_eq_some_iff.1 ho).1
  rw[List.append_assoc,List.getElem?_append_right (Nat.le_refl _),Nat.sub_self,List.getElem?_append_left hl];exact ho
 refine⟨obH G (o1++o2++o3++o4),obM G (o1++o2++o3++o4),R.obs hG fun o ho=> ?_,LI hG,II hG _,Nat.le_add_right _ _,fun g vs h=>LH hG _ h,q1 _ 0 fun o ho=> ?_,q2 _ o1.length fun o ho=> ?_,q3 _ (o1++o2).length (hat (o1++o2) o3 o4),q4 _ (o1++o2++o3).length fun o ho=> ?_⟩
 ·rcases List.mem_append.1 ho with ho|ho
  ·rcases List.mem_append.1 ho with ho|ho
   ·rcases List.mem_append.1 ho with ho|ho
    ·exact k1 _ o ho
    ·exact k2 _ o ho
   ·exact k3 _ o ho
  ·exact k4 _ o ho
 ·have:=hat [] o1 (o2++o3++o4) o ho
  rwa [List.nil_append,←List.append_assoc,←List.append_assoc]at this
 ·have:=hat o1 o2 (o3++o4) o ho
  rwa [←List.append_assoc]at this
 ·have:=hat (o1++o2++o3) o4 [] o ho
  rwa [List.append_nil]at this
end Go.A.Pk
end
section
set_option maxRecDepth 100000
namespace Go.A.Pk
open Go Go.Proofs
theorem NM:lT.h0=C6 0 (xX.map fun n=> .int .u8 (n:Nat)) 1000:=by kernel_rfl
theorem QE:Entry Tryz.prog 6 (.mA pSd):= .mA (Gr sound (g:=0) (n:=1000) (vs:=xX.map fun n=> .int .u8 (n:Nat)) Tryz.func6 (of_decide_eq_true (by kernel_rfl)) (by kernel_rfl) pU (by decide) (by kernel_rfl) (by kernel_rfl) fun args v h h' hp=>by
 unfold pSd at hp
 split at hp
 ·split at hp
  ·rename_i hT
   cases hp
   refine⟨rfl,hT,fun a ha=>(nomatch ha),rfl,?_⟩
   rw[←NM]
   exact lT.run
  ·cases hp
 ·cases hp)
theorem c16:aH Tryz.prog Tryz.f4 (ksO f16)=some f16:=by kernel_rfl
theorem c32:aH Tryz.prog Tryz.f9 (ksO f32)=some f32:=by kernel_rfl
theorem c35:aH Tryz.prog Tryz.f39 (ksO f35)=some f35:=by kernel_rfl
theorem c67:aH Tryz.prog Tryz.f7 (ksO f67)=some f67:=by kernel_rfl
theorem c69:aH Tryz.prog Tryz.f10 (ksO f69)=some f69:=by kernel_rfl
theorem O1:aH Tryz.prog Tryz.f33 (ksO f118)=some f118:=by kernel_rfl
theorem O2:aH Tryz.prog Tryz.f34 (ksO f119)=some f119:=by kernel_rfl
theorem Pn:aH Tryz.prog Tryz.f24 (ksO f158)=some f158:=by kernel_rfl
theorem Po:aH Tryz.prog Tryz.f27 (ksO f159)=some f159:=by kernel_rfl
theorem Pp:aH Tryz.prog Tryz.f28 (ksO f160)=some f160:=by kernel_rfl
theorem Pq:aH Tryz.prog Tryz.f29 (ksO f161)=some f161:=by kernel_rfl
theorem Pr:aH Tryz.prog Tryz.f30 (ksO f162)=some f162:=by kernel_rfl
theorem Pt:aH Tryz.prog Tryz.f35 (ksO f164)=some f164:=by kernel_rfl
theorem Pv:aH Tryz.prog Tryz.f36 (ksO f165)=some f165:=by kernel_rfl
theorem P3:aH Tryz.prog Tryz.f58 (ksO f233)=some f233:=by kernel_rfl
theorem P4:aH Tryz.prog Tryz.f63 (ksO f237)=some f237:=by kernel_rfl
theorem P5:aH Tryz.prog Tryz.f64 (ksO f238)=some f238:=by kernel_rfl
theorem P6:aH Tryz.prog Tryz.f65 (ksO f239)=some f239:=by kernel_rfl
theorem Qc:aH Tryz.prog Tryz.f106 (ksO f272)=some f272:=by kernel_rfl
theorem Qd:aH Tryz.prog Tryz.f107 (ksO f273)=some f273:=by kernel_rfl
theorem Qe:aH Tryz.prog Tryz.f108 (ksO f274)=some f274:=by kernel_rfl
theorem Qf:aH Tryz.prog Tryz.f109 (ksO f275)=some f275:=by kernel_rfl
theorem Qg:aH Tryz.prog Tryz.f110 (ksO f276)=some f276:=by kernel_rfl
theorem Qh:aH Tryz.prog Tryz.f111 (ksO f277)=some f277:=by kernel_rfl
theorem Qi:aH Tryz.prog Tryz.f112 (ksO f278)=some f278:=by kernel_rfl
theorem Qj:aH Tryz.prog Tryz.f113 (ksO f279)=some f279:=by kernel_rfl
theorem Qk:aH Tryz.prog Tryz.f114 (ksO f280)=some f280:=by kernel_rfl
theorem Qo:aH Tryz.prog Tryz.f139 (ksO f323)=some f323:=by kernel_rfl
theorem Qq:aH Tryz.prog Tryz.f163 (ksO f347)=some f347:=by kernel_rfl
noncomputable def Bf:Tr:=(.node (.node (.node (.node (.node (.node .nil 4 f16 .nil) 6 (.mA pSd) (.node .nil 7 f67 .nil)) 9 f32 (.node (.node .nil 10 f69 .nil) 15 f33 (.node .nil 24 f158 .nil))) 25 f89 (.node (.node (.node .nil 26 f90 .nil) 27 f159 (.node .nil 28 f160 .nil)) 29 f161 (.node (.node .nil 30 f162 .nil) 33 f118 (.node .nil 34 f119 .nil)))) 35 f164 (.node (.node (.node (.node .nil 36 f165 .nil) 39 f35 (.node .nil 40 f123 .nil)) 44 f34 (.node (.node .nil 58 f233 .nil) 63 f237 (.node .nil 64 f238 .nil))) 65 f239 (.node (.node (.node .nil 73 f121 .nil) 74 f213 (.node .nil 75 f214 .nil)) 76 f126 (.node (.node .nil 77 f127 .nil) 78 f120 .nil)))) 79 f188 (.node (.node (.node (.node (.node .nil 106 f272 .nil) 107 f273 (.node .nil 108 f274 .nil)) 109 f275 (.node (.node .nil 110 f276 .nil) 111 f277 (.node .nil 112 f278 .nil))) 113 f279 (.node (.node (.node .nil 114 f280 .nil) 119 f264 (.node .nil 120 f265 .nil)) 121 f266 (.node (.node .nil 122 f215 .nil) 123 f209 .nil))) 124 f210 (.node (.node (.node (.node .nil 125 f211 .nil) 126 f212 (.node .nil 127 f254 .nil)) 139 f323 (.node (.node .nil 143 f261 .nil) 144 f262 (.node .nil 145 f263 .nil))) 163 f347 (.node (.node (.node .nil 164 f317 .nil) 165 f318 (.node .nil 166 f319 .nil)) 167 f320 (.node (.node .nil 168 f321 .nil) 169 f322 .nil)))))
noncomputable def T16:Nat→Option af:=Bf.get
theorem M0:Bf.all (Entry Tryz.prog):=by
 unfold Bf
 exact(Tr.aa (Tr.aa (Tr.aa (Tr.aa (Tr.aa (Tr.aa Tr.all_nil (.of Tryz.func4 c16) Tr.all_nil) QE (Tr.aa Tr.all_nil (.of Tryz.func7 c67) Tr.all_nil)) (.of Tryz.func9 c32) (Tr.aa (Tr.aa Tr.all_nil (.of Tryz.func10 c69) Tr.all_nil) (.of Tryz.func15 c33) (Tr.aa Tr.all_nil (.of Tryz.func24 Pn) Tr.all_nil))) (.of Tryz.func25 c89) (Tr.aa (Tr.aa (Tr.aa Tr.all_nil (.of Tryz.func26 c90) Tr.all_nil) (.of Tryz.func27 Po) (Tr.aa Tr.all_nil (.of Tryz.func28 Pp) Tr.all_nil)) (.of Tryz.func29 Pq) (Tr.aa (Tr.aa Tr.all_nil (.of Tryz.func30 Pr) Tr.all_nil) (.of Tryz.func33 O1) (Tr.aa Tr.all_nil (.of Tryz.func34 O2) Tr.all_nil)))) (.of Tryz.func35 Pt) (Tr.aa (Tr.aa (Tr.aa (Tr.aa Tr.all_nil (.of Tryz.func36 Pv) Tr.all_nil) (.of Tryz.func39 c35) (Tr.aa Tr.all_nil (.of Tryz.func40 M6) Tr.all_nil)) (.of Tryz.func44 c34) (Tr.aa (Tr.aa Tr.all_nil (.of Tryz.func58 P3) Tr.all_nil) (.of Tryz.func63 P4) (Tr.aa Tr.all_nil (.of Tryz.func64 P5) Tr.all_nil))) (.of Tryz.func65 P6) (Tr.aa (Tr.aa (Tr.aa Tr.all_nil (.of Tryz.func73 M5) Tr.all_nil) (.of Tryz.func74 Nf) (Tr.aa Tr.all_nil (.of Tryz.func75 Ng) Tr.all_nil)) (.of Tryz.func76 M7) (Tr.aa (Tr.aa Tr.all_nil (.of Tryz.func77 M8) Tr.all_nil) (.of Tryz.func78 M4) Tr.all_nil)))) (.of Tryz.func79 M9) (Tr.aa (Tr.aa (Tr.aa (Tr.aa (Tr.aa Tr.all_nil (.of Tryz.func106 Qc) Tr.all_nil) (.of Tryz.func107 Qd) (Tr.aa Tr.all_nil (.of Tryz.func108 Qe) Tr.all_nil)) (.of Tryz.func109 Qf) (Tr.aa (Tr.aa Tr.all_nil (.of Tryz.func110 Qg) Tr.all_nil) (.of Tryz.func111 Qh) (Tr.aa Tr.all_nil (.of Tryz.func112 Qi) Tr.all_nil))) (.of Tryz.func113 Qj) (Tr.aa (Tr.aa (Tr.aa Tr.all_nil (.of Tryz.func114 Qk) Tr.all_nil) (.of Tryz.func119 Nn) (Tr.aa Tr.all_nil (.of Tryz.func120 No) Tr.all_nil)) (.of Tryz.func121 Np) (Tr.aa (Tr.aa Tr.all_nil (.of Tryz.func122 Nh) Tr.all_nil) (.of Tryz.func123 Na) Tr.all_nil))) (.of Tryz.func124 Nb) (Tr.aa (Tr.aa (Tr.aa (Tr.aa Tr.all_nil (.of Tryz.func125 Nc) Tr.all_nil) (.of Tryz.func126 Nd) (Tr.aa Tr.all_nil (.of Tryz.func127 Ni) Tr.all_nil)) (.of Tryz.func139 Qo) (Tr.aa (Tr.aa Tr.all_nil (.of Tryz.func143 Nj) Tr.all_nil) (.of Tryz.func144 Nk) (Tr.aa Tr.all_nil (.of Tryz.func145 Nl) Tr.all_nil))) (.of Tryz.func163 Qq) (Tr.aa (Tr.aa (Tr.aa Tr.all_nil (.of Tryz.func164 Nq) Tr.all_nil) (.of Tryz.func165 Nr) (Tr.aa Tr.all_nil (.of Tryz.func166 Ns) Tr.all_nil)) (.of Tryz.func167 Nt) (Tr.aa (Tr.aa Tr.all_nil (.of Tryz.func168 Nu) Tr.all_nil) (.of Tryz.func169 Nv) Tr.all_nil)))))
theorem ia:dY Tryz.prog T16:=ru (by kernel_rfl) M0
theorem NH:DV T16:={nu:={le:={md:={au:={so:={co:={p:=ia.bI,f188:=by kernel_rfl,f254:=by kernel_rfl},f323:=by kernel_rfl,f347:=by kernel_rfl},f280:=by kernel_rfl},f239:=by kernel_rfl,f165:=by kernel_rfl},bk:={cs:={df:={rt:={p:=ia.bI,f273:=by kernel_rfl,f274:=by kernel_rfl,f276:=by kernel_rfl,f277:=by kernel_rfl,f278:=by kernel_rfl,f279:=by kernel_rfl},f272:=by kernel_rfl,f275:=by kernel_rfl},f237:=by kernel_rfl},fm:={fi:={ft:={mp:={cp:={p:=ia.bI,f123:=by kernel_rfl,f213:=by kernel_rfl,f214:=by kernel_rfl,f264:=by kernel_rfl,f265:=by kernel_rfl,f266:=by kernel_rfl},tu:={p:=ia.bI,f263:=by kernel_rfl,f317:=by kernel_rfl,f318:=by kernel_rfl,f319:=by kernel_rfl,f320:=by kernel_rfl,f321:=by kernel_rfl,f322:=by kernel_rfl},f126:=by kernel_rfl,f127:=by kernel_rfl,f211:=by kernel_rfl,f215:=by kernel_rfl,f261:=by kernel_rfl,f262:=by kernel_rfl},bd:={cp:={p:=ia.bI,f123:=by kernel_rfl,f213:=by kernel_rfl,f214:=by kernel_rfl,f264:=by kernel_rfl,f265:=by kernel_rfl,f266:=by kernel_rfl},f210:=by kernel_rfl},li:={p:=ia.bI,f212:=by kernel_rfl},co:={p:=ia.bI,f188:=by kernel_rfl,f254:=by kernel_rfl},f35:=by kernel_rfl,f121:=by kernel_rfl,f209:=by kernel_rfl},f34:=by kernel_rfl,f120:=by kernel_rfl},f238:=by kernel_rfl},f164:=by kernel_rfl},f69:=by kernel_rfl},wd:={fi:={ft:={mp:={cp:={p:=ia.bI,f123:=by kernel_rfl,f213:=by kernel_rfl,f214:=by kernel_rfl,f264:=by kernel_rfl,f265:=by kernel_rfl,f266:=by kernel_rfl},tu:={p:=ia.bI,f263:=by kernel_rfl,f317:=by kernel_rfl,f318:=by kernel_rfl,f319:=by kernel_rfl,f320:=by kernel_rfl,f321:=by kernel_rfl,f322:=by kernel_rfl},f126:=by kernel_rfl,f127:=by kernel_rfl,f211:=by kernel_rfl,f215:=by kernel_rfl,f261:=by kernel_rfl,f262:=by kernel_rfl},bd:={cp:={p:=ia.bI,f123:=by kernel_rfl,f213:=by kernel_rfl,f214:=by kernel_rfl,f264:=by kernel_rfl,f265:=by kernel_rfl,f266:=by kernel_rfl},f210:=by kernel_rfl},li:={p:=ia.bI,f212:=by kernel_rfl},co:={p:=ia.bI,f188:=by kernel_rfl,f254:=by kernel_rfl},f35:=by kernel_rfl,f121:=by kernel_rfl,f209:=by kernel_rfl},f34:=by kernel_rfl,f120:=by kernel_rfl},f33:=by kernel_rfl,f89:=by kernel_rfl,f90:=by kernel_rfl},f158:=by kernel_rfl,f159:=by kernel_rfl,f233:=by kernel_rfl,f160:=by kernel_rfl,f161:=by kernel_rfl,f162:=by kernel_rfl,f67:=by kernel_rfl},f16:=by kernel_rfl,f21:=by kernel_rfl,f32:=by kernel_rfl,f118:=by kernel_rfl,f119:=by kernel_rfl}
open Go.RowKit in
theorem uA{W:World}(V:uC W){sl1 sl2 sl3 ov sv':Value}{os:List Od}{ss:List Sp}{r:Int}(h1:Kb W sl1 ov sv' os ss r){cr:List Wd}(h2:Ke W sl2 cr){ps:List (List Nat)}(h3:MW W sl3 ps):Calls Tryz.prog 4 #[sl1,sl2,sl3] W fun e W'=>e= .returned (.bool true)∧Below W.heap.size W W':=by
 obtain⟨rfl,hso,hsp⟩:=h1
 obtain⟨h,μ,hRR,hro,hrd,hnx,hgl,⟨a1,n1,hu1,hs1,hc1⟩,⟨a2,n2,hu2,hs2,hc2⟩,⟨a3,n3,hu3,hs3,hc3⟩,a4,n4,hu4,hs4,hc4⟩:=La V.gl hso.1 hsp.1 h2.1 h3.1
 have hlen:∀{z n c:Nat} {a:Option Addr} {cs:List Value},cA h z (.slice a n c) n cs→c<UNK→n<4611686018427387904:=fun hs hc=>by
  rcases cA.inv hs with⟨_,_,h0,_⟩|⟨b,o,cap,hv,_,hc'⟩
  ·rw[h0];decide
  ·cases hv;unfold UNK at hc;omega
 obtain⟨_,_,⟨m,hm⟩,rfl,rfl⟩:=NU NH hrd (hgl 0 _ List.mem_cons_self) (by omega) (r:=r) (so:=⟨hs1,hso.2⟩) (hlen hs1 hc1) ⟨hs2,hsp.2⟩ (hlen hs2 hc2) ⟨hs3,h2.2⟩ (hlen hs3 hc3) ⟨hs4,h3.2⟩ (hlen hs4 hc4) (yG h2.2 h3.2)
 have hrun:=hm m (Nat.le_refl _)
 have ha:LR μ [seV (.slice a1 os.length n1) (.slice a2 ss.length n2) r, .slice a3 cr.length n3, .slice a4 ps.length n4] [seV ov sv' r,sl2,sl3]:= .cons (.Ct (by unfold seL;rw[List.toList_toArray,List.toList_toArray];exact .cons hu1 (.cons hu2 (.cons (.int _ _) .nil)))) (.cons hu3 (.cons hu4 .nil))
 refine(mM ia hrun hrd.log (by kernel_rfl) hRR ha).mono fun e W' hq=> ?_
 obtain⟨μ',q1,q2,q3⟩:=hq
 cases e with
 |returned v'=>
  have hv:VR μ' (.bool true) v':=q1
  cases hv
  exact⟨rfl,St.below q3 hro⟩
 |panicked _=>exact q1.elim
 |outgrown=>exact q1.elim
end Go.A.Pk
end
