/- Walks of functions, plain laws, the table. -/
import Derived.Test.YteafdpbjocdbbaaGreatDoorHU1
import Derived.Test.YteafdpbjocdbbaaGreatDoorHF
import Derived.Test.YteafdpbjocdbbaaGreatDoorHU0
import Derived.Test.YteafdpbjocdbbaaGreatDoorHD
set_option linter.all false
section
set_option maxRecDepth 100000
namespace Go.A.Pk
variable {T:Nat→Option ah}
theorem AB{W kerf:Int}{ws:List Int}{kl:List Kd}(hW:0≤W)(hk:0≤kerf)(hws:∀x∈ws,0≤x∧x≤W):∀(xs:List (Nat×Nat)) (t:Tab),(∀x∈xs,1≤x.1∧1≤x.2)→Bd W t→Bd W (xs.foldl (fun t x=>upd t x (val kerf ws kl t x.1 x.2)) t)
 |[],t,_,h=>h
 |x::xs,t,hx,h=>AB hW hk hws xs _ (fun y hy=>hx y (List.mem_cons_of_mem _ hy)) (zA (hx x (List.mem_cons_self ..)) (CI hW hk hws h (hx x (List.mem_cons_self ..)).1 (hx x (List.mem_cons_self ..)).2) h)
theorem rR{kerf:Int}{l:List Kd}(hc:chk kerf l=0){w ht:Int}(hb:OnB w ht):0≤gD kerf l w ht∧gD kerf l w ht≤256000000:=by
 obtain⟨q1,q2,q3,q4⟩:=dY.1 hc
 have hB:Bd 1000000 (oq kerf (l.map (·.bq)) l (aU w.toNat ht.toNat)):=AB (by omega) q2.1 (fun x hx=>by
  obtain⟨k,hk,rfl⟩:=List.mem_map.1 hx
  exact(q3 k hk).2.2.2) _ _ (fun x hx=>by have:=fW hx;omega) (fun e he=>by cases he)
 obtain⟨⟨h1,h2⟩,h3,h4⟩:=hb
 unfold gD
 rcases qX (w,ht) hB with h|⟨_,_,h5,h6⟩
 ·rw[h];omega
 ·have:=gJ (W:=1000000) (a:=w) (b:=ht) (c:=16) (d:=16) (by omega) (by omega) h2 (by omega) h4
  exact⟨h5,Int.le_trans h6 (Int.le_trans this (by omega))⟩
end Go.A.Pk
end
section
set_option maxRecDepth 100000
namespace Go.A.Pk
variable {T:Nat→Option ah}
structure FnsPn (T:Nat→Option ah):Prop extends FnsW T,FnsPl T where
 f36:T 36=some f36
def wsP(l:List Kd):List Int:=l.map (·.bq)
def lO(kerf:Int)(l:List Kd)(w ht:Int):Tab:=oq kerf (wsP l) l (aU w.toNat ht.toNat)
theorem kT{kerf:Int}{l:List Kd}(hc:chk kerf l=0){w ht:Int}(hb:OnB w ht)(y:Int×Int):look (lO kerf l w ht) y=if 1≤y.1∧y.1≤w∧1≤y.2∧y.2≤ht then gD kerf l y.1 y.2 else 0:=by
 have hk:=(dY.1 hc).2.1.1
 obtain⟨⟨h1,_⟩,h3,_⟩:=hb
 have:=oN hk (ws:=wsP l) (kl:=l) (h:=ht.toNat) w.toNat 0 (Nat.zero_le _) y
 rw[show aU w.toNat ht.toNat++row (w.toNat+1) 0=aU w.toNat ht.toNat by simp[row]]at this
 unfold lO
 rw[this]
 by_cases hy:1≤y.1∧y.1≤w∧1≤y.2∧y.2≤ht
 ·rw[if_pos hy,if_pos (by omega),mB hk hy.1 hy.2.2.1];rfl
 ·rw[if_neg hy,if_neg (by omega)]
theorem vt{kerf:Int}{l:List Kd}(hc:chk kerf l=0){w ht:Int}(hb:OnB w ht)(y:Int×Int):0≤look (lO kerf l w ht) y∧look (lO kerf l w ht) y≤256000000:=by
 rw[kT hc hb]
 by_cases hy:1≤y.1∧y.1≤w∧1≤y.2∧y.2≤ht
 ·rw[if_pos hy]
  obtain⟨⟨_,h2⟩,_,h4⟩:=hb
  exact rR hc ⟨⟨hy.1,by omega⟩,hy.2.2.1,by omega⟩
 ·rw[if_neg hy];omega
def oG(kerf:Int)(l:List Kd)(w ht:Int)(v:Value)(h:Heap):Prop:=∃ns a c,v= .tuple #[.slice a ns.length c, .int .i64 (asked kerf l (OnB w ht))]∧aA h 2 (.slice a ns.length c) ns.length (ncs ns)∧(U2 h (.slice a ns.length c)∧(c=UNK∨c<1000000))∧
 (asked kerf l (OnB w ht)=0→ij kerf (wsP l) l (lO kerf l w ht) (w,ht) ns)∧(asked kerf l (OnB w ht)≠0→ns=[])
theorem oG.log{kerf:Int}{l:List Kd}{w ht:Int}(v:Value)(h':Heap)(m:List Nat)(q:oG kerf l w ht v h'):oG kerf l w ht v {h' with log:=m}:=by
 obtain⟨ns,a,c,h1,h2,h3,h4⟩:=q
 exact⟨ns,a,c,h1,h2.log m,h3,h4⟩
theorem oG.gc{kerf:Int}{l:List Kd}{w ht:Int}{h:Heap}(v:Value)(h1:Heap)(hv:cD v=true)(q:oG kerf l w ht v h1):oG kerf l w ht v h:=by
 obtain⟨ns,a,c,rfl,s,u,r⟩:=q
 have hu:U2 h (.slice a ns.length c):=fun b o n e=>by cases e;simp[cD,fR,flat,cp,jj,fA]at hv
 refine⟨ns,a,c,rfl,?_,⟨hu,u.2⟩,r⟩
 clear r u hu
 generalize ns.length=n at*
 generalize ncs ns=cs at*
 cases s with
 |nil=>exact .nil
 |mem s _=>simp[cD,fR,flat,cp,jj,fA]at hv
set_option maxHeartbeats 8000000 in
theorem I7(F:FnsPn T){h:Heap}(hr:Rdy h){a:Option Addr}{n c:Nat}{l:List Kd}(hs:aA h 5 (.slice a n c) n (kcs l))(kerf:Int)(hn:n<1000000)(w ht:Int):
 Al T 36 [.agg #[.slice a n c, .int .i64 kerf], .int .i64 w, .int .i64 ht] h (oG kerf l w ht):=by
 refine .of F.toFnsW.toFnsE.toFnsA.p F.f36 hr oG.gc ?_
 have hx:Ext h (h.push (.cells [.slice a n c, .int .i64 kerf] true 1)):=(Ext.refl h).push _
 obtain rfl:n=l.length:=by have:=hs.len;rw[cP]at this;omega
 refine y4 ?_;refine yB ?_;refine yM ?_;refine yM ?_;refine y3 ?_;refine aq ?_;refine cG ?_
 refine qN ?_
 refine qM ?_;refine qM ?_
 refine qC ?_
 refine FW.puD (vv F.toFnsW (.of (hx.wf hr.wf)) w ht) (by apply aa rfl;apply aa rfl;apply aM rfl (ay rfl (cS (by exact rfl) (by(simp(disch:=first|omega|(simp only[z1,z2];omega))only[z3,z4,z5,z6,z7,z1,z2, *];exact rfl)) (by exact rfl) (by exact rfl)) (by exact eU (by refine bN (gC _ _ _) ?_;refine bN (dz _ _) ?_;exact eW))) rfl;exact bT) ?_
 refine jB rfl rfl rfl (by exact rfl) (by exact rfl) (by exact rfl) (gE (by exact rfl) (by exact rfl)) (by refine b8 (ay rfl (cS (by exact rfl) (by(simp(disch:=first|omega|(simp only[z1,z2];omega))only[z3,z4,z5,z6,z7,z1,z2, *];exact rfl)) (by exact rfl) (by exact rfl)) (by exact eU (by refine bN (gC _ _ _) ?_;refine bN (dz _ _) ?_;exact eW))) ?_;exact jx) ?_
 refine qC ?_
 have hx2:=hx.push (.cells [.bool (decide (OnB w ht))] true 1)
 refine FW.alD (lD F.toFnsW.toFnsE (.of (hx2.wf hr.wf)) ((hs.ext hx2).log []) kerf hn (bl:=[decide (OnB w ht)]) (m:=1) (.mem ⟨Nat.lt_succ_self _,⟨_,_,_,z3 _ _,rfl⟩,rfl⟩ (Nat.le_refl _)) (by omega)) (fun v h' m q=>mX.BH v h' m q) ?_
 rintro _ h1 hx3 ⟨p,rfl,hst⟩
 rw[fk]at hst
 rw[fk]
 refine⟨_,by apply aa rfl;apply aa rfl;exact bT,?_⟩
 have w1:WF h1:=hx3.wf (hx2.wf hr.wf)
 have hx13:Ext h h1:=hx2.trans hx3
 by_cases ha:asked kerf l (OnB w ht)=0
 ·obtain⟨bb,wa,wc,rfl,gb,hws⟩:=hst ha
  have hP:=jc ha
  obtain⟨q1,q2,q3,q4⟩:=dY.1 hP.1
  have hb:=hP.2
  obtain⟨⟨e1,e2⟩,e3,e4⟩:=hP.2
  obtain⟨wn,rfl⟩:=Int.eq_ofNat_of_zero_le (show 0≤w by omega)
  obtain⟨hn',rfl⟩:=Int.eq_ofNat_of_zero_le (show 0≤ht by omega)
  have hwb:∀x∈wsP l,0≤x∧x≤1000000:=fun x hx=>by
   obtain⟨k,hk,rfl⟩:=List.mem_map.1 hx
   exact(q3 k hk).2.2.2
  have hT:∀q, -1000000000000≤look (lO kerf l wn hn') q∧look (lO kerf l wn hn') q≤1000000000000:=fun q=>by
   have:=vt hP.1 hb q
   omega
  rw[ha]
  refine qM ?_;refine qE ?_;refine qE ?_
  refine qM ?_;refine qM ?_;refine cF ?_;refine y1 ?_;refine aP ?_;refine aq ?_;refine y4 ?_
  refine yM ?_;refine yf ?_;refine y3 ?_;refine yX ?_;refine aB ?_;refine aP ?_;refine y4 ?_
  refine yM ?_;refine yM ?_;refine yM ?_;refine yM ?_
  refine yC ?_
  refine FW.al (yZ F.toFnsW.toFnsV (.of w1) (w:=wn) (ht:=hn') (W:=1000000) (ws:=wsP l) (by omega) (by omega) (by omega) ⟨by omega,by omega⟩ (by omega) hwb gb ((hs.ext hx13).log []) (hws.log [])) (fun _ _ _ q=>q) ?_
  rintro _ h2 hx4 ⟨r,rfl,gr⟩
  have w2:=hx4.wf w1
  have hx14:=hx13.trans hx4
  refine yM ?_;refine yM ?_;refine af (ck (by exact rfl)) ?_
  refine yC ?_
  refine FW.al (Jx F.toFnsPl (by omega) (by omega) hT _ ((wn:Int),(hn':Int)) _ (Nat.le_refl _) e2 e4 (.of w2) ⟨(hx4.old _ (WF.aT w1 gb)).trans gb,by unfold lO;rw[Int.toNat_natCast,Int.toNat_natCast];exact gr,(hs.ext hx14).log [],(hws.ext hx4).log []⟩) (fun v h' m q=>kj.log v h' m q) ?_
  rintro _ h3 hx5 ⟨ns,a3,c3,R,rfl,s3,u3⟩
  refine yM ?_;refine yM ?_;refine y3 ?_;refine aH ?_
  exact dn (vs:=[.slice a3 ns.length c3, .int .i64 0]) ((hx14.trans hx5).log.trans hr.log) rfl ⟨ns,a3,c3,by rw[ha];rfl,s3,u3,fun _=>R,fun q=>absurd ha q⟩
 ·refine qM ?_;refine qE ?_;refine qE ?_
  refine qM ?_;refine qM ?_;refine cF ?_;refine y1 ?_;refine aP ?_;refine aq ?_;refine y4 ?_
  refine yM ?_;refine yt ?_;refine y3 ?_;refine yY ?_;refine y4 ?_;refine yM ?_
  refine yM ?_;refine yM ?_;refine y3 ?_;refine aH ?_;refine ej ?_
  exact dn (vs:=[.slice none 0 0, .int .i64 (asked kerf l (OnB w ht))]) (hx13.log.trans hr.log) rfl ⟨[],none,0,rfl, .nil,⟨(fun _ _ _ e=>by cases e), .inr (by omega)⟩,fun q=>absurd q ha,fun _=>rfl⟩
end Go.A.Pk
end
section
set_option maxRecDepth 100000
namespace Go.A.Pk
variable {T:Nat→Option ah}
def ncI:List (Nat×Int)→List Value
 |[]=>[]
 |x::l=>[.int .u8 x.1, .int .i64 x.2]++ncI l
theorem rj:∀l,(ncI l).length=l.length*2
 |[]=>rfl
 |x::l=>by simp[ncI,rj l];omega
theorem Aw:∀l:List (Nat×Nat),ncs l=ncI (l.map fun x=>(x.1,(x.2:Int)))
 |[]=>rfl
 |x::l=>by rw[ncs,List.map_cons,ncI,Aw l];rfl
structure Sm where
 ok:Bool
 bq:Int
 cells:Int
 depth:Int
 used:List Int
def z12:List Int:=[0,0,0,0,0,0,0,0,0,0,0,0]
def sm0:Sm:=⟨false,0,0,0,z12⟩
def isP(k:Kd)(kind:Nat)(p:Int×Int):Prop:=(kind=1∧k.w=p.1∧k.h=p.2)∨(kind=2∧k.j4=true∧k.h=p.1∧k.w=p.2)
instance(k:Kd)(kind:Nat)(p:Int×Int):Decidable (isP k kind p):=by unfold isP;infer_instance
def fC(x:Nat×Int)(p:Int×Int):Int×Int:=if x.1=3 then(x.2,p.2)else(p.1,x.2)
def gz(kerf:Int)(x:Nat×Int)(p:Int×Int):Int×Int:=if x.1=3 then(p.1-x.2-kerf,p.2)else(p.1,p.2-x.2-kerf)
def eD(x:Nat×Int)(p:Int×Int):Int:=if x.1=3 then p.1 else p.2
def jz(l:List Kd)(x:Nat×Int)(p:Int×Int):Sm×Nat:=
 if 0≤x.2∧x.2≤(l.length:Int)-1 then(match l[x.2.toNat]? with
  |some k=>(⟨decide (isP k x.1 p),k.bq,p.1*p.2,0,z12.set x.2.toNat 1⟩,1)
  |none=>(sm0,0))else(sm0,0)
def jq(l:List Kd)(x:Nat×Int)(p:Int×Int):Sm×Nat:=
 if x.1=0 then({sm0 with ok:=decide (x.2=0)},1)else if x.1=1∨x.1=2 then jz l x p else(sm0,0)
def gF(kerf size at1:Int)(one two:Sm×Nat):Sm×Nat:=
 if one.1.ok=true then
  if size-at1-kerf<1 then({one.1 with depth:=one.1.depth+1},one.2+1)
  else if two.1.ok=true then(⟨true,one.1.bq+two.1.bq,one.1.cells+two.1.cells,1+mx one.1.depth two.1.depth,List.zipWith (· + ·) one.1.used two.1.used⟩,1+one.2+two.2)
  else(sm0,0)
 else(sm0,0)
def bP(kerf:Int)(l:List Kd):Nat→Int×Int→List (Nat×Int)→Sm×Nat
 |_,_,[]=>(sm0,0)
 |0,p,x::_=>if x.1=3∨x.1=4 then(sm0,0)else jq l x p
 |f+1,p,x::ns=>if x.1=3∨x.1=4 then
   (if 1≤x.2∧x.2≤eD x p-1 then gF kerf (eD x p) x.2 (bP kerf l f (fC x p) ns) (bP kerf l f (gz kerf x p) (ns.drop (bP kerf l f (fC x p) ns).2))else(sm0,0))
  else jq l x p
structure TB (s:Sm) (m:Nat):Prop where
 bq:0≤s.bq∧s.bq≤1000000*m
 cells:0≤s.cells∧s.cells≤256*m
 depth:0≤s.depth∧s.depth≤m
 len:s.used.length=12
 used:∀u∈s.used,0≤u∧u≤m
theorem TB.zero(b:Bool)(m:Nat):TB {sm0 with ok:=b} m:=⟨by show(0:Int)≤0∧(0:Int)≤_;omega,by show(0:Int)≤0∧(0:Int)≤_;omega,by show(0:Int)≤0∧(0:Int)≤_;omega,rfl,fun u hu=>by
 have:u=0:=by simpa[sm0,z12]using hu
 omega⟩
theorem Aj{kerf:Int}{l:List Kd}(hc:chk kerf l=0)(x:Nat×Int){p:Int×Int}(h1:1≤p.1∧p.1≤16)(h2:1≤p.2∧p.2≤16):TB (jq l x p).1 (jq l x p).2∧(jq l x p).2≤1:=by
 unfold jq
 split
 ·exact⟨TB.zero _ _,Nat.le_refl _⟩
 ·split
  ·unfold jz
   split
   ·split
    ·rename_i k hk
     have:=(dY.1 hc).2.2.1 k (List.mem_of_getElem? hk)
     refine⟨⟨by dsimp only;have:=this.2.2.2;omega,?_,by show(0:Int)≤0∧(0:Int)≤_;omega,by simp[z12],fun u hu=> ?_⟩,Nat.le_refl _⟩
     ·have q1:=Int.mul_nonneg (show 0≤p.1 by omega) (show 0≤p.2 by omega)
      have q2:=Int.mul_le_mul h1.2 h2.2 (by omega) (by omega)
      dsimp only
      omega
     ·rcases List.mem_or_eq_of_mem_set hu with hu|rfl
      ·have:u=0:=by simpa[z12]using hu
       omega
      ·omega
    ·exact⟨TB.zero false _,Nat.zero_le _⟩
   ·exact⟨TB.zero false _,Nat.zero_le _⟩
  ·exact⟨TB.zero false _,Nat.zero_le _⟩
theorem AP{a b:List Int}{u:Int}(h:u∈List.zipWith (· + ·) a b):∃x∈a,∃y∈b,u=x+y:=by
 induction a generalizing b with
 |nil=>simp at h
 |cons x a ih=>
  cases b with
  |nil=>simp at h
  |cons y b=>
   rw[List.zipWith_cons_cons,List.mem_cons]at h
   rcases h with rfl|h
   ·exact⟨x,List.mem_cons_self ..,y,List.mem_cons_self ..,rfl⟩
   ·obtain⟨x',hx,y',hy,e⟩:=ih h
    exact⟨x',List.mem_cons_of_mem _ hx,y',List.mem_cons_of_mem _ hy,e⟩
theorem lG{kerf:Int}{l:List Kd}(hc:chk kerf l=0):∀(f:Nat) (p:Int×Int) (ns:List (Nat×Int)),1≤p.1∧p.1≤16→1≤p.2∧p.2≤16→TB (bP kerf l f p ns).1 (bP kerf l f p ns).2∧(bP kerf l f p ns).2≤ns.length
 |f,p,[],_,_=>by cases f<;>exact⟨TB.zero false _,Nat.le_refl _⟩
 |0,p,x::ns,h1,h2=>by
  rw[bP]
  split
  ·exact⟨TB.zero false _,Nat.zero_le _⟩
  ·have:=Aj hc x h1 h2
   exact⟨this.1,by simp;omega⟩
 |f+1,p,x::ns,h1,h2=>by
  rw[bP]
  split
  ·split
   ·rename_i hk hat
    have hk0:=(dY.1 hc).2.1
    have g1:1≤(fC x p).1∧(fC x p).1≤16:=by unfold fC;unfold eD at hat;split<;>(split at hat)<;>dsimp only<;>omega
    have g2:1≤(fC x p).2∧(fC x p).2≤16:=by unfold fC;unfold eD at hat;split<;>(split at hat)<;>dsimp only<;>omega
    obtain⟨t1,n1⟩:=lG hc f (fC x p) ns g1 g2
    generalize bP kerf l f (fC x p) ns=one at*
    unfold gF
    split
    ·split
     ·refine⟨⟨?_,?_,?_,t1.len,fun u hu=> ?_⟩,by simp;omega⟩
      ·have:=t1.bq;dsimp only;omega
      ·have:=t1.cells;dsimp only;omega
      ·have:=t1.depth;dsimp only;omega
      ·have:=t1.used u hu;omega
     ·rename_i hr
      have g3:1≤(gz kerf x p).1∧(gz kerf x p).1≤16:=by unfold gz;unfold eD at hat hr;split<;>(split at hat)<;>(split at hr)<;>dsimp only<;>omega
      have g4:1≤(gz kerf x p).2∧(gz kerf x p).2≤16:=by unfold gz;unfold eD at hat hr;split<;>(split at hat)<;>(split at hr)<;>dsimp only<;>omega
      obtain⟨t2,n2⟩:=lG hc f (gz kerf x p) (ns.drop one.2) g3 g4
      generalize bP kerf l f (gz kerf x p) (ns.drop one.2)=two at*
      rw[List.length_drop]at n2
      split
      ·refine⟨⟨?_,?_,?_,?_,fun u hu=> ?_⟩,by simp;omega⟩
       ·have:=t1.bq;have:=t2.bq;dsimp only;omega
       ·have:=t1.cells;have:=t2.cells;dsimp only;omega
       ·have:=t1.depth;have:=t2.depth;dsimp only;unfold mx;split<;>omega
       ·simp[t1.len,t2.len]
       ·obtain⟨a,ha,b,hb,rfl⟩:=AP hu
        have:=t1.used a ha;have:=t2.used b hb;omega
      ·exact⟨TB.zero false _,Nat.zero_le _⟩
    ·exact⟨TB.zero false _,Nat.zero_le _⟩
   ·exact⟨TB.zero false _,Nat.zero_le _⟩
  ·have:=Aj hc x h1 h2
   exact⟨this.1,by simp;omega⟩
section
variable {base:Nat} {h:Heap} {e:Env}
theorem yx{x y:Operand}{b n sz:Nat}{vs cs:List Value}(hx:ev h e x=some (.pointer (some ⟨b,0,none⟩)))(hy:ev h e y=some (.agg cs.toArray))(hb:h.get b=some (.cells vs true sz))(hn:cs.length=n)(hv:vs.length=n)(h1:fB cs=true):
 aop h base e (.store n x y)=some (.val (.tuple #[]) (h.wr base b (.cells cs true sz))):=by
 have hc:cellsOf (.agg cs.toArray)=cs:=by show cs.toArray.toList=cs;simp
 refine jF hx hy hb ?_ ?_
 ·rw[hc,dF,dF,hn,hv,h1,jM,Nat.zero_add,fe (Nat.le_refl n)];rfl
 ·rw[hc,nj (by omega)]
  simp only[List.take_zero,List.nil_append,Nat.zero_add]
  rw[List.drop_of_length_le (by omega),List.append_nil]
end
theorem DK{base:Nat}{h:Heap}{e:Env}{size b o n c i j:Nat}{x:Operand}{lo hi:Option Operand}(hx:ev h e x=some (.slice (some ⟨b,o,none⟩) n c))(hl:bnd h e 0 lo=some i)(hh:bnd h e n hi=some j)(h1:i≤j)(h2:j≤c)(h3:i<c)(h4:c<UNK):
 aop h base e (.slice (.sl size) x lo hi none)=some (.val (.slice (some ⟨b,o+i*size,none⟩) (j-i) (c-i)) h):=by
 simp only[aop,hx,eY,hl,hh,jW (show c≠UNK by omega),fe h1,fe h2,jW (show c≠i by omega),Bool.and_self,cond_true,cond_false,dU]
end Go.A.Pk
end
section
set_option maxRecDepth 100000
namespace Go.A.Pk
variable {T:Nat→Option ah}
theorem WE.Lc{base:Nat}{rnd:Option Nat}{c:aJ}{Q:XQ}{e:Env}{ds:Dfs}{h:Heap}(hK:∀hA,hA=h→WE T base rnd c Q e ds hA):WE T base rnd c Q e ds h:=hK h rfl
end Go.A.Pk
end
section
set_option maxRecDepth 100000
namespace Go.A.Pk
variable {T:Nat→Option ah}
theorem ya{h:Heap}{b o n:Nat}{x:Nat×Int}{ns:List (Nat×Int)}(s:ki h b o n 2 (ncI (x::ns))):∃vs own t,h.get b=some (.cells vs own t)∧dM 2 (dN (o+0*2) vs)=[.int .u8 x.1, .int .i64 x.2]:=by
 obtain⟨vs,own,t,g1,g2⟩:=s.obj
 refine⟨vs,own,t,g1,?_⟩
 have hl:=s.len
 rw[rj]at hl
 have h1:(dM (n*2) (dN o vs)).take 2=[.int .u8 x.1, .int .i64 x.2]:=by rw[g2];rfl
 rw[dj,cu,List.take_take,Nat.min_eq_left (by simp at hl;omega)]at h1
 rw[dj,cu,Nat.zero_mul,Nat.add_zero]
 exact h1
end Go.A.Pk
end
section
set_option maxRecDepth 100000
namespace Go.A.Pk
variable {T:Nat→Option ah}
def fu(kerf:Int)(l:List Kd)(p:Int×Int)(ns:List (Nat×Int)):Sm:=if(bP kerf l 32 p ns).1.ok=true∧(bP kerf l 32 p ns).2=ns.length then(bP kerf l 32 p ns).1 else sm0
def sI(kerf:Int)(l:List Kd)(w ht:Int)(ns:List (Nat×Int)):Value:=if asked kerf l (OnB w ht)=0 then .tuple #[.int .i64 (fu kerf l (w,ht) ns).bq, .bool (fu kerf l (w,ht) ns).ok, .int .i64 0]else .tuple #[.int .i64 0, .bool false, .int .i64 (asked kerf l (OnB w ht))]
end Go.A.Pk
end
section
set_option maxRecDepth 100000
namespace Go.A.Pk
variable {T:Nat→Option ah}
theorem xp{base:Nat}{h:Heap}{b:Nat}(hb:b<h.next)(o o':bE):({(({h with log:=[]}:Heap).wr h.next b o).push o' with log:=ax base h.log ((({h with log:=[]}:Heap).wr h.next b o).push o').log}:Heap)=(h.wr base b o).push o':=
 congrArg (fun k:Heap=>k.push o') (yQ hb o)
theorem Ey{base:Nat}{e:Env}{h:Heap}{lo sz bytes n:Nat}{ops:List aQ}{bf:List Nat}{rs:List Rec}{Q:Env→Heap→Prop}{i mask:Nat}{is:List Nat}{dst:Option Nat}{g:Option (Nat×Bool)}{er:Env}{x y:Operand}{v u:Value}{cs c1:List Value}
 (s:Own lo h sz v n cs)(hn:n<1000000)(hsz:0<sz)(hb:bytes≤100000)
 (ho:bG ops i=some ⟨dst, .append sz bytes x y,g⟩)(hm:bG bf i=some mask)(he:bS e (bR ⟨dst, .append sz bytes x y,g⟩)=er)(hwt:bA er g=some true)
 (hx:ev {h with log:=[]} er x=some v)(hy:ev {h with log:=[]} er y=some u)(hs:cK {h with log:=[]} sz u=some (c1,1))(hl1:c1.length=sz)(h1:fB c1=true)(h1':fB cs=true)
 (hlg:dG lo h.log)(hw:WF h)
 (hK:∀h' lg,Own h.next h' sz (.slice (some ⟨h.next,0,none⟩) (n+1) UNK) (n+1) (cs++c1)→h.next<h'.next→dG lo h'.log→WF h'→(∀z,z<h.next→(∀q a c,v= .slice (some ⟨q,0,none⟩) a c→z≠q)→h'.get z=h.get z)→∃rs',bg h' base lg mask rs=some rs'∧WD T base ops bf Q is rs' (bK e dst (.slice (some ⟨h.next,0,none⟩) (n+1) UNK)) h'):WD T base ops bf Q (i::is) rs e h:=by
 have hbd:(2*(n+1)+768)*bytes≤281474976710656:=by
  have:(2*(n+1)+768)*bytes≤2000768*100000:=Nat.mul_le_mul (by omega) hb
  omega
 cases s with
 |nil=>
  have:=Own.full (lo:=h.next) (h:=h.push (.cells c1 true sz)) (sz:=sz) (q:=h.next) (n:=1) (cs:=c1) (Nat.le_refl _) (Nat.lt_succ_self _) (z3 _ _) (by omega) (by omega)
  obtain⟨rs',q1,q2⟩:=hK _ [] this (Nat.lt_succ_self _) hlg (hw.push _) (fun z hz _=>z4 hz)
  exact tr (n:=1) ho hm he hwt hx hy hs (by omega) (by simpa using hbd) q1 q2
 | @full q _ _ q1 q2 q3 q4 q5=>
   have hF:Own h.next ((h.wr base q .dead).push (.cells (cs++c1) true sz)) sz (.slice (some ⟨h.next,0,none⟩) (n+1) UNK) (n+1) (cs++c1):= .full (Nat.le_refl _) (Nat.lt_succ_self _) (z3 _ _) (by rw[List.length_append,q4,hl1,Nat.add_mul,Nat.one_mul]) (by omega)
   obtain⟨rs',p1,p2⟩:=hK _ [q] hF (Nat.lt_succ_self _) (((Lk.refl lo h).wr (base:=base) (o:= .dead) q1).log hlg) ((hw.as (AS.wr base _ q .dead)).push _) (fun z hz hne=>(z4 (by exact hz)).trans (z5 (hne q _ _ rfl)))
   exact jJ ho hm he hwt rfl (rL (h:={h with log:=[]}) (n:=1) (vs:=cs) (ws:=cs++c1) hx hy hs (by omega) q3 q4 hsz h1 hbd (dB _ _)) (xp q2 _ _) (sJ q2 .dead) p1 p2
open I in
def Dy:aJ:=(I.R [g 12 (.new [O,O]),S 2 12 34] [10,11,12])
open I in
def wT:aJ:=(.block 1 (.draw [L 35 11,g 36 (.cQ 2 1 (t 12) (.const O)),L 37 36,C 38 .sub 37 1,L 39 11,g 40 (.cQ 2 1 (t 12) (.const O)),L 41 40,C 42 .sub 41 1,g 43 (.bp 1 (t 39) (t 42)),L 44 43,L 45 10,N 46 2 12,g 47 (.lookup true [.i .i64, .i .i64] O false (t 45) (t 46)),g 48 (.cJ [O] 1 [(0,1,(t 47))]),g 49 (.append 1 8 (t 44) (t 48)),g 50 (.bp 1 (t 35) (t 38)),S 1 50 49] [0,1,2,3,4,5,6,7,8,9,10,11,12,13,14,15,16] [0,0,2,6,0,0,32,96,240,496,0,0,3072,7168,16368,32767,65535] []))
theorem pS{v:Value}(hv:jj v=false):∀{vs:List Value} {i:Nat},i<vs.length→cp (vs.set i v)=false
 |w::vs,0,_=>by simp only[List.set,cp,hv,cond_false]
 |w::vs,i+1,h=>by
  simp only[List.set,cp]
  rw[pS hv (by simpa using h)]
  cases jj w<;>rfl
theorem Bg{α:Type}{l:List α}{i:Nat}{x:α}(h:i<l.length):cW l i [x]=l.set i x:=by
 rw[nj (by simp;omega),List.set_eq_take_append_cons_drop,if_pos h]
 simp
set_option maxHeartbeats 8000000 in
theorem Cx(hp:bC T){H:Heap}(hr:Rdy H){p10 p11 mq ob l i b n c m lo:Nat}{u:Tab}{fv v:Value}{vs:List Value}{xs:List Int}(hi:i<n)(hn:n<1000000)(hm:m<1000000)(hlo:lo≤ob)
 (gl:H.get l=some (.loop [(10, .pointer (some ⟨p10,0,none⟩)),(11, .pointer (some ⟨p11,0,none⟩)),(33,fv)] [34] Dy wT 0 .normal))
 (g10:H.get p10=some (.cells [.map (some mq)] true 1))(g11:H.get p11=some (.cells [.slice (some ⟨ob,0,none⟩) n c] true 1))(gt:H.get mq=some (.map (dI u)))
 (go:H.get ob=some (.cells vs true 1))(hvl:vs.length=n)(hv:bG vs i=some v)(own:Own lo H 1 v m (ints xs))(hne:∀q a k,v= .slice (some ⟨q,0,none⟩) a k→q≠ob∧q≠p10∧q≠p11∧q≠mq∧q≠l)(hop:ob≠p11)(hop2:ob≠p10):
 FW T (.yield l) [dV (i+1,b)] H fun r H'=>r= .ret (.bool true)∧(∀z∈H'.log,lo≤z)∧ob∈H'.log∧∃q',H.next≤q'∧H'.get ob=some (.cells (vs.set i (.slice (some ⟨q',0,none⟩) (m+1) UNK)) true 1)∧Own H.next H' 1 (.slice (some ⟨q',0,none⟩) (m+1) UNK) (m+1) (ints (xs++[look u ((i+1:Nat),b)]))∧(∀z,z<H.next→z≠ob→(∀q a k,v= .slice (some ⟨q,0,none⟩) a k→z≠q)→H'.get z=H.get z)∧WF H':=by
 have n10:=bF g10 gl
 have n11:=bF g11 gl
 have no:=bF go gl
 have nt:=mW gt gl
 have k10:=WF.aT hr.wf g10
 have k11:=WF.aT hr.wf g11
 have ko:=WF.aT hr.wf go
 have kt:=WF.aT hr.wf gt
 have kl':=WF.aT hr.wf gl
 refine FW.I4 hp (q:=ob) (R:=fun H'=>∃q',H.next≤q'∧H'.get ob=some (.cells (vs.set i (.slice (some ⟨q',0,none⟩) (m+1) UNK)) true 1)∧Own H.next H' 1 (.slice (some ⟨q',0,none⟩) (m+1) UNK) (m+1) (ints (xs++[look u ((i+1:Nat),b)]))∧(∀z,z<H.next→z≠ob→(∀q a k,v= .slice (some ⟨q,0,none⟩) a k→z≠q)→H'.get z=H.get z)∧WF H') gl rfl kl' ko no ?_
 unfold Dy
 refine aD ?_;refine af cN ?_;refine yS ?_;refine fo ?_
 refine y1 ?_
 refine⟨rfl,by(simp(disch:=first|omega|(simp only[z1,z2];omega))only[z3,z4,z5,z6,z7,z1,z2, *];exact rfl),?_⟩
 unfold wT
 refine aC ?_
 refine WE.Lc ?_
 intro hA hAe
 have A1:∀z,z<H.next→z≠l→H.get z=hA.get z:=fun z hz hne=>by rw[hAe];symm;simp(disch:=first|omega|(simp only[z1,z2];omega))only[z5,z4]
 have A3:hA.get H.next=some (.cells [.int .i64 (i+1:Nat), .int .i64 b] true 1):=by rw[hAe];(simp(disch:=first|omega|(simp only[z1,z2];omega))only[z3,z4,z5,z6,z7,z1,z2, *];exact rfl)
 have A2:hA.get l=some (.loop [(10, .pointer (some ⟨p10,0,none⟩)),(11, .pointer (some ⟨p11,0,none⟩)),(33,fv)] [34] Dy wT 1 .normal):=by rw[hAe];(simp(disch:=first|omega|(simp only[z1,z2];omega))only[z3,z4,z5,z6,z7,z1,z2, *];exact rfl)
 have A5:hA.next=H.next+1:=by rw[hAe];rfl
 have A6:hA.log=[]:=by rw[hAe];simp(disch:=first|omega|(simp only[z1,z2];omega))only[Heap.aI,Heap.cM];exact hr.log
 have A7:WF hA:=by rw[hAe];exact(((hr.wf.push _).as (AS.wr _ _ _ _)).as (AS.wr _ _ _ _))
 clear hAe
 have B10:=(A1 p10 k10 n10).symm.trans g10
 have B11:=(A1 p11 k11 n11).symm.trans g11
 have Bo:=(A1 ob ko no).symm.trans go
 have Bt:=(A1 mq kt nt).symm.trans gt
 have ownA:Own lo hA 1 v m (ints xs):=by
  revert own
  generalize ints xs=zs
  intro own
  cases own with
  |nil=>exact .nil
  | @full q _ _ q1 q2 q3 q4 q5=>exact .full q1 (by omega) ((A1 q q2 (hne q _ _ rfl).2.2.2.2).symm.trans q3) q4 q5
 obtain⟨va,vc,rfl⟩:∃va vc,v= .slice va m vc:=(own.slice (by omega)).form
 have hv':bG vs (0+i*1)=some (.slice va m vc):=by rw[Nat.zero_add,Nat.mul_one];exact hv
 have e1:cV .sub (.int .i64 (i+1:Nat)) (.int .i64 1)=some (.int .i64 (i:Nat)):=iX (by rw[bY]<;>omega)
 clear g10 g11 go gt
 refine cG ?_;refine qL ?_;refine ak rfl rfl rfl (by exact rfl) (by exact rfl) (by exact rfl) (bz (i:=0) (by exact rfl) (by exact rfl) (by omega)) ?_
 refine qL ?_;refine ak rfl rfl rfl (by exact rfl) (by exact rfl) (by exact rfl) (cE (by exact rfl) (by exact rfl) (by with_reducible assumption)) ?_
 refine qL ?_;refine ak rfl rfl rfl (by exact rfl) (by exact rfl) (by exact rfl) (bz (i:=0) (by exact rfl) (by exact rfl) (by omega)) ?_;refine qL ?_
 refine ak rfl rfl rfl (by exact rfl) (by exact rfl) (by exact rfl) (cE (by exact rfl) (by exact rfl) (by with_reducible assumption)) ?_;refine ak rfl rfl rfl (by exact rfl) (by exact rfl) (by exact rfl) (aN (by exact rfl) (by exact rfl) (by omega)) ?_
 refine ak rfl rfl rfl (by exact rfl) (by exact rfl) (by exact rfl) (bt (by exact rfl) (by assumption) (by assumption)) ?_;refine qL ?_
 refine qN ?_
 refine ak rfl rfl rfl (by exact rfl) (by exact rfl) (by exact rfl) (dH (x:=((i+1:Nat),b)) (by exact rfl) (by exact rfl) Bt) ?_
 refine jB rfl rfl rfl (by exact rfl) (by exact rfl) (by exact rfl) (gE (by exact rfl) (by exact rfl)) (by refine b8 (ay rfl (dH (x:=((i+1:Nat),b)) (by exact rfl) (by exact rfl) (by(simp(disch:=first|omega|(simp only[z1,z2];omega))only[z3,z4,z5,z6,z7,z1,z2, *];done))) (dL _ _)) ?_;refine b8 (ay rfl (cS (by exact rfl) (by(simp(disch:=first|omega|(simp only[z1,z2];omega))only[z3,z4,z5,z6,z7,z1,z2, *];exact rfl)) (by exact rfl) (by exact rfl)) (by exact eU (by refine bN (dz _ _) ?_;refine bN (dz _ _) ?_;exact eW))) ?_;refine b8 (ay rfl (bt (by exact rfl) (by(simp(disch:=first|omega|(simp only[z1,z2];omega))only[z3,z4,z5,z6,z7,z1,z2, *];exact rfl)) (by exact rfl)) (by exact Aa _)) ?_;refine b8 (ay rfl (bt (by exact rfl) (by(simp(disch:=first|omega|(simp only[z1,z2];omega))only[z3,z4,z5,z6,z7,z1,z2, *];exact rfl)) (by assumption)) (by exact kM _ _ _)) ?_;refine b8 (ay rfl (aN (by exact rfl) (by exact rfl) (by omega)) (by exact dy _)) ?_;refine b8 (ay rfl (cE (by exact rfl) (by exact rfl) (by with_reducible assumption)) (by exact dL _ _)) ?_;refine b8 (ay rfl (bt (by exact rfl) (by(simp(disch:=first|omega|(simp only[z1,z2];omega))only[z3,z4,z5,z6,z7,z1,z2, *];exact rfl)) (by exact rfl)) (by exact dL _ _)) ?_;refine b8 (ay rfl (bz (i:=0) (by exact rfl) (by exact rfl) (by omega)) (by exact dy _)) ?_;refine b8 (ay rfl (bt (by exact rfl) (by(simp(disch:=first|omega|(simp only[z1,z2];omega))only[z3,z4,z5,z6,z7,z1,z2, *];exact rfl)) (by exact rfl)) (by exact kM _ _ _)) ?_;refine b8 (ay rfl (cE (by exact rfl) (by exact rfl) (by with_reducible assumption)) (by exact dL _ _)) ?_;refine b8 (ay rfl (bt (by exact rfl) (by(simp(disch:=first|omega|(simp only[z1,z2];omega))only[z3,z4,z5,z6,z7,z1,z2, *];exact rfl)) (by exact rfl)) (by exact dL _ _)) ?_;refine b8 (ay rfl (bz (i:=0) (by exact rfl) (by exact rfl) (by omega)) (by exact dy _)) ?_;refine b8 (ay rfl (bt (by exact rfl) (by(simp(disch:=first|omega|(simp only[z1,z2];omega))only[z3,z4,z5,z6,z7,z1,z2, *];exact rfl)) (by exact rfl)) (by exact kM _ _ _)) ?_;exact jx) ?_
 refine Ey (lo:=lo) (v:= .slice va m vc) (c1:=[.int .i64 (look u ((i+1:Nat),b))]) (ownA.ext (((Ext.refl hA).push (.cells [.int .i64 (look u ((i+1:Nat),b))] true 1)))) hm (by omega) (by omega) rfl rfl rfl (by exact rfl) (by exact rfl) (by exact rfl) (qW (kI (cs:=[.int .i64 (look u ((i+1:Nat),b))]) (by(simp(disch:=first|omega|(simp only[z1,z2];omega)|(simp only[z1,z2];done)|fail)only[z8,z4,z5,z9,z7,z1,z2, *];exact rfl)) rfl rfl)) (by exact rfl) (by exact rfl) (rY _) (by rw[Heap.cM,A6];exact dG.nil _) (A7.push _) ?_
 intro h3 lg own3 n3 l3 w3 o3
 have eP:∀o,(hA.push o).next=H.next+2:=fun o=>by show hA.next+1=_;omega
 rw[eP]at own3 n3
 rw[eP]
 have C1:∀z,z<H.next+1→(∀q a c,Value.slice va m vc= .slice (some ⟨q,0,none⟩) a c→z≠q)→hA.get z=h3.get z:=fun z hz hq=>((o3 z (by rw[eP];omega) hq).trans (z4 (by omega))).symm
 clear o3
 have C10:=(C1 p10 (by omega) fun q a k e=>(hne q a k e).2.1.symm).symm.trans B10
 have C11:=(C1 p11 (by omega) fun q a k e=>(hne q a k e).2.2.1.symm).symm.trans B11
 have Co:=(C1 ob (by omega) fun q a k e=>(hne q a k e).1.symm).symm.trans Bo
 have Ct:=(C1 mq (by omega) fun q a k e=>(hne q a k e).2.2.2.1.symm).symm.trans Bt
 have Cl:=(C1 l (by omega) fun q a k e=>(hne q a k e).2.2.2.2.symm).symm.trans A2
 have C3:=(C1 H.next (by omega) fun q a k e=>by
  have:q<H.next:=by
   cases e
   revert own
   generalize ints xs=zs
   intro own
   cases own with
   |full q1 q2 _ _ _=>exact q2
  omega).symm.trans A3
 clear B10 B11 Bo Bt A3 A2
 refine⟨_,by apply aa rfl;apply aa rfl;apply aa rfl;apply aa rfl;apply aa rfl;apply aa rfl;apply aa rfl;apply aa rfl;apply aa rfl;apply aa rfl;apply aM rfl (ay rfl (cE (by exact rfl) (by exact rfl) (by with_reducible assumption)) (by exact dL _ _)) rfl;apply aM rfl (ay rfl (bt (by exact rfl) (by assumption) (by exact rfl)) (by exact dL _ _)) rfl;apply aM rfl (ay rfl (bz (i:=0) (by exact rfl) (by exact rfl) (by omega)) (by exact dy _)) rfl;apply aM rfl (ay rfl (bt (by exact rfl) (by assumption) (by exact rfl)) (by exact kM _ _ _)) rfl;exact bT,?_⟩
 refine ak rfl rfl rfl (by exact rfl) (by exact rfl) (by exact rfl) (aN (by exact rfl) (by exact rfl) (by omega)) ?_
 refine eX (ws:=vs.set i (.slice (some ⟨H.next+2,0,none⟩) (m+1) UNK)) rfl rfl rfl (by exact rfl) (by exact rfl) (by exact rfl) Co (by show(Nat.beq 1 1&&Nat.ble (0+i*1+1) (cI vs)&&true)=true;rw[dF,fe (by omega)];rfl) (by rw[Nat.zero_add,Nat.mul_one];exact Bg (by omega)) (by omega) (by apply aa rfl;apply aa rfl;apply aa rfl;apply aa rfl;apply aa rfl;exact bT) ?_
 refine cF ?_;refine y1 ?_;refine cZ ?_
 refine⟨rfl,⟨_,by(simp(disch:=first|omega|(simp only[z1,z2];omega))only[z3,z4,z5,z6,z7,z1,z2, *];exact rfl),rfl⟩,fun z hz=> ?_,rZ (by omega),⟨_,_,_,Heap.cr Co,pS rfl (by omega)⟩,H.next+2,by omega,(z5 no).trans (Heap.cr Co),?_,fun z hz h1 h2=> ?_,?_⟩
 ·rcases jh hz with rfl|hz
  ·exact hlo
  ·exact l3 z hz
 ·rw[show ints (xs++[look u ((i+1:Nat),b)])=ints xs++[.int .i64 (look u ((i+1:Nat),b))]from List.map_append]
  exact Own.low (lo:=H.next+2) (Own.keep own3 (Nat.le_refl _) fun z hz _=>(z5 (by omega)).trans (z5 (by omega))) (by omega)
 ·by_cases hl:z=l
  ·subst hl
   rw[gl]
   exact Heap.cr ((z5 (Ne.symm no)).trans Cl)
  ·exact(z5 hl).trans ((z5 h1).trans ((C1 z (by omega) h2).symm.trans (A1 z hz hl).symm))
 ·exact(w3.as (AS.wr _ _ _ _)).as (AS.wr _ _ _ _)
end Go.A.Pk
end
section
set_option maxRecDepth 100000
namespace Go.A.Pk
variable {T:Nat→Option ah}
inductive jl (h:Heap):Value→List (List Int)→Prop
 |nil:jl h (.slice none 0 0) []
 |mem {b o c vs own t rows}:h.get b=some (.cells vs own t)→b<h.next→(∀i r,rows[i]? =some r→∃x,bG vs (o+i)=some x∧aA h 1 x r.length (ints r))→jl h (.slice (some ⟨b,o,none⟩) rows.length c) rows
theorem jl.log{h:Heap}{v:Value}{rows:List (List Int)}(s:jl h v rows)(m:List Nat):jl {h with log:=m} v rows:=by
 cases s with
 |nil=>exact .nil
 |mem g1 g2 g3=>exact .mem g1 g2 fun i r e=>by obtain⟨x,h1,h2⟩:=g3 i r e;exact⟨x,h1,h2.log m⟩
def iY(kerf:Int)(l:List Kd)(w ht:Nat):List (List Int):=(List.range w).map fun(i:Nat)=>(List.range ht).map fun(j:Nat)=>gD kerf l (i+1:Nat) (j+1:Nat)
def lR(u:Tab)(done:List (Nat×Nat))(i:Nat):List Int:=(done.filter fun y=>y.1==i+1).map fun y=>look u (y.1,y.2)
theorem pL(u:Tab)(done:List (Nat×Nat))(x:Nat×Nat)(i:Nat):lR u (done++[x]) i=if x.1=i+1 then lR u done i++[look u (x.1,x.2)]else lR u done i:=by
 unfold lR
 rw[List.filter_append,List.map_append]
 by_cases h:x.1=i+1
 ·rw[if_pos h];simp[h]
 ·rw[if_neg h];simp[h]
theorem vL(u:Tab)(done:List (Nat×Nat))(i:Nat):(lR u done i).length≤done.length:=by
 unfold lR
 rw[List.length_map]
 exact List.length_filter_le _ _
theorem mw:∀w h:Nat,(aU w h).length=w*h
 |0,h=>by simp[aU]
 |w+1,h=>by simp[aU,mw w h,row,Nat.add_mul]
theorem wK(u:Tab)(c n i:Nat):lR u (row c n) i=if c=i+1 then(List.range n).map fun(j:Nat)=>look u (c,(j+1:Nat))else []:=by
 induction n with
 |zero=>simp[row,lR]
 |succ n ih=>
  rw[ia,pL,ih]
  by_cases h:c=i+1
  ·subst h;simp[List.range_succ]
  ·simp[h]
theorem xu(u:Tab)(a b:List (Nat×Nat))(i:Nat):lR u (a++b) i=lR u a i++lR u b i:=by
 unfold lR
 rw[List.filter_append,List.map_append]
theorem tR(u:Tab){ht i:Nat}:∀{w:Nat},w≤i→lR u (aU w ht) i=[]
 |0,_=>rfl
 |w+1,h=>by
  rw[aU,xu,tR u (by omega),wK,if_neg (by omega)]
  rfl
theorem wg(u:Tab){ht i:Nat}:∀{w:Nat},i<w→lR u (aU w ht) i=(List.range ht).map fun(j:Nat)=>look u ((i+1:Nat),(j+1:Nat))
 |w+1,h=>by
  rw[aU,xu,wK]
  by_cases hi:i<w
  ·rw[wg u hi,if_neg (by omega),List.append_nil]
  ·obtain rfl:i=w:=by omega
   rw[tR u (Nat.le_refl _),if_pos rfl]
   rfl
structure Ay (lo:Nat) (H:Heap) (vs:List Value) (n:Nat) (f:Nat→List Int):Prop where
 len:vs.length=n
 own:∀i,i<n→∃v,bG vs i=some v∧Own lo H 1 v (f i).length (ints (f i))
 Jz:∀i j q a b c d,i≠j→bG vs i=some (.slice (some ⟨q,0,none⟩) a b)→bG vs j=some (.slice (some ⟨q,0,none⟩) c d)→False
theorem qg{lo n q a b:Nat}{h:Heap}{v:Value}{cs:List Value}(s:Own lo h 1 v n cs)(e:v= .slice (some ⟨q,0,none⟩) a b):lo≤q∧q<h.next:=by
 cases s with
 |nil=>cases e
 |full q1 q2 _ _ _=>cases e;exact⟨q1,q2⟩
theorem Ay.up{lo n m q':Nat}{H H':Heap}{vs:List Value}{f g:Nat→List Int}{i:Nat}{v:Value}(s:Ay lo H vs n f)(hi:i<n)(hlo:lo≤H.next)(hv:bG vs i=some v)(hq:H.next≤q')(hn:H.next≤H'.next)
 (own':Own H.next H' 1 (.slice (some ⟨q',0,none⟩) m UNK) (g i).length (ints (g i)))(hg:∀j,j≠i→g j=f j)(ha:∀z,lo≤z→z<H.next→(∀q a k,v= .slice (some ⟨q,0,none⟩) a k→z≠q)→H'.get z=H.get z):
 Ay lo H' (vs.set i (.slice (some ⟨q',0,none⟩) m UNK)) n g:=by
 have hset:∀j,bG (vs.set i (.slice (some ⟨q',0,none⟩) m UNK)) j=if i=j then some (.slice (some ⟨q',0,none⟩) m UNK)else bG vs j:=fun j=>by
  rw[cq,cq,List.getElem?_set]
  by_cases h:i=j
  ·subst h;rw[if_pos rfl,if_pos rfl,if_pos (by rw[s.len];exact hi)]
  ·rw[if_neg h,if_neg h]
 have hb:∀j q a b,bG vs j=some (.slice (some ⟨q,0,none⟩) a b)→q<H.next:=fun j q a b e=>by
  have hj:j<n:=by
   rw[cq]at e
   have:=(List.getElem?_eq_some_iff.1 e).1
   rw[←s.len];exact this
  obtain⟨v,h1,h2⟩:=s.own j hj
  rw[h1]at e
  exact(qg h2 (Option.some.inj e)).2
 refine⟨by rw[List.length_set];exact s.len,fun j hj=> ?_,fun j k q a b c d hne e1 e2=> ?_⟩
 ·by_cases h:i=j
  ·subst h
   exact⟨_,by rw[hset,if_pos rfl],own'.low hlo⟩
  ·obtain⟨v',h1,h2⟩:=s.own j hj
   refine⟨v',by rw[hset,if_neg h];exact h1,?_⟩
   rw[hg j (Ne.symm h)]
   revert h2
   generalize ints (f j)=zs
   generalize(f j).length=m
   intro h2
   cases h2 with
   |nil=>exact .nil
   | @full q _ _ q1 q2 q3 q4 q5=>exact .full q1 (by omega) ((ha q q1 q2 fun q0 a k e hq=>by subst hq;subst e;exact s.Jz i j _ _ _ _ _ h hv h1).trans q3) q4 q5
 ·rw[hset]at e1 e2
  by_cases h1:i=j
  ·rw[if_pos h1]at e1
   rw[if_neg (fun h=>hne (h1.symm.trans h))]at e2
   cases e1
   have:=hb _ _ _ _ e2
   omega
  ·rw[if_neg h1]at e1
   by_cases h2:i=k
   ·rw[if_pos h2]at e2
    cases e2
    have:=hb _ _ _ _ e1
    omega
   ·rw[if_neg h2]at e2
    exact s.Jz j k q a b c d hne e1 e2
end Go.A.Pk
end
section
set_option maxRecDepth 100000
namespace Go.A.Pk
variable {T:Nat→Option ah}
structure FnsVl (T:Nat→Option ah):Prop extends FnsPn T where
 f34:T 34=some f34
def sQ(kerf:Int)(l:List Kd)(w ht:Int)(v:Value)(h:Heap):Prop:=∃x,v= .tuple #[x, .int .i64 (asked kerf l (OnB w ht))]∧jl h x (if asked kerf l (OnB w ht)=0 then iY kerf l w.toNat ht.toNat else [])
theorem sQ.log{kerf:Int}{l:List Kd}{w ht:Int}(v:Value)(h':Heap)(m:List Nat)(q:sQ kerf l w ht v h'):sQ kerf l w ht v {h' with log:=m}:=by
 obtain⟨x,h1,h2⟩:=q
 exact⟨x,h1,h2.log m⟩
theorem sQ.gc{kerf:Int}{l:List Kd}{w ht:Int}{h:Heap}(v:Value)(h1:Heap)(hv:cD v=true)(q:sQ kerf l w ht v h1):sQ kerf l w ht v h:=by
 obtain⟨x,rfl,s⟩:=q
 refine⟨x,rfl,?_⟩
 generalize(if asked kerf l (OnB w ht)=0 then iY kerf l w.toNat ht.toNat else [])=rows at*
 cases s with
 |nil=>exact .nil
 |mem _ _ _=>simp[cD,fR,flat,cp,jj,fA]at hv
structure PV (l ob n:Nat) (H0:Heap) (L:bE) (u:Tab) (done:List (Nat×Nat)) (H:Heap):Prop where
 old:∀z,z<l→z≠ob→H.get z=H0.get z
 loop:H.get l=some L
 nx:l<H.next
 rows:∃vs,H.get ob=some (.cells vs true 1)∧Ay (l+1) H vs n (lR u done)
theorem PV.eF{l ob n:Nat}{H0:Heap}{L:bE}{u:Tab}(hob:ob<l)(done:List (Nat×Nat))(H H':Heap)(p:PV l ob n H0 L u done H)(hn:H.next≤H'.next)(h:∀x,x<H.next→H'.get x=H.get x):PV l ob n H0 L u done H':=by
 obtain⟨p1,p2,p3,vs,p4,p5⟩:=p
 exact⟨fun z hz hne=>(h z (by omega)).trans (p1 z hz hne),(h l p3).trans p2,by omega,vs,(h ob (by omega)).trans p4,p5.len,fun i hi=>by
  obtain⟨v,h1,h2⟩:=p5.own i hi
  exact⟨v,h1,h2.keep hn fun z _ hz=>h z hz⟩,p5.Jz⟩
theorem EM{kerf:Int}{l:List Kd}(hc:chk kerf l=0){w ht:Nat}(hb:OnB w ht){i:Nat}{r:List Int}(e:(iY kerf l w ht)[i]? =some r):i<w∧r=lR (lO kerf l w ht) (aU w ht) i:=by
 unfold iY at e
 rw[List.getElem?_map]at e
 by_cases hi:i<w
 ·rw[List.getElem?_range hi]at e
  refine⟨hi,?_⟩
  rw[wg _ hi]
  cases e
  apply List.map_congr_left
  intro j hj
  have hj':j<ht:=List.mem_range.1 hj
  rw[kT hc hb,if_pos (by refine⟨?_,?_,?_,?_⟩<;>simp only<;>omega)]
 ·rw[List.getElem?_eq_none (by simp;omega)]at e
  cases e
theorem pE(n:Nat):dx n [(.slice none 0 0:Value)]=List.replicate n (.slice none 0 0):=by
 induction n with
 |zero=>rfl
 |succ n ih=>rw[dx,ih,dB,List.replicate_succ];rfl
set_option maxHeartbeats 8000000 in
theorem DN(F:FnsVl T){h:Heap}(hr:Rdy h){a:Option Addr}{n c:Nat}{l:List Kd}(hs:aA h 5 (.slice a n c) n (kcs l))(kerf:Int)(hn:n<1000000)(w ht:Int):
 Al T 34 [.agg #[.slice a n c, .int .i64 kerf], .int .i64 w, .int .i64 ht] h (sQ kerf l w ht):=by
 refine .of F.toFnsW.toFnsE.toFnsA.p F.f34 hr sQ.gc ?_
 have hx:Ext h (h.push (.cells [.slice a n c, .int .i64 kerf] true 1)):=(Ext.refl h).push _
 obtain rfl:n=l.length:=by have:=hs.len;rw[cP]at this;omega
 refine y4 ?_;refine yB ?_;refine yM ?_;refine yM ?_;refine y3 ?_;refine aq ?_;refine cG ?_
 refine qN ?_
 refine qM ?_;refine qM ?_
 refine qC ?_
 refine FW.puD (vv F.toFnsW (.of (hx.wf hr.wf)) w ht) (by apply aa rfl;apply aa rfl;apply aM rfl (ay rfl (cS (by exact rfl) (by(simp(disch:=first|omega|(simp only[z1,z2];omega))only[z3,z4,z5,z6,z7,z1,z2, *];exact rfl)) (by exact rfl) (by exact rfl)) (by exact eU (by refine bN (gC _ _ _) ?_;refine bN (dz _ _) ?_;exact eW))) rfl;exact bT) ?_
 refine jB rfl rfl rfl (by exact rfl) (by exact rfl) (by exact rfl) (gE (by exact rfl) (by exact rfl)) (by refine b8 (ay rfl (cS (by exact rfl) (by(simp(disch:=first|omega|(simp only[z1,z2];omega))only[z3,z4,z5,z6,z7,z1,z2, *];exact rfl)) (by exact rfl) (by exact rfl)) (by exact eU (by refine bN (gC _ _ _) ?_;refine bN (dz _ _) ?_;exact eW))) ?_;exact jx) ?_
 refine qC ?_
 have hx2:=hx.push (.cells [.bool (decide (OnB w ht))] true 1)
 refine FW.alD (lD F.toFnsW.toFnsE (.of (hx2.wf hr.wf)) ((hs.ext hx2).log []) kerf hn (bl:=[decide (OnB w ht)]) (m:=1) (.mem ⟨Nat.lt_succ_self _,⟨_,_,_,z3 _ _,rfl⟩,rfl⟩ (Nat.le_refl _)) (by omega)) (fun v h' m q=>mX.BH v h' m q) ?_
 rintro _ h1 hx3 ⟨p,rfl,hst⟩
 rw[fk]at hst
 rw[fk]
 refine⟨_,by apply aa rfl;apply aa rfl;exact bT,?_⟩
 have w1:WF h1:=hx3.wf (hx2.wf hr.wf)
 have hx13:Ext h h1:=hx2.trans hx3
 by_cases ha:asked kerf l (OnB w ht)=0
 ·obtain⟨bb,wa,wc,rfl,gb,hws⟩:=hst ha
  have hPa:=jc ha
  obtain⟨q1,q2,q3,q4⟩:=dY.1 hPa.1
  have hb:=hPa.2
  obtain⟨⟨e1,e2⟩,e3,e4⟩:=hPa.2
  obtain⟨wn,rfl⟩:=Int.eq_ofNat_of_zero_le (show 0≤w by omega)
  obtain⟨hn',rfl⟩:=Int.eq_ofNat_of_zero_le (show 0≤ht by omega)
  have hQ:∀v H,sQ kerf l wn hn' v H=∃x,v= .tuple #[x, .int .i64 0]∧jl H x (iY kerf l wn hn'):=fun v H=>by unfold sQ;rw[ha,if_pos rfl];rfl
  rw[ha]
  refine qM ?_;refine qE ?_;refine qE ?_
  refine qM ?_;refine qM ?_;refine cF ?_;refine y1 ?_;refine aP ?_;refine aq ?_;refine y4 ?_
  refine yM ?_;refine yf ?_;refine y3 ?_;refine yX ?_;refine aB ?_;refine aP ?_;refine y4 ?_
  refine yM ?_;refine yM ?_;refine yM ?_
  refine yC ?_
  refine FW.al (yZ F.toFnsW.toFnsV (.of w1) (w:=wn) (ht:=hn') (W:=1000000) (ws:=l.map (·.bq)) (by omega) (by omega) (by omega) ⟨by omega,by omega⟩ (by omega) (fun x hx=> ?_) gb ((hs.ext hx13).log []) (hws.log [])) (fun _ _ _ q=>q) ?_
  ·obtain⟨k,hk,rfl⟩:=List.mem_map.1 hx
   have:=(q3 k hk).2.2.2
   exact this
  rintro _ h2 hx4 ⟨r,rfl,gr⟩
  have hlg2:h2.log=[]:=(hx13.trans hx4).log.trans hr.log
  have wf2:WF h2:=hx4.wf w1
  have kr:=WF.aT wf2 gr
  have hnx:h.next≤h2.next:=Nat.le_trans hx13.next hx4.next
  refine af cN ?_;refine yS ?_;refine y3 ?_;refine y4 ?_;refine yM ?_
  refine af (tW (l:=wn) (c:=wn) (by exact rfl) (by exact rfl) (Nat.le_refl _) (by omega) (by omega) rfl) ?_
  refine af cN ?_;refine yS ?_
  refine y3 ?_;refine aq ?_;refine y4 ?_;refine yM ?_;refine yM ?_
  refine WO.gen ?_
  intro hA hAe
  have A1:∀z,z<h2.next→hA.get z=h2.get z:=fun z hz=>by rw[hAe];simp(disch:=first|omega|(simp only[z1,z2];omega))only[z5,z4]
  have A10:hA.get h2.next=some (.cells [.map (some r)] true 1):=by rw[hAe];(simp(disch:=first|omega|(simp only[z1,z2];omega))only[z3,z4,z5,z6,z7,z1,z2, *];exact rfl)
  have Ao:hA.get (h2.next+1)=some (.cells (dx wn [.slice none 0 0]) true 1):=by rw[hAe];(simp(disch:=first|omega|(simp only[z1,z2];omega)|(simp only[z1,z2];done)|fail)only[z8,z4,z5,z9,z7,z1,z2, *];exact rfl)
  have A11:hA.get (h2.next+2)=some (.cells [.slice (some ⟨h2.next+1,0,none⟩) wn wn] true 1):=by rw[hAe];(simp(disch:=first|omega|(simp only[z1,z2];omega)|(simp only[z1,z2];done)|fail)only[z8,z4,z5,z9,z7,z1,z2, *];exact rfl)
  have A5:hA.next=h2.next+3:=by rw[hAe];rfl
  have A6:hA.log=[]:=by rw[hAe];simp(disch:=first|omega|(simp only[z1,z2];omega))only[Heap.aI,Heap.cM];exact hlg2
  have A7:WF hA:=by rw[hAe];exact((((wf2.push _).as (AS.wr _ _ _ _)).push _).push _).as (AS.wr _ _ _ _)
  clear hAe
  refine yC ?_
  refine FW.al (se F.toFnsW.toFnsV.p F.toFnsW.toFnsV.f94 (.of A7) wn hn') (fun _ _ _ q=>q) ?_
  rintro _ h3 hx5 ⟨rfl,hn1,gp,gx⟩
  have eA:({hA with log:=[]}:Heap).next=h2.next+3:=A5
  rw[eA]at hn1 gp gx
  rw[eA]
  have B1:∀z,z<h2.next→h3.get z=h2.get z:=fun z hz=>(hx5.old z (by omega)).trans (A1 z hz)
  have B10:=(hx5.old _ (by omega)).trans A10
  have Bo:=(hx5.old _ (by omega)).trans Ao
  have B11:=(hx5.old _ (by omega)).trans A11
  have B6:h3.log=[]:=hx5.log.trans A6
  have B7:WF h3:=hx5.wf A7
  have gr3:=(B1 r kr).trans gr
  clear hx5 A1 A10 Ao A11 A6 A7
  have hp:=F.toFnsW.toFnsV.p
  refine y3 ?_;refine aC ?_
  refine B8 (lo:=h2.next+1) (P:=PV h3.next (h2.next+1) wn h3 (.loop [(10, .pointer (some ⟨h2.next,0,none⟩)),(11, .pointer (some ⟨h2.next+2,0,none⟩)),(33,fn2 136 (h2.next+3) (h2.next+4))] [34] Dy wT 0 .normal) (lO kerf l wn hn') (aU wn hn')) rfl (by rfl) (by rw[F.f136];rfl) (by omega) (by omega) B6 B7 ?_ (fun H p=>⟨_,_,_,_,p.loop⟩) ?_
  ·have Y:FQ T (h2.next+1) (h3.next+1) h3.next (h2.next+1) dV (aU wn hn') (PV h3.next (h2.next+1) wn h3 (.loop [(10, .pointer (some ⟨h2.next,0,none⟩)),(11, .pointer (some ⟨h2.next+2,0,none⟩)),(33,fn2 136 (h2.next+3) (h2.next+4))] [34] Dy wT 0 .normal) (lO kerf l wn hn')):=by
    refine⟨by omega,fun done x rest H hsp hrH hN hP=> ?_,PV.eF (by omega)⟩
    obtain⟨p1,p2,p3,vs,p4,p5⟩:=hP
    have hxb:=fW (w:=wn) (h:=hn') (x:=x) (by rw[hsp];simp)
    obtain⟨x1,x2⟩:=x
    obtain⟨i,rfl⟩:∃i,x1=i+1:=⟨x1-1,by simp only at hxb;omega⟩
    simp only at hxb
    have hi:i<wn:=by omega
    obtain⟨v,hv,own⟩:=p5.own i hi
    have hdl:done.length<1000000:=by
     have h1:=congrArg List.length hsp
     rw[mw,List.length_append]at h1
     have h2:wn*hn'≤16*16:=Nat.mul_le_mul (by omega) (by omega)
     omega
    have hrl:=vL (lO kerf l wn hn') done i
    have hbl:∀q a k,v= .slice (some ⟨q,0,none⟩) a k→h3.next+1≤q:=fun q a k e=>(qg own e).1
    refine FW.mono' (Cx hp hrH (i:=i) (b:=x2) (u:=lO kerf l wn hn') hi (by omega) (show(lR (lO kerf l wn hn') done i).length<1000000 by omega) (Nat.le_refl (h2.next+1)) p2 ((p1 _ (by omega) (by omega)).trans B10) ((p1 _ (by omega) (by omega)).trans B11) ((p1 r (by omega) (by omega)).trans gr3) p4 p5.len hv (own.low (by omega)) (fun q a k e=>by have:=hbl q a k e;omega) (by omega) (by omega)) ?_
    rintro r' H' ⟨q1,q2,q3,q',q4,q5,q6,q7,q8⟩
    have hq':=qg q6 rfl
    have hg:lR (lO kerf l wn hn') (done++[(i+1,x2)]) i=lR (lO kerf l wn hn') done i++[look (lO kerf l wn hn') ((i+1:Nat),x2)]:=by rw[pL,if_pos rfl]
    refine⟨q1,q2,q3,⟨_,_,_,q5,pS rfl (by rw[p5.len];exact hi)⟩,fun z hz hne=>(q7 z (by omega) hne fun q a k e=>by have:=hbl q a k e;omega).trans (p1 z hz hne),(q7 _ p3 (by omega) fun q a k e=>by have:=hbl q a k e;omega).trans p2,by omega,_,q5,p5.up hi (by omega) hv q4 (by omega) ?_ (fun j hj=> ?_) fun z hz hz2 hq=>q7 z hz2 (by omega) hq⟩
    ·rw[hg,List.length_append]
     exact q6
    ·rw[pL,if_neg (fun e=>hj (Nat.succ.inj e).symm)]
   exact zf hp F.f136 (.of (B7.push _)) (bw:=h2.next+3) (bh:=h2.next+4) (l:=h3.next) (N:=h3.next+1) (lo:=h2.next+1) (w:=wn) (ht:=hn') (Nat.le_refl _) (by show h2.next+1≤h3.next+1;omega) (by omega) (by omega) Y (fun d H hP=>(hP.old _ (by omega) (by omega)).trans gp) (fun d H hP=>(hP.old _ (by omega) (by omega)).trans gx)
    ⟨fun z hz _=>z4 hz,z3 _ _,Nat.lt_succ_self _,_,(z4 (by omega)).trans Bo,by rw[pE,List.length_replicate],fun i hi=>⟨.slice none 0 0,by rw[pE,cq,List.getElem?_replicate,if_pos hi], .nil⟩,fun i j q a b c d _ e _=>by
     rw[pE,cq,List.getElem?_replicate]at e
     split at e<;>cases e⟩
  intro h4 h5 k1 k2 k3 k4 k5 k6 hP
  obtain⟨p1,p2,p3,vs,p4,p5⟩:=hP
  have D11:=(k5 _ (by omega)).trans ((p1 (h2.next+2) (by omega) (by omega)).trans B11)
  refine cZ ?_;refine aP ?_;refine y4 ?_;refine yL ?_;refine yM ?_;refine yM ?_;refine y3 ?_;refine aH ?_
  refine dn (vs:=[.slice (some ⟨h2.next+1,0,none⟩) wn wn, .int .i64 0]) k1 (by rfl) ?_
  rw[hQ]
  refine⟨_,rfl,?_⟩
  have:=jl.mem (h:=h5) (b:=h2.next+1) (o:=0) (c:=wn) (rows:=iY kerf l wn hn') ((k5 _ (by omega)).trans p4) (by omega) fun i r e=>by
   obtain⟨hi,rfl⟩:=EM hPa.1 hb e
   obtain⟨v,hv,own⟩:=p5.own i hi
   have hrl:=vL (lO kerf l wn hn') (aU wn hn') i
   have hwh:wn*hn'≤16*16:=Nat.mul_le_mul (by omega) (by omega)
   rw[mw]at hrl
   refine⟨v,by rw[Nat.zero_add];exact hv,(own.keep (by omega) fun z hz _=>k5 z (by omega)).slice (by omega)⟩
  rw[show(iY kerf l wn hn').length=wn by simp[iY]]at this
  exact this
 ·refine qM ?_;refine qE ?_;refine qE ?_
  refine qM ?_;refine qM ?_;refine cF ?_;refine y1 ?_;refine aP ?_;refine aq ?_;refine y4 ?_
  refine yM ?_;refine yt ?_;refine y3 ?_;refine yY ?_;refine y4 ?_;refine yM ?_
  refine yM ?_;refine yM ?_;refine y3 ?_;refine aH ?_;refine ej ?_
  exact dn (vs:=[.slice none 0 0, .int .i64 (asked kerf l (OnB w ht))]) (hx13.log.trans hr.log) rfl ⟨_,rfl,by rw[if_neg ha];exact .nil⟩
end Go.A.Pk
end
section
set_option maxRecDepth 100000
namespace Go.A.Pk
variable {T:Nat→Option ah}
end Go.A.Pk
end
section
set_option maxRecDepth 100000
namespace Go.A.Pk
inductive dO (h:Heap):Value→List (List Int)→Prop
 |nil:dO h (.slice none 0 0) []
 |mem {b o c vs own t rows}:h.get b=some (.cells vs own t)→b<h.next→(∀i r,rows[i]? =some r→∃xa xc,bG vs (o+i)=some (.slice xa r.length xc)∧(r≠[]→aA h 1 (.slice xa r.length xc) r.length (ints r)))→dO h (.slice (some ⟨b,o,none⟩) rows.length c) rows
theorem jl.weak{h:Heap}{v:Value}{rows:List (List Int)}(s:jl h v rows):dO h v rows:=by
 cases s with
 |nil=>exact .nil
 | @mem b o _ vs own t _ g1 g2 g3=>
   refine .mem g1 g2 fun i r hi=> ?_
   obtain⟨x,h1,h2⟩:=g3 i r hi
   obtain⟨xa,xc,rfl⟩:=h2.form
   exact⟨xa,xc,h1,fun _=>h2⟩
theorem dO.form{h:Heap}{v:Value}{rows:List (List Int)}(s:dO h v rows):∃a c,v= .slice a rows.length c:=by
 cases s with
 |nil=>exact⟨_,_,rfl⟩
 |mem _ _ _=>exact⟨_,_,rfl⟩
theorem dO.agree{h h':Heap}{v:Value}{rows:List (List Int)}(s:dO h v rows)(hn:h.next≤h'.next)(ha:∀b vs o t,b<h.next→h.get b=some (.cells vs o t)→h'.get b=h.get b):dO h' v rows:=by
 cases s with
 |nil=>exact .nil
 | @mem b o _ vs own t _ g1 g2 g3=>
   refine .mem ((ha _ _ _ _ g2 g1).trans g1) (by omega) fun i r hi=> ?_
   obtain⟨xa,xc,h1,h2⟩:=g3 i r hi
   exact⟨xa,xc,h1,fun hr=>aA.agree (h2 hr) hn ha⟩
theorem dO.log{h:Heap}{v:Value}{rows:List (List Int)}(s:dO h v rows)(m:List Nat):dO {h with log:=m} v rows:=s.agree (Nat.le_refl _) fun _ _ _ _ _ _=>rfl
theorem dO.ext{h h':Heap}{v:Value}{rows:List (List Int)}(s:dO h v rows)(x:Ext h h'):dO h' v rows:=s.agree x.next fun b _ _ _ hb _=>x.old b hb
theorem dO.elem{h:Heap}{a:Option Addr}{n c:Nat}{rows:List (List Int)}(s:dO h (.slice a n c) rows){i:Nat}{r:List Int}(hr:rows[i]? =some r):∃b o vs own t xa xc,a=some ⟨b,o,none⟩∧h.get b=some (.cells vs own t)∧b<h.next∧bG vs (o+i*1)=some (.slice xa r.length xc)∧(r≠[]→aA h 1 (.slice xa r.length xc) r.length (ints r)):=by
 cases s with
 |nil=>cases hr
 | @mem b o _ vs own t _ g1 g2 g3=>
   obtain⟨xa,xc,h1,h2⟩:=g3 i r hr
   exact⟨b,o,vs,own,t,xa,xc,rfl,g1,g2,by rw[Nat.mul_one];exact h1,h2⟩
end Go.A.Pk
end
section
set_option maxRecDepth 100000
namespace Go.A.Pk
variable {T:Nat→Option ah}
set_option maxHeartbeats 4000000 in
theorem xR(hp:bC T)(hf:T 136=some f136){h:Heap}(hr:Rdy h){bw bh l N lo w ht:Nat}{P:List (Nat×Nat)→Heap→Prop}{S:Heap→Prop}(hN:N≤h.next)(hlo:lo≤h.next)(hw16:w<1000)(hh16:ht<1000)(hlN:l<N)(Y:Eg T lo N l dV (aU w ht) P S)
 (hbw:∀d H,P d H→H.get bw=some (.cells [.int .i64 w] true 1))(hbh:∀d H,P d H→H.get bh=some (.cells [.int .i64 ht] true 1))(h0:P [] h):
 GrX T 136 [.func (.yield l) #[] #[], .pointer (some ⟨bw,0,none⟩), .pointer (some ⟨bh,0,none⟩)] h lo (P (aU w ht)) S:=by
 have hlb:l<h.next:=by omega
 refine GrX.of (l:=l) hp hf hlo hlb (fun h1 h2 hn ha q=>Y.eF _ _ _ q (Nat.le_trans hN hn) fun x hx=>ha x (by omega)) Y.Eb ?_
 refine y4 ?_;refine yM ?_;refine y3 ?_;refine aC ?_
 refine dP (fun k e ds h'=>∃i:Nat,i≤w∧k=w-i∧e=[(0, .func (.yield l) #[] #[]),(1, .pointer (some ⟨bw,0,none⟩)),(2, .pointer (some ⟨bh,0,none⟩)),(4, .int .i64 (i+1:Nat))]∧ds=[]∧Lk lo h h'∧P (aU i ht) h')
  ⟨0,Nat.zero_le _,rfl,rfl,rfl, .refl _ _,h0⟩ ?_
 rintro k e ds h' ⟨i,hi,rfl,rfl,rfl,hk,hP⟩
 have g1:=hbw _ _ hP
 by_cases hlt:i<w
 ·refine aq ?_;refine y4 ?_;refine yM ?_;refine yL ?_;refine yt ?_;refine y3 ?_
  refine yY ?_;refine aB ?_;refine aP ?_;refine aq ?_;refine aC ?_;refine y4 ?_;refine yM ?_;refine y3 ?_;refine aC ?_
  refine dP (fun k e ds h''=>∃j:Nat,j≤ht∧k=ht-j∧e=[(0, .func (.yield l) #[] #[]),(1, .pointer (some ⟨bw,0,none⟩)),(2, .pointer (some ⟨bh,0,none⟩)),(4, .int .i64 (i+1:Nat)),(5, .int .i64 (j+1:Nat))]∧ds=[]∧Lk lo h h''∧P (aU i ht++row (i+1) j) h'')
   ⟨0,Nat.zero_le _,rfl,rfl,rfl,hk,by simpa[row]using hP⟩ ?_
  clear g1 hP hk h'
  rintro k e ds h' ⟨j,hj,rfl,rfl,rfl,hk,hP⟩
  have g2:=hbh _ _ hP
  by_cases hjt:j<ht
  ·refine aq ?_;refine y4 ?_;refine yM ?_;refine yL ?_;refine yt ?_;refine y3 ?_
   refine yY ?_;refine aB ?_;refine aP ?_;refine aq ?_;refine aC ?_;refine y4 ?_;refine yM ?_;refine yM ?_;refine yM ?_;refine af (ck (by exact rfl)) ?_
   refine gj (fn:= .yield l) (args:=[dV (i+1,j+1)]) (by rfl) ?_
   refine Y.call hp (kg hlt hjt) (hk.wf hr.wf) (Nat.le_trans hlo hk.next) (Nat.le_trans hN hk.next) hlb hP ?_ ?_
   rotate_left
   ·intro h9 hk9 hm9 hS9
    refine yA ?_;refine y3 ?_;refine yY ?_;refine aH ?_;refine iD ?_;refine ej ?_;refine ej ?_;refine iD ?_;refine iD ?_;refine ej ?_;refine ej ?_;refine iD ?_
    exact ld ((hk.trans hk9).log (by rw[hr.log];exact dG.nil _)) rfl hm9 hS9
   intro h2 hk2 _ hP2
   rw[List.append_assoc,←ia]at hP2
   refine yA ?_;refine y3 ?_;refine yX ?_;refine aB ?_;refine cZ ?_;refine aP ?_;refine aD ?_;refine yM ?_
   refine fV ?_;refine yM ?_;refine y3 ?_
   exact⟨ht-(j+1),by omega,j+1,by omega,rfl,rfl,rfl,hk.trans hk2,hP2⟩
  ·obtain rfl:j=ht:=by omega
   refine aq ?_;refine y4 ?_;refine yM ?_;refine yL ?_;refine yf ?_;refine y3 ?_
   refine yX ?_;refine cY ?_;refine dQ ?_;refine dQ ?_;refine iW ?_;refine cZ ?_;refine aP ?_;refine aD ?_;refine yM ?_;refine fV ?_;refine yM ?_;refine y3 ?_
   exact⟨w-(i+1),by omega,i+1,by omega,rfl,rfl,rfl,hk,hP⟩
 ·obtain rfl:i=w:=by omega
  refine aq ?_;refine y4 ?_;refine yM ?_;refine yL ?_;refine yf ?_;refine y3 ?_
  refine yX ?_;refine cY ?_;refine dQ ?_;refine dQ ?_;refine iW ?_
  exact sD (hk.log (by rw[hr.log];exact dG.nil _)) rfl hP
theorem Kp(hp:bC T)(hf:T 111=some f111){h:Heap}(hr:Rdy h){q n c:Nat}{a:Option Addr}{ht:Int}(g:h.get q=some (.cells [.int .i64 ht] true 1)):Pu T 111 [.slice a n c, .pointer (some ⟨q,0,none⟩)] h (.bool (decide ((n:Int)≠ht))):=by
 refine .of hp hf hr rfl ?_
 by_cases he:(n:Int)≠ht
 ·rw[decide_eq_true he]
  refine y4 ?_;refine yM ?_;refine y3 ?_;refine y4 ?_;refine yM ?_;refine yD ?_
  refine yL ?_;refine yt ?_;refine yM ?_;refine y3 ?_;refine aH ?_
  exact aF hr.log rfl rfl
 ·rw[decide_eq_false he]
  refine y4 ?_;refine yM ?_;refine y3 ?_;refine y4 ?_;refine yM ?_;refine yD ?_
  refine yL ?_;refine yf ?_;refine yM ?_;refine y3 ?_;refine aH ?_
  exact aF hr.log rfl rfl
theorem DF(hp:bC T)(hf:T 146=some f146)(hf2:T 111=some f111){h:Heap}(hr:Rdy h){q:Nat}{ht:Int}{v:Value}{rows:List (List Int)}(hv:dO h v rows)(hrl:rows.length<1000000)(g:h.get q=some (.cells [.int .i64 ht] true 1)):
 ∃z:Int,Pu T 146 [v, .func (.func 111) #[] #[.pointer (some ⟨q,0,none⟩)]] h (.int .i64 z)∧(0≤z↔ ∃r∈rows,(r.length:Int)≠ht):=by
 obtain⟨va,vc,rfl⟩:=hv.form
 have hrow:∀{k:Nat} {r:List Int},rows[k]? =some r→∃b o vs own t xa xc,va=some ⟨b,o,none⟩∧h.get b=some (.cells vs own t)∧bG vs (o+k*1)=some (.slice xa r.length xc):=fun hk=>by
  obtain⟨b,o,vs,own,t,xa,xc,q1,q2,_,q3,_⟩:=hv.elem hk
  exact⟨b,o,vs,own,t,xa,xc,q1,q2,q3⟩
 have key:∀(z:Int) (m:Nat),m≤rows.length→(∀j r,j<m→rows[j]? =some r→¬ (r.length:Int)≠ht)→(m<rows.length→z=(m:Int)∧∀r,rows[m]? =some r→(r.length:Int)≠ht)→(m=rows.length→z= -1)→Pu T 146 [.slice va rows.length vc, .func (.func 111) #[] #[.pointer (some ⟨q,0,none⟩)]] h (.int .i64 z):=by
  intro z m hm h1 h2 h3
  refine .of hp hf hr rfl ?_
  refine y4 ?_;refine yM ?_;refine y3 ?_;refine aq ?_;refine y4 ?_;refine yM ?_;refine yD ?_;refine yM ?_
  refine y3 ?_;refine aC ?_
  refine dP (fun k e ds h'=>∃i:Nat,i≤m∧k=rows.length-i∧e=[(0, .slice va rows.length vc),(1, .func (.func 111) #[] #[.pointer (some ⟨q,0,none⟩)]),(7, .int .i64 rows.length),(8, .int .i64 i)]∧ds=[]∧h=h')
   ⟨0,Nat.zero_le _,rfl,rfl,rfl,rfl⟩ ?_
  rintro k e ds _ ⟨i,hi,rfl,rfl,rfl,rfl⟩
  by_cases hlt:i<rows.length
  ·obtain⟨r,hri⟩:∃r,rows[i]? =some r:=⟨rows[i],List.getElem?_eq_getElem hlt⟩
   obtain⟨b,o,vs,own,t,xa,xc,rfl,g1,f1⟩:=hrow hri
   have C:=Kp hp hf2 (h:={h with log:=[]}) (.of hr.wf) (a:=xa) (n:=r.length) (c:=xc) (ht:=ht) g
   by_cases him:i<m
   ·rw[decide_eq_false (h1 i r him hri)]at C
    refine y4 ?_;refine yt ?_;refine y3 ?_;refine aq ?_;refine yY ?_;refine aB ?_;refine aP ?_;refine aq ?_;refine aC ?_;refine y4 ?_;refine yM ?_;refine yM ?_;refine y3 ?_;refine y4 ?_;refine yM ?_;refine yM ?_;refine yM ?_
    refine af (aN (by exact rfl) (by exact rfl) (by omega)) ?_;refine af (bt (by exact rfl) (by assumption) (by assumption)) ?_
    refine yC ?_
    refine FW.pu C ?_
    refine y3 ?_;refine yX ?_;refine aB ?_;refine cZ ?_;refine aP ?_;refine aD ?_;refine fV ?_;refine yM ?_;refine y3 ?_
    exact⟨rows.length-(i+1),by omega,i+1,by omega,rfl,rfl,rfl,rfl⟩
   ·obtain rfl:i=m:=by omega
    obtain⟨rfl,h4⟩:=h2 hlt
    rw[decide_eq_true (h4 r hri)]at C
    refine y4 ?_;refine yt ?_;refine y3 ?_;refine aq ?_;refine yY ?_;refine aB ?_;refine aP ?_;refine aq ?_;refine aC ?_;refine y4 ?_;refine yM ?_;refine yM ?_;refine y3 ?_;refine y4 ?_;refine yM ?_;refine yM ?_;refine yM ?_
    refine af (aN (by exact rfl) (by exact rfl) (by omega)) ?_;refine af (bt (by exact rfl) (by assumption) (by assumption)) ?_
    refine yC ?_
    refine FW.pu C ?_
    refine y3 ?_;refine yY ?_;refine y4 ?_;refine yM ?_;refine yM ?_;refine y3 ?_;refine aH ?_;refine iD ?_;refine ej ?_;refine ej ?_;refine iD ?_;refine ej ?_
    exact aF hr.log rfl rfl
  ·obtain rfl:i=rows.length:=by omega
   obtain rfl:=h3 (by omega)
   refine y4 ?_;refine yf ?_;refine y3 ?_;refine aq ?_;refine yX ?_;refine cY ?_;refine dQ ?_;refine dQ ?_;refine iW ?_;refine aP ?_
   refine y4 ?_;refine yM ?_;refine y3 ?_;refine aH ?_
   exact aF hr.log rfl rfl
 by_cases hbad:∃m:Nat,∃r:List Int,rows[m]? =some r∧(r.length:Int)≠ht
 ·obtain⟨n0,hn0⟩:=hbad
  have hleast:∃m:Nat,(∃r:List Int,rows[m]? =some r∧(r.length:Int)≠ht)∧∀j,j<m→¬ ∃r:List Int,rows[j]? =some r∧(r.length:Int)≠ht:=by
   induction n0 using Nat.strongRecOn with
   |ind n0 ih=>
    by_cases hx:∃j,j<n0∧∃r:List Int,rows[j]? =some r∧(r.length:Int)≠ht
    ·obtain⟨j,hj,q⟩:=hx
     exact ih j hj q
    ·exact⟨n0,hn0,fun j hj q=>hx ⟨j,hj,q⟩⟩
  obtain⟨m,⟨r,hr1,hr2⟩,hl⟩:=hleast
  have hml:=(List.getElem?_eq_some_iff.1 hr1).1
  refine⟨(m:Int),key m m (by omega) (fun j r' hj q q2=>hl j hj ⟨r',q,q2⟩) (fun _=>⟨rfl,fun r' q=>by rw[hr1]at q;cases q;exact hr2⟩) (fun q=>by omega),fun _=>⟨r,List.mem_of_getElem? hr1,hr2⟩,fun _=>by omega⟩
 ·refine⟨-1,key (-1) rows.length (Nat.le_refl _) (fun j r _ q q2=>hbad ⟨j,r,q,q2⟩) (fun q=>by omega) (fun _=>rfl),fun q=>by omega,?_⟩
  rintro⟨r,q1,q2⟩
  obtain⟨j,hj,rfl⟩:=List.getElem_of_mem q1
  exact(hbad ⟨j,_,List.getElem?_eq_getElem hj,q2⟩).elim
theorem vJ(hp:bC T)(hf:T 110=some f110)(hf1:T 146=some f146)(hf2:T 111=some f111){h:Heap}(hr:Rdy h){q:Nat}{ht:Int}{v:Value}{rows:List (List Int)}(hv:dO h v rows)(hrl:rows.length<1000000)(g:h.get q=some (.cells [.int .i64 ht] true 1)):
 ∃b:Bool,Pu T 110 [v, .func (.func 111) #[] #[.pointer (some ⟨q,0,none⟩)]] h (.bool b)∧(b=true↔ ∃r∈rows,(r.length:Int)≠ht):=by
 obtain⟨z,C,hz⟩:=DF hp hf1 hf2 (h:={h with log:=[]}) (.of hr.wf) (hv.log []) hrl g
 refine⟨decide (0≤z),?_,by rw[decide_eq_true_iff];exact hz⟩
 obtain⟨va,vc,rfl⟩:=hv.form
 refine .of hp hf hr rfl ?_
 by_cases h0:0≤z
 ·rw[decide_eq_true h0]
  refine y4 ?_;refine yM ?_;refine y3 ?_;refine y4 ?_;refine yM ?_;refine yM ?_
  refine yC ?_
  refine FW.pu C ?_
  refine yt ?_;refine yM ?_;refine y3 ?_;refine aH ?_
  exact aF hr.log rfl rfl
 ·rw[decide_eq_false h0]
  refine y4 ?_;refine yM ?_;refine y3 ?_;refine y4 ?_;refine yM ?_;refine yM ?_
  refine yC ?_
  refine FW.pu C ?_
  refine yf ?_;refine yM ?_;refine y3 ?_;refine aH ?_
  exact aF hr.log rfl rfl
end Go.A.Pk
end
section
set_option maxRecDepth 100000
namespace Go.A.Pk
variable {T:Nat→Option ah}
def D9(x:Int×Int):Prop:=x.1<1∨x.2<1
instance(x:Int×Int):Decidable (D9 x):=by unfold D9;infer_instance
def never:Int:= -1099511627776
def KV(ws:List Int)(kind:Nat)(x:Nat×Nat):Int:=if x.2=kind then ws.getD kind 0 else never
end Go.A.Pk
end
section
set_option maxRecDepth 100000
namespace Go.A.Pk
variable {T:Nat→Option ah}
end Go.A.Pk
end
section
set_option maxRecDepth 100000
namespace Go.A.Pk
variable {T:Nat→Option ah}
end Go.A.Pk
end
section
set_option maxRecDepth 100000
namespace Go.A.Pk
variable {T:Nat→Option ah}
theorem Es{base:Nat}{e:Env}{h:Heap}{ops:List aQ}{bf:List Nat}{rs rs':List Rec}{Q:Env→Heap→Prop}{i mask:Nat}{is:List Nat}{dst:Option Nat}{m k v:Operand}{r:Nat}{t:Tab}{x:Nat×Nat}{z:Int}{g:Option (Nat×Bool)}{er:Env}(ho:bG ops i=some ⟨dst, .iJ true [.i .i64, .i .i64] m k v,g⟩)(hm:bG bf i=some mask)
 (he:bS e (bR ⟨dst, .iJ true [.i .i64, .i .i64] m k v,g⟩)=er)(hw:bA er g=some true)(h1:ev {h with log:=[]} er m=some (.map (some r)))(h2:ev {h with log:=[]} er k=some (dV x))(h3:ev {h with log:=[]} er v=some (.int .i64 z))(h4:h.get r=some (.map (dI t)))(hlt:r<h.next)
 (hrs:bg (h.wr base r (.map (dI (upd t x z)))) base [r] mask rs=some rs')(H:WD T base ops bf Q is rs' (bK e dst (.tuple #[])) (h.wr base r (.map (dI (upd t x z))))):WD T base ops bf Q (i::is) rs e h:=
 jJ ho hm he hw rfl (AU (h:={h with log:=[]}) h1 h2 h3 h4) (yQ hlt _) (sJ hlt _) hrs H
end Go.A.Pk
end
