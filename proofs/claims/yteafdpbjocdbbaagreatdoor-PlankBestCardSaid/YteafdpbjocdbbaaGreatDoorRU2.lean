/- Walks of functions, plain laws, the table. -/
import Derived.Test.YteafdpbjocdbbaaGreatDoorRU1
import Derived.Test.YteafdpbjocdbbaaGreatDoorRF
import Derived.Test.YteafdpbjocdbbaaGreatDoorRU0
import Derived.Test.YteafdpbjocdbbaaGreatDoorRD
set_option linter.all false
section
set_option maxRecDepth 100000
namespace Go.A.Pk
variable {T:Nat→Option AFunc}
theorem tabL_bd{W kerf:Int}{ws:List Int}{kl:List Kd}(hW:0≤W)(hk:0≤kerf)(hws:∀x∈ws,0≤x∧x≤W):∀(xs:List (Nat×Nat)) (t:Tab),(∀x∈xs,1≤x.1∧1≤x.2)→Bd W t→Bd W (xs.foldl (fun t x=>upd t x (val kerf ws kl t x.1 x.2)) t)
 |[],t,_,h=>h
 |x::xs,t,hx,h=>tabL_bd hW hk hws xs _ (fun y hy=>hx y (List.mem_cons_of_mem _ hy)) (upd_bd (hx x (List.mem_cons_self ..)) (val_bd hW hk hws h (hx x (List.mem_cons_self ..)).1 (hx x (List.mem_cons_self ..)).2) h)
theorem bestV_bd{kerf:Int}{l:List Kd}(hc:chk kerf l=0){w ht:Int}(hb:OnB w ht):0≤bestV kerf l w ht∧bestV kerf l w ht≤256000000:=by
 obtain⟨q1,q2,q3,q4⟩:=chk_iff.1 hc
 have hB:Bd 1000000 (tabL kerf (l.map (·.worth)) l (boardsL w.toNat ht.toNat)):=tabL_bd (by omega) q2.1 (fun x hx=>by
  obtain⟨k,hk,rfl⟩:=List.mem_map.1 hx
  exact(q3 k hk).2.2.2) _ _ (fun x hx=>by have:=boards_of hx;omega) (fun e he=>by cases he)
 obtain⟨⟨h1,h2⟩,h3,h4⟩:=hb
 unfold bestV
 rcases look_bd (w,ht) hB with h|⟨_,_,h5,h6⟩
 ·rw[h];omega
 ·have:=area_mono (W:=1000000) (a:=w) (b:=ht) (c:=16) (d:=16) (by omega) (by omega) h2 (by omega) h4
  exact⟨h5,Int.le_trans h6 (Int.le_trans this (by omega))⟩
theorem bestR_ok{kerf:Int}{l:List Kd}{w ht:Int}(h:asked kerf l (OnB w ht)=0):bestR kerf l w ht= .tuple #[.int .i64 (bestV kerf l w ht), .int .i64 0]:=by unfold bestR;rw[if_pos h,h]
theorem bestR_no{kerf:Int}{l:List Kd}{w ht:Int}(h:¬asked kerf l (OnB w ht)=0):bestR kerf l w ht= .tuple #[.int .i64 0, .int .i64 (asked kerf l (OnB w ht))]:=by unfold bestR;rw[if_neg h]
end Go.A.Pk
end
section
set_option maxRecDepth 100000
namespace Go.A.Pk
variable {T:Nat→Option AFunc}
structure FnsPn (T:Nat→Option AFunc):Prop extends FnsW T,FnsPl T where
 f36:T 36=some f36
def wsP(l:List Kd):List Int:=l.map (·.worth)
def tabP(kerf:Int)(l:List Kd)(w ht:Int):Tab:=tabL kerf (wsP l) l (boardsL w.toNat ht.toNat)
theorem look_tabP{kerf:Int}{l:List Kd}(hc:chk kerf l=0){w ht:Int}(hb:OnB w ht)(y:Int×Int):look (tabP kerf l w ht) y=if 1≤y.1∧y.1≤w∧1≤y.2∧y.2≤ht then bestV kerf l y.1 y.2 else 0:=by
 have hk:=(chk_iff.1 hc).2.1.1
 obtain⟨⟨h1,_⟩,h3,_⟩:=hb
 have:=tab_look hk (ws:=wsP l) (kl:=l) (h:=ht.toNat) w.toNat 0 (Nat.zero_le _) y
 rw[show boardsL w.toNat ht.toNat++row (w.toNat+1) 0=boardsL w.toNat ht.toNat by simp[row]]at this
 unfold tabP
 rw[this]
 by_cases hy:1≤y.1∧y.1≤w∧1≤y.2∧y.2≤ht
 ·rw[if_pos hy,if_pos (by omega),bestV_eq hk hy.1 hy.2.2.1];rfl
 ·rw[if_neg hy,if_neg (by omega)]
theorem look_tabP_bd{kerf:Int}{l:List Kd}(hc:chk kerf l=0){w ht:Int}(hb:OnB w ht)(y:Int×Int):0≤look (tabP kerf l w ht) y∧look (tabP kerf l w ht) y≤256000000:=by
 rw[look_tabP hc hb]
 by_cases hy:1≤y.1∧y.1≤w∧1≤y.2∧y.2≤ht
 ·rw[if_pos hy]
  obtain⟨⟨_,h2⟩,_,h4⟩:=hb
  exact bestV_bd hc ⟨⟨hy.1,by omega⟩,hy.2.2.1,by omega⟩
 ·rw[if_neg hy];omega
def PlanO(kerf:Int)(l:List Kd)(w ht:Int)(v:Value)(h:Heap):Prop:=∃ns a c,v= .tuple #[.slice a ns.length c, .int .i64 (asked kerf l (OnB w ht))]∧SliceOf h 2 (.slice a ns.length c) ns.length (ncs ns)∧(U2 h (.slice a ns.length c)∧(c=UNK∨c<1000000))∧
 (asked kerf l (OnB w ht)=0→PlanR kerf (wsP l) l (tabP kerf l w ht) (w,ht) ns)∧(asked kerf l (OnB w ht)≠0→ns=[])
theorem PlanO.log{kerf:Int}{l:List Kd}{w ht:Int}(v:Value)(h':Heap)(m:List Nat)(q:PlanO kerf l w ht v h'):PlanO kerf l w ht v {h' with log:=m}:=by
 obtain⟨ns,a,c,h1,h2,h3,h4⟩:=q
 exact⟨ns,a,c,h1,h2.log m,h3,h4⟩
theorem PlanO.gc{kerf:Int}{l:List Kd}{w ht:Int}{h:Heap}(v:Value)(h1:Heap)(hv:noRef v=true)(q:PlanO kerf l w ht v h1):PlanO kerf l w ht v h:=by
 obtain⟨ns,a,c,rfl,s,u,r⟩:=q
 have hu:U2 h (.slice a ns.length c):=fun b o n e=>by cases e;simp[noRef,flatL,flat,scalL,scal,scal1]at hv
 refine⟨ns,a,c,rfl,?_,⟨hu,u.2⟩,r⟩
 clear r u hu
 generalize ns.length=n at*
 generalize ncs ns=cs at*
 cases s with
 |nil=>exact .nil
 |mem s _=>simp[noRef,flatL,flat,scalL,scal,scal1]at hv
set_option maxHeartbeats 8000000 in
theorem plan36(F:FnsPn T){h:Heap}(hr:Rdy h){a:Option Addr}{n c:Nat}{l:List Kd}(hs:SliceOf h 5 (.slice a n c) n (kcs l))(kerf:Int)(hn:n<1000000)(w ht:Int):
 Al T 36 [.agg #[.slice a n c, .int .i64 kerf], .int .i64 w, .int .i64 ht] h (PlanO kerf l w ht):=by
 refine .of F.toFnsW.toFnsE.toFnsA.p F.f36 hr PlanO.gc ?_
 have hx:Ext h (h.push (.cells [.slice a n c, .int .i64 kerf] true 1)):=(Ext.refl h).push _
 obtain rfl:n=l.length:=by have:=hs.len;rw[kcs_length]at this;omega
 refine y4 ?_;refine yB ?_;refine yM ?_;refine yM ?_;refine y3 ?_;refine wE_seq ?_;refine wE_draw ?_
 refine qN ?_
 refine qM ?_;refine qM ?_
 refine qC ?_
 refine FW.puD (board76 F.toFnsW (.of (hx.wf hr.wf)) w ht) (by apply ra_dropC rfl;apply ra_dropC rfl;apply ra_keepC rfl (rq_quiet rfl (a_loadN (by exact rfl) (by(simp(disch:=first|omega|(simp only[z1,z2];omega))only[z3,z4,z5,z6,z7,z1,z2, *];exact rfl)) (by exact rfl) (by exact rfl)) (by exact sv_agg (by refine sl_cons (s1_slice _ _ _) ?_;refine sl_cons (s1_int _ _) ?_;exact sl_nil))) rfl;exact ra_nil) ?_
 refine wD_new rfl rfl rfl (by exact rfl) (by exact rfl) (by exact rfl) (a_bslice (by exact rfl) (by exact rfl)) (by refine rs_cons (rq_quiet rfl (a_loadN (by exact rfl) (by(simp(disch:=first|omega|(simp only[z1,z2];omega))only[z3,z4,z5,z6,z7,z1,z2, *];exact rfl)) (by exact rfl) (by exact rfl)) (by exact sv_agg (by refine sl_cons (s1_slice _ _ _) ?_;refine sl_cons (s1_int _ _) ?_;exact sl_nil))) ?_;exact rs_nil) ?_
 refine qC ?_
 have hx2:=hx.push (.cells [.bool (decide (OnB w ht))] true 1)
 refine FW.alD (startedB75 F.toFnsW.toFnsE (.of (hx2.wf hr.wf)) ((hs.ext hx2).log []) kerf hn (bl:=[decide (OnB w ht)]) (m:=1) (.mem ⟨Nat.lt_succ_self _,⟨_,_,_,z3 _ _,rfl⟩,rfl⟩ (Nat.le_refl _)) (by omega)) (fun v h' m q=>StartQ.logs v h' m q) ?_
 rintro _ h1 hx3 ⟨p,rfl,hst⟩
 rw[startE_one]at hst
 rw[startE_one]
 refine⟨_,by apply ra_dropC rfl;apply ra_dropC rfl;exact ra_nil,?_⟩
 have w1:WF h1:=hx3.wf (hx2.wf hr.wf)
 have hx13:Ext h h1:=hx2.trans hx3
 by_cases ha:asked kerf l (OnB w ht)=0
 ·obtain⟨bb,wa,wc,rfl,gb,hws⟩:=hst ha
  have hP:=asked_zero ha
  obtain⟨q1,q2,q3,q4⟩:=chk_iff.1 hP.1
  have hb:=hP.2
  obtain⟨⟨e1,e2⟩,e3,e4⟩:=hP.2
  obtain⟨wn,rfl⟩:=Int.eq_ofNat_of_zero_le (show 0≤w by omega)
  obtain⟨hn',rfl⟩:=Int.eq_ofNat_of_zero_le (show 0≤ht by omega)
  have hwb:∀x∈wsP l,0≤x∧x≤1000000:=fun x hx=>by
   obtain⟨k,hk,rfl⟩:=List.mem_map.1 hx
   exact(q3 k hk).2.2.2
  have hT:∀q, -1000000000000≤look (tabP kerf l wn hn') q∧look (tabP kerf l wn hn') q≤1000000000000:=fun q=>by
   have:=look_tabP_bd hP.1 hb q
   omega
  rw[ha]
  refine qM ?_;refine qE ?_;refine qE ?_
  refine qM ?_;refine qM ?_;refine wD_nil ?_;refine y1 ?_;refine kS_n ?_;refine wE_seq ?_;refine y4 ?_
  refine yM ?_;refine yf ?_;refine y3 ?_;refine yX ?_;refine wE_skip ?_;refine kS_n ?_;refine y4 ?_
  refine yM ?_;refine yM ?_;refine yM ?_;refine yM ?_
  refine yC ?_
  refine FW.al (best83 F.toFnsW.toFnsV (.of w1) (w:=wn) (ht:=hn') (W:=1000000) (ws:=wsP l) (by omega) (by omega) (by omega) ⟨by omega,by omega⟩ (by omega) hwb gb ((hs.ext hx13).log []) (hws.log [])) (fun _ _ _ q=>q) ?_
  rintro _ h2 hx4 ⟨r,rfl,gr⟩
  have w2:=hx4.wf w1
  have hx14:=hx13.trans hx4
  refine yM ?_;refine yM ?_;refine wO_val (a_build (by exact rfl)) ?_
  refine yC ?_
  refine FW.al (plan84 F.toFnsPl (by omega) (by omega) hT _ ((wn:Int),(hn':Int)) _ (Nat.le_refl _) e2 e4 (.of w2) ⟨(hx4.old _ (WF.get_lt w1 gb)).trans gb,by unfold tabP;rw[Int.toNat_natCast,Int.toNat_natCast];exact gr,(hs.ext hx14).log [],(hws.ext hx4).log []⟩) (fun v h' m q=>PlanQ.log v h' m q) ?_
  rintro _ h3 hx5 ⟨ns,a3,c3,R,rfl,s3,u3⟩
  refine yM ?_;refine yM ?_;refine y3 ?_;refine wE_ret ?_
  exact endA_ret (vs:=[.slice a3 ns.length c3, .int .i64 0]) ((hx14.trans hx5).log.trans hr.log) rfl ⟨ns,a3,c3,by rw[ha];rfl,s3,u3,fun _=>R,fun q=>absurd ha q⟩
 ·refine qM ?_;refine qE ?_;refine qE ?_
  refine qM ?_;refine qM ?_;refine wD_nil ?_;refine y1 ?_;refine kS_n ?_;refine wE_seq ?_;refine y4 ?_
  refine yM ?_;refine yt ?_;refine y3 ?_;refine yY ?_;refine y4 ?_;refine yM ?_
  refine yM ?_;refine yM ?_;refine y3 ?_;refine wE_ret ?_;refine kS_r ?_
  exact endA_ret (vs:=[.slice none 0 0, .int .i64 (asked kerf l (OnB w ht))]) (hx13.log.trans hr.log) rfl ⟨[],none,0,rfl, .nil,⟨(fun _ _ _ e=>by cases e), .inr (by omega)⟩,fun q=>absurd q ha,fun _=>rfl⟩
end Go.A.Pk
end
section
set_option maxRecDepth 100000
namespace Go.A.Pk
variable {T:Nat→Option AFunc}
def ncI:List (Nat×Int)→List Value
 |[]=>[]
 |x::l=>[.int .u8 x.1, .int .i64 x.2]++ncI l
theorem ncI_len:∀l,(ncI l).length=l.length*2
 |[]=>rfl
 |x::l=>by simp[ncI,ncI_len l];omega
theorem ncI_drop:∀(l:List (Nat×Int)) (i:Nat),(ncI l).drop (i*2)=ncI (l.drop i)
 |[],i=>by simp[ncI]
 |x::l,0=>by simp
 |x::l,i+1=>by
  rw[List.drop_succ_cons,←ncI_drop l i,show(i+1)*2=2+i*2 by omega,←List.drop_drop]
  rfl
theorem ncs_ncI:∀l:List (Nat×Nat),ncs l=ncI (l.map fun x=>(x.1,(x.2:Int)))
 |[]=>rfl
 |x::l=>by rw[ncs,List.map_cons,ncI,ncs_ncI l];rfl
structure Sm where
 ok:Bool
 worth:Int
 cells:Int
 depth:Int
 used:List Int
def smC(s:Sm):List Value:= .bool s.ok:: .int .i64 s.worth:: .int .i64 s.cells:: .int .i64 s.depth::ints s.used
def z12:List Int:=[0,0,0,0,0,0,0,0,0,0,0,0]
def sm0:Sm:=⟨false,0,0,0,z12⟩
def isP(k:Kd)(kind:Nat)(p:Int×Int):Prop:=(kind=1∧k.w=p.1∧k.h=p.2)∨(kind=2∧k.turn=true∧k.h=p.1∧k.w=p.2)
instance(k:Kd)(kind:Nat)(p:Int×Int):Decidable (isP k kind p):=by unfold isP;infer_instance
def oneI(x:Nat×Int)(p:Int×Int):Int×Int:=if x.1=3 then(x.2,p.2)else(p.1,x.2)
def twoI(kerf:Int)(x:Nat×Int)(p:Int×Int):Int×Int:=if x.1=3 then(p.1-x.2-kerf,p.2)else(p.1,p.2-x.2-kerf)
def sizeI(x:Nat×Int)(p:Int×Int):Int:=if x.1=3 then p.1 else p.2
def plankS(l:List Kd)(x:Nat×Int)(p:Int×Int):Sm×Nat:=
 if 0≤x.2∧x.2≤(l.length:Int)-1 then(match l[x.2.toNat]? with
  |some k=>(⟨decide (isP k x.1 p),k.worth,p.1*p.2,0,z12.set x.2.toNat 1⟩,1)
  |none=>(sm0,0))else(sm0,0)
def nodeS(l:List Kd)(x:Nat×Int)(p:Int×Int):Sm×Nat:=
 if x.1=0 then({sm0 with ok:=decide (x.2=0)},1)else if x.1=1∨x.1=2 then plankS l x p else(sm0,0)
def joinS(kerf size at1:Int)(one two:Sm×Nat):Sm×Nat:=
 if one.1.ok=true then
  if size-at1-kerf<1 then({one.1 with depth:=one.1.depth+1},one.2+1)
  else if two.1.ok=true then(⟨true,one.1.worth+two.1.worth,one.1.cells+two.1.cells,1+mx one.1.depth two.1.depth,List.zipWith (· + ·) one.1.used two.1.used⟩,1+one.2+two.2)
  else(sm0,0)
 else(sm0,0)
def treeS(kerf:Int)(l:List Kd):Nat→Int×Int→List (Nat×Int)→Sm×Nat
 |_,_,[]=>(sm0,0)
 |0,p,x::_=>if x.1=3∨x.1=4 then(sm0,0)else nodeS l x p
 |f+1,p,x::ns=>if x.1=3∨x.1=4 then
   (if 1≤x.2∧x.2≤sizeI x p-1 then joinS kerf (sizeI x p) x.2 (treeS kerf l f (oneI x p) ns) (treeS kerf l f (twoI kerf x p) (ns.drop (treeS kerf l f (oneI x p) ns).2))else(sm0,0))
  else nodeS l x p
structure TB (s:Sm) (m:Nat):Prop where
 worth:0≤s.worth∧s.worth≤1000000*m
 cells:0≤s.cells∧s.cells≤256*m
 depth:0≤s.depth∧s.depth≤m
 len:s.used.length=12
 used:∀u∈s.used,0≤u∧u≤m
theorem TB.zero(b:Bool)(m:Nat):TB {sm0 with ok:=b} m:=⟨by show(0:Int)≤0∧(0:Int)≤_;omega,by show(0:Int)≤0∧(0:Int)≤_;omega,by show(0:Int)≤0∧(0:Int)≤_;omega,rfl,fun u hu=>by
 have:u=0:=by simpa[sm0,z12]using hu
 omega⟩
theorem node_bd{kerf:Int}{l:List Kd}(hc:chk kerf l=0)(x:Nat×Int){p:Int×Int}(h1:1≤p.1∧p.1≤16)(h2:1≤p.2∧p.2≤16):TB (nodeS l x p).1 (nodeS l x p).2∧(nodeS l x p).2≤1:=by
 unfold nodeS
 split
 ·exact⟨TB.zero _ _,Nat.le_refl _⟩
 ·split
  ·unfold plankS
   split
   ·split
    ·rename_i k hk
     have:=(chk_iff.1 hc).2.2.1 k (List.mem_of_getElem? hk)
     refine⟨⟨by dsimp only;have:=this.2.2.2;omega,?_,by show(0:Int)≤0∧(0:Int)≤_;omega,by simp[z12],fun u hu=> ?_⟩,Nat.le_refl _⟩
     ·have q1:=Int.mul_nonneg (show 0≤p.1 by omega) (show 0≤p.2 by omega)
      have q2:=Int.mul_le_mul h1.2 h2.2 (by omega) (by omega)
      dsimp only
      omega
     ·rcases List.mem_or_eq_of_mem_set hu with hu|rfl
      ·have:u=0:=by simpa[z12]using hu
       omega
      ·omega
    ·exact⟨TB.zero false _,Nat.zero_le _⟩
   ·exact⟨TB.zero false _,Nat.zero_le _⟩
  ·exact⟨TB.zero false _,Nat.zero_le _⟩
theorem zip_mem{a b:List Int}{u:Int}(h:u∈List.zipWith (· + ·) a b):∃x∈a,∃y∈b,u=x+y:=by
 induction a generalizing b with
 |nil=>simp at h
 |cons x a ih=>
  cases b with
  |nil=>simp at h
  |cons y b=>
   rw[List.zipWith_cons_cons,List.mem_cons]at h
   rcases h with rfl|h
   ·exact⟨x,List.mem_cons_self ..,y,List.mem_cons_self ..,rfl⟩
   ·obtain⟨x',hx,y',hy,e⟩:=ih h
    exact⟨x',List.mem_cons_of_mem _ hx,y',List.mem_cons_of_mem _ hy,e⟩
theorem tree_bd{kerf:Int}{l:List Kd}(hc:chk kerf l=0):∀(f:Nat) (p:Int×Int) (ns:List (Nat×Int)),1≤p.1∧p.1≤16→1≤p.2∧p.2≤16→TB (treeS kerf l f p ns).1 (treeS kerf l f p ns).2∧(treeS kerf l f p ns).2≤ns.length
 |f,p,[],_,_=>by cases f<;>exact⟨TB.zero false _,Nat.le_refl _⟩
 |0,p,x::ns,h1,h2=>by
  rw[treeS]
  split
  ·exact⟨TB.zero false _,Nat.zero_le _⟩
  ·have:=node_bd hc x h1 h2
   exact⟨this.1,by simp;omega⟩
 |f+1,p,x::ns,h1,h2=>by
  rw[treeS]
  split
  ·split
   ·rename_i hk hat
    have hk0:=(chk_iff.1 hc).2.1
    have g1:1≤(oneI x p).1∧(oneI x p).1≤16:=by unfold oneI;unfold sizeI at hat;split<;>(split at hat)<;>dsimp only<;>omega
    have g2:1≤(oneI x p).2∧(oneI x p).2≤16:=by unfold oneI;unfold sizeI at hat;split<;>(split at hat)<;>dsimp only<;>omega
    obtain⟨t1,n1⟩:=tree_bd hc f (oneI x p) ns g1 g2
    generalize treeS kerf l f (oneI x p) ns=one at*
    unfold joinS
    split
    ·split
     ·refine⟨⟨?_,?_,?_,t1.len,fun u hu=> ?_⟩,by simp;omega⟩
      ·have:=t1.worth;dsimp only;omega
      ·have:=t1.cells;dsimp only;omega
      ·have:=t1.depth;dsimp only;omega
      ·have:=t1.used u hu;omega
     ·rename_i hr
      have g3:1≤(twoI kerf x p).1∧(twoI kerf x p).1≤16:=by unfold twoI;unfold sizeI at hat hr;split<;>(split at hat)<;>(split at hr)<;>dsimp only<;>omega
      have g4:1≤(twoI kerf x p).2∧(twoI kerf x p).2≤16:=by unfold twoI;unfold sizeI at hat hr;split<;>(split at hat)<;>(split at hr)<;>dsimp only<;>omega
      obtain⟨t2,n2⟩:=tree_bd hc f (twoI kerf x p) (ns.drop one.2) g3 g4
      generalize treeS kerf l f (twoI kerf x p) (ns.drop one.2)=two at*
      rw[List.length_drop]at n2
      split
      ·refine⟨⟨?_,?_,?_,?_,fun u hu=> ?_⟩,by simp;omega⟩
       ·have:=t1.worth;have:=t2.worth;dsimp only;omega
       ·have:=t1.cells;have:=t2.cells;dsimp only;omega
       ·have:=t1.depth;have:=t2.depth;dsimp only;unfold mx;split<;>omega
       ·simp[t1.len,t2.len]
       ·obtain⟨a,ha,b,hb,rfl⟩:=zip_mem hu
        have:=t1.used a ha;have:=t2.used b hb;omega
      ·exact⟨TB.zero false _,Nat.zero_le _⟩
    ·exact⟨TB.zero false _,Nat.zero_le _⟩
   ·exact⟨TB.zero false _,Nat.zero_le _⟩
  ·have:=node_bd hc x h1 h2
   exact⟨this.1,by simp;omega⟩
theorem smC_len{s:Sm}(h:s.used.length=12):(smC s).length=16:=by simp[smC,ints,h]
theorem ones_smC(s:Sm):ones (smC s)=true:=by
 have:∀xs:List Int,ones (ints xs)=true:=fun xs=>by
  induction xs with
  |nil=>rfl
  |cons x xs ih=>exact ih
 exact this s.used
theorem smC_take{s:Sm}(h:s.used.length=12):ltake 16 (ldrop 0 (smC s))=smC s∧Nat.beq (llen (smC s)) 16=true:=
 ⟨by rw[ltake_eq,ldrop_eq,List.drop_zero,List.take_of_length_le (by rw[smC_len h];omega)],by rw[llen_eq,smC_len h];rfl⟩
theorem noRef_smC(s:Sm)(m:Int):noRef (.tuple #[.agg (smC s).toArray, .int .i64 m])=true:=by
 have:∀xs:List Int,scalL (ints xs)=true:=fun xs=>by
  induction xs with
  |nil=>rfl
  |cons x xs ih=>exact ih
 have h2:scalL (smC s)=true:=this s.used
 simp[noRef,flatL,flat,h2,scalL,scal,scal1]
section
variable {base:Nat} {h:Heap} {e:Env}
theorem a_storeAll{x y:Operand}{b n sz:Nat}{vs cs:List Value}(hx:ev h e x=some (.pointer (some ⟨b,0,none⟩)))(hy:ev h e y=some (.agg cs.toArray))(hb:h.get b=some (.cells vs true sz))(hn:cs.length=n)(hv:vs.length=n)(h1:ones cs=true):
 aop h base e (.store n x y)=some (.val (.tuple #[]) (h.wr base b (.cells cs true sz))):=by
 have hc:cellsOf (.agg cs.toArray)=cs:=by show cs.toArray.toList=cs;simp
 refine a_store hx hy hb ?_ ?_
 ·rw[hc,llen_eq,llen_eq,hn,hv,h1,nbeq_self,Nat.zero_add,nble_of (Nat.le_refl n)];rfl
 ·rw[hc,lputs_mid (by omega)]
  simp only[List.take_zero,List.nil_append,Nat.zero_add]
  rw[List.drop_of_length_le (by omega),List.append_nil]
theorem a_store1{x y:Operand}{b o sz:Nat}{vs:List Value}{v:Value}(hx:ev h e x=some (.pointer (some ⟨b,o,none⟩)))(hy:ev h e y=some v)(hb:h.get b=some (.cells vs true sz))(hc:cellsOf v=[v])(h1:ones [v]=true)(ho:o<vs.length):
 aop h base e (.store 1 x y)=some (.val (.tuple #[]) (h.wr base b (.cells (vs.set o v) true sz))):=by
 refine a_store hx hy hb ?_ ?_
 ·rw[hc,h1,llen_eq,llen_eq,nble_of (by omega)];rfl
 ·rw[hc]
  show lset vs o v=vs.set o v
  clear hx hy hb
  induction vs generalizing o with
  |nil=>simp at ho
  |cons w vs ih=>
   cases o with
   |zero=>rfl
   |succ o=>simp only[lset,List.set_cons_succ];rw[ih (by simpa using ho)]
end
def recsIn(m:Nat):List Rec→Bool
 |[]=>true
 |r::rs=>Nat.testBit m r.i&&recsIn m rs
theorem recs_all{base:Nat}{h:Heap}{mask:Nat}{lg:List Nat}:∀{rs:List Rec},recsIn mask rs=true→recsAfter h base lg mask rs=some []
 |[],_=>rfl
 |r::rs,hm=>by
  simp only[recsIn,Bool.and_eq_true]at hm
  exact ra_drop hm.1 (recs_all hm.2)
theorem wD_sliceLo{base:Nat}{h:Heap}{e:Env}{ops:List AOper}{bf:List Nat}{rs rsM:List Rec}{Q:Env→Heap→Prop}{i mask m2 n c k:Nat}{is:List Nat}{dst:Option Nat}{g:Option (Nat×Bool)}{er:Env}{x y:Operand}{a:Option Addr}{cs:List Value}{kd:IntKind}
 (s:SliceOf h 2 (.slice a n c) n cs)(u:U2 h (.slice a n c))(hk:k≤n)(h0:0<n)(hn:n<1000000)(hcap:c<1000000∨c=UNK)(ho:lget ops i=some ⟨dst, .slice (.sl 2) x (some y) none none,g⟩)(hm:lget bf i=some mask)(he:keepE e (slotsA ⟨dst, .slice (.sl 2) x (some y) none none,g⟩)=er)(hwt:wantedA er g=some true)
 (hx:∀H:Heap,ev H er x=some (.slice a n c))(hy:∀H:Heap,ev H er y=some (.int kd (k:Nat)))(hall:allIn bf i is=true)(hrs:recsAfter (h.push (.cells [] false 2)) base [] mask rs=some rsM)(hs1:recsIn m2 rs=true)(hs2:recsIn m2 rsM=true)(hid:Nat.testBit m2 i=true)
 (hK:∀v h' rs',Ext h h'→SliceOf h' 2 v (n-k) (cs.drop (k*2))→U2 h' v→(∃a' c',v= .slice a' (n-k) c'∧(c'<1000000∨c'=UNK))→recsIn m2 rs'=true→WD T base ops bf Q is rs' (dstE e dst v) h'):WD T base ops bf Q (i::is) rs e h:=by
 rcases s.inv with⟨_,_,hz,_⟩|⟨b,o,cap,hv,s1,hc⟩
 ·omega
 cases hv
 obtain⟨vs,own,t,g1,g2⟩:=s1.obj
 have hdrop:ltake ((n-k)*2) (ldrop (o+k*2) vs)=cs.drop (k*2):=by
  rw[←g2]
  simp only[ltake_eq,ldrop_eq,List.drop_take,List.drop_drop]
  rw[Nat.sub_mul]
 have hlen:(cs.drop (k*2)).length=(n-k)*2:=by rw[List.length_drop,s1.len,Nat.sub_mul]
 have hr2:∀v:Value,recsIn m2 (⟨i,⟨dst, .slice (.sl 2) x (some y) none none,g⟩,er,v, .quiet⟩::rs:List Rec)=true:=fun v=>by
  simp only[recsIn,Bool.and_eq_true];exact⟨hid,hs1⟩
 by_cases hU:c=UNK
 ·subst hU
  obtain⟨vs',own',g3⟩:=u b o n rfl
  rw[g1]at g3
  cases g3
  by_cases hlt:k<n
  ·refine wD_quiet ho hm he hwt rfl rfl (a_slice_lo (hx h) (hy h) g1 hlt) (hK _ _ _ (.refl h) (.mem ⟨s1.lt,⟨vs,own,2,g1,hdrop⟩,hlen⟩ (by unfold UNK;omega)) (fun b' o' n' e'=>by cases e';exact⟨vs,own,g1⟩) ⟨_,_,rfl, .inr rfl⟩ (hr2 _))
  ·obtain rfl:k=n:=by omega
   have hy':=hy {h with log:=[]}
   refine wD_made ho hm he hwt rfl rfl (a_slice_end (hx h) (hy h) g1 (by omega)) ?_ hall (a_slice_end (h:={h with log:=[]}) (hx _) hy' g1 (by omega)) (eq_push _) (lg_push _) hrs ?_
   ·show Nat.beq (h.next+1) h.next=false
    exact nbeq_not (by omega)
   ·refine hK _ _ _ ((Ext.refl h).push _) ?_ (fun b' o' n' e'=>by cases e';exact⟨[],false,z3 _ _⟩) ⟨some ⟨h.next,0,none⟩,UNK,by rw[Nat.sub_self], .inr rfl⟩ hs2
    rw[Nat.sub_self,List.drop_of_length_le (by rw[s1.len];omega)]
    exact .mem ⟨Nat.lt_succ_self _,⟨[],false,2,z3 _ _,rfl⟩,rfl⟩ (Nat.zero_le _)
 ·have hcl:c<1000000:=hcap.elim id fun q=>absurd q hU
  by_cases hck:c=k
  ·have hbk:Nat.beq c k=true:=by rw[hck];exact nbeq_self k
   have hop:∀H:Heap,aop H base er (.slice (.sl 2) x (some y) none none)=some (.val (.slice (some ⟨b,o,none⟩) (n-k) (c-k)) H):=fun H=>by
    simp only[aop,hx H,sliceOp,bnd_some (hy H),bnd_none,nbeq_not hU,nble_of hk,nble_of hc,hbk,Bool.and_self,cond_true,cond_false,asPair]
   obtain rfl:k=n:=by omega
   refine wD_quiet ho hm he hwt rfl rfl (hop h) (hK _ _ _ (.refl h) ?_ (fun b' o' n' e'=>by injection e' with e1 e2 e3;unfold UNK at e3;omega) ⟨_,_,rfl, .inl (by omega)⟩ (hr2 _))
   rw[Nat.sub_self,List.drop_of_length_le (by rw[s1.len];omega)]
   exact .mem ⟨s1.lt,⟨vs,own,t,g1,by rw[Nat.zero_mul];cases ldrop o vs<;>rfl⟩,rfl⟩ (Nat.zero_le _)
  ·refine wD_quiet ho hm he hwt rfl rfl (a_sliceC (hi:=none) (hx h) (bnd_some (hy h)) bnd_none hk hc (by omega) hcl) (hK _ _ _ (.refl h) (.mem ⟨s1.lt,⟨vs,own,t,g1,hdrop⟩,hlen⟩ (by omega)) (fun b' o' n' e'=>by injection e' with e1 e2 e3;unfold UNK at e3;omega) ⟨_,_,rfl, .inl (by omega)⟩ (hr2 _))
theorem wD_storeAll{base:Nat}{h:Heap}{e:Env}{ops:List AOper}{bf:List Nat}{rs rs':List Rec}{Q:Env→Heap→Prop}{i mask:Nat}{is:List Nat}{dst:Option Nat}{g:Option (Nat×Bool)}{er:Env}{x y:Operand}{b n sz:Nat}{vs cs:List Value}
 (ho:lget ops i=some ⟨dst, .store n x y,g⟩)(hm:lget bf i=some mask)(he:keepE e (slotsA ⟨dst, .store n x y,g⟩)=er)(hwt:wantedA er g=some true)(hx:ev {h with log:=[]} er x=some (.pointer (some ⟨b,0,none⟩)))(hy:ev {h with log:=[]} er y=some (.agg cs.toArray))(hb:h.get b=some (.cells vs true sz))
 (hn:cs.length=n)(hv:vs.length=n)(h1:ones cs=true)(hlt:b<h.next)(hbb:base≤b)(hrs:recsAfter (h.wr base b (.cells cs true sz)) base [b] mask rs=some rs')
 (H:WD T base ops bf Q is rs' (dstE e dst (.tuple #[])) (h.wr base b (.cells cs true sz))):WD T base ops bf Q (i::is) rs e h:=
 wD_actH ho hm he hwt rfl (a_storeAll (h:={h with log:=[]}) hx hy hb hn hv h1) (eq_wr hlt hbb _) (lg_wr hlt _) hrs H
end Go.A.Pk
end
section
set_option maxRecDepth 100000
namespace Go.A.Pk
variable {T:Nat→Option AFunc}
structure FnsTr (T:Nat→Option AFunc):Prop where
 p:primAS T
 f80:T 80=some f80
 f137:T 137=some f137
def blkB:ACode→ACode
 | .block _ b=>b
 |c=>c
def cnA:ACode→ACode
 | .cond _ a _=>a
 |c=>c
def cnB:ACode→ACode
 | .cond _ _ b=>b
 |c=>c
def tB0:ACode:=blkB (cR (cL (cR (cR (cR (codeOf f137))))))
def tA12:ACode:=cnA (cR (cnB (cR tB0)))
def tA34:ACode:=cnA (cR (cnB (cR (cnB (cR tB0)))))
theorem wE_cutT{base:Nat}{rnd:Option Nat}{Q:XQ}{e:Env}{E0:Env}{ds:Dfs}{h H0:Heap}{a b:ACode}(H1:WE T base rnd a (fun x e' ds' h'=>x= .normal∧e'=E0∧ds'=[]∧h'=H0) e ds h)(H2:WE T base rnd b Q E0 [] H0):WE T base rnd (.seq a b) Q e ds h:=by
 refine wE_seq (H1.mono ?_)
 rintro x e' ds' h' ⟨rfl,rfl,rfl,rfl⟩
 exact kS_n H2
theorem WE.genT{base:Nat}{rnd:Option Nat}{c:ACode}{Q:XQ}{e:Env}{ds:Dfs}{h:Heap}(hK:∀hA,hA=h→WE T base rnd c Q e ds hA):WE T base rnd c Q e ds h:=hK h rfl
theorem set_smC(b:Bool)(w c d:Int)(us:List Int)(i:Nat)(v:Int):(smC ⟨b,w,c,d,us⟩).set (0+4+i*1) (.int .i64 v)=smC ⟨b,w,c,d,us.set i v⟩:=by
 rw[show 0+4+i*1=i+4 by omega]
 simp[smC,ints,List.map_set]
def treeV(s:Sm×Nat):Value:= .tuple #[.agg (smC s.1).toArray, .int .i64 (s.2:Nat)]
def treeRs:List (Nat×Option (Option Nat)):=[(8,some (some 16)),(9,none)]
theorem tree_end{h:Heap}{e:Env}{p8:Nat}{s:Sm}{m:Nat}(hl:s.used.length=12)(hlog:h.log=[])(e8:geT e 8=some (.pointer (some ⟨p8,0,none⟩)))(e9:geT e 9=some (.int .i64 (m:Nat)))(g8:h.get p8=some (.cells (smC s) true 1)):endP treeRs (treeV (s,m)) .ret e [] h:=
 endP_ret hlog (res_cells e8 g8 (smC_take hl).1 (smC_take hl).2 (res_slot e9 res_nil)) rfl
set_option maxHeartbeats 16000000 in
theorem tree_plank(F:FnsTr T){base p4 p8 p10:Nat}{H:Heap}(hw:WF H)(hlog:H.log=[])(hb8:base≤p8)(hbase:base≤H.next){a:Option Addr}{c:Nat}{l:List Kd}{kerf:Int}{x:Nat×Int}{p:Int×Int}(hks:SliceOf H 5 (.slice a l.length c) l.length (kcs l))(hc:chk kerf l=0)
 (g4:H.get p4=some (.cells [.slice a l.length c, .int .i64 kerf] true 1))(g8:H.get p8=some (.cells (smC sm0) true 1))(g10:H.get p10=some (.cells [.int .u8 x.1, .int .i64 x.2] true 1))(hx:x.1=1∨x.1=2)(h1:1≤p.1∧p.1≤16)(h2:1≤p.2∧p.2≤16){v3 v32:Value}{Q:XQ}
 (hQ:∀e H',endP treeRs (treeV (plankS l x p)) .ret e [] H'→Q .ret e [] H'):
 WE T base none tA12 Q [(1, .int .i64 p.1),(2, .int .i64 p.2),(3,v3),(4, .pointer (some ⟨p4,0,none⟩)),(8, .pointer (some ⟨p8,0,none⟩)),(10, .pointer (some ⟨p10,0,none⟩)),(32,v32),(39, .bool true)] [] H:=by
 have k4:=WF.get_lt hw g4
 have k8:=WF.get_lt hw g8
 have k10:=WF.get_lt hw g10
 have hl12:=(chk_iff.1 hc).1
 obtain⟨xk,xa⟩:=x
 obtain⟨p1,p2⟩:=p
 dsimp only at g10 hx h1 h2⊢
 unfold tA12 tB0
 simp only[cR,cL,cnA,cnB,blkB,codeOf,f137]
 refine wE_seq ?_;refine y4 ?_;refine yF ?_;refine yL ?_;refine yF ?_;refine yL ?_;refine yD ?_
 refine ysub ?_
 refine yC ?_
 by_cases hin:0≤xa∧xa≤(l.length:Int)-1
 ·refine FW.pu (in80T F.p F.f80 (.of hw) hin) ?_
  obtain⟨i,rfl⟩:=Int.eq_ofNat_of_zero_le hin.1
  have hil:i<l.length:=by omega
  obtain⟨k,hkl⟩:∃k,l[i]? =some k:=⟨l[i],List.getElem?_eq_getElem hil⟩
  have hP:plankS l (xk,(i:Int)) (p1,p2)=(⟨decide (isP k xk (p1,p2)),k.worth,p1*p2,0,z12.set i 1⟩,1):=by
   unfold plankS
   rw[if_pos hin]
   simp only[Int.toNat_natCast,hkl]
  rw[hP]at hQ
  clear hP
  rcases hks.inv with⟨_,_,h0,_⟩|⟨kb,ko,kcap,hv,sk,hkcap⟩
  ·omega
  cases hv
  obtain⟨vk,ownk,tk,gk1,gk2⟩:=slice_elem sk hkl
  obtain⟨id,kw,kh,kwo,tu⟩:=k
  have gk2':ltake 5 (ldrop (ko+i*5) vk)=[.int .i64 id, .int .i64 kw, .int .i64 kh, .int .i64 kwo, .bool tu]:=gk2
  have em:numOp .mul (.int .i64 p1) (.int .i64 p2)=some (.int .i64 (p1*p2)):=by
   have q1:=Int.mul_nonneg (show 0≤p1 by omega) (show 0≤p2 by omega)
   have q2:=Int.mul_le_mul h1.2 h2.2 (by omega) (by omega)
   have e:wrapA .i64 (p1*p2)=p1*p2:=wrapA_i64 (by omega) (by omega)
   simp[numOp,arith,e]
  clear gk2
  refine yA ?_;refine y3 ?_;refine yX ?_;refine wE_skip ?_;refine kS_n ?_;refine y4 ?_;refine yF ?_;refine yL ?_
  refine yF ?_;refine yL ?_;refine wO_val (a_iaddrS (by exact rfl) (by exact rfl) (by omega)) ?_
  refine wO_val (a_loadN (by exact rfl) gk1 gk2' (by exact rfl)) ?_
  refine wO_val a_new ?_
  refine wO_val (a_store (ws:=[.int .i64 id, .int .i64 kw, .int .i64 kh, .int .i64 kwo, .bool tu]) (by exact rfl) (by exact rfl) (by(simp(disch:=first|omega|(simp only[z1,z2];omega))only[z3,z4,z5,z6,z7,z1,z2, *];exact rfl)) (by exact rfl) (by exact rfl)) ?_
  refine y3 ?_
  refine WE.genT ?_
  intro hA hAe
  have hxA:Ext H hA:=by rw[hAe];exact((Ext.refl H).push _).wr (by omega) (by omega)
  have A11:hA.get H.next=some (.cells [.int .i64 id, .int .i64 kw, .int .i64 kh, .int .i64 kwo, .bool tu] true 1):=by rw[hAe];(simp(disch:=first|omega|(simp only[z1,z2];omega))only[z3,z4,z5,z6,z7,z1,z2, *];done)
  have hnA:hA.next=H.next+1:=by rw[hAe];rfl
  have A8:=(hxA.old _ k8).trans g8
  have A10:=(hxA.old _ k10).trans g10
  have wA:=hxA.wf hw
  have lA:=hxA.log.trans hlog
  clear hAe gk1 gk2' g4 g8 g10
  refine wE_cutT (E0:=[(1, .int .i64 p1),(2, .int .i64 p2),(8, .pointer (some ⟨p8,0,none⟩)),(10, .pointer (some ⟨p10,0,none⟩)),(11, .pointer (some ⟨H.next,0,none⟩)),(12, .bool (decide (xk=1∧kw=p1∧kh=p2)))]) (H0:=hA) ?_ ?_
  ·by_cases c1:xk=1
   ·by_cases c2:kw=p1
    ·by_cases c3:kh=p2
     ·rw[decide_eq_true (show xk=1∧kw=p1∧kh=p2 from⟨c1,c2,c3⟩)]
      refine wE_region ?_;refine yF ?_;refine yL ?_;refine yt ?_;refine yM ?_;refine yO ?_;refine yF ?_;refine yO ?_
      refine yL ?_;refine yO ?_;refine yM ?_;refine yO ?_;refine yt ?_;refine yT ?_;refine yM ?_;refine yO ?_
      refine yF ?_;refine yO ?_;refine yL ?_;refine yO ?_;refine yM ?_;refine yO ?_;refine yt ?_;refine yT ?_
      refine yM ?_;refine wO_nil ?_;refine y1 ?_
      exact⟨rfl,rfl,rfl,rfl⟩
     ·rw[decide_eq_false (show¬ (xk=1∧kw=p1∧kh=p2)from fun q=>c3 q.2.2)]
      refine wE_region ?_;refine yF ?_;refine yL ?_;refine yt ?_;refine yM ?_;refine yO ?_;refine yF ?_;refine yO ?_
      refine yL ?_;refine yO ?_;refine yM ?_;refine yO ?_;refine yt ?_;refine yT ?_;refine yM ?_;refine yO ?_
      refine yF ?_;refine yO ?_;refine yL ?_;refine yO ?_;refine yM ?_;refine yO ?_;refine yf ?_;refine yT ?_
      refine yM ?_;refine wO_nil ?_;refine y1 ?_
      exact⟨rfl,rfl,rfl,rfl⟩
    ·rw[decide_eq_false (show¬ (xk=1∧kw=p1∧kh=p2)from fun q=>c2 q.2.1)]
     refine wE_region ?_;refine yF ?_;refine yL ?_;refine yt ?_;refine yM ?_;refine yO ?_;refine yF ?_;refine yO ?_
     refine yL ?_;refine yO ?_;refine yM ?_;refine yO ?_;refine yf ?_;refine yT ?_;refine yM ?_
     refine yP ?_;refine yP ?_;refine yP ?_;refine yP ?_;refine yU ?_;refine yM ?_;refine wO_nil ?_
     refine y1 ?_
     exact⟨rfl,rfl,rfl,rfl⟩
   ·rw[decide_eq_false (show¬ (xk=1∧kw=p1∧kh=p2)from fun q=>c1 q.1)]
    refine wE_region ?_;refine yF ?_;refine yL ?_;refine yf ?_;refine yM ?_;refine yP ?_;refine yP ?_
    refine yP ?_;refine yP ?_;refine yU ?_;refine yM ?_;refine yP ?_;refine yP ?_;refine yP ?_;refine yP ?_
    refine yU ?_;refine yM ?_;refine wO_nil ?_;refine y1 ?_
    exact⟨rfl,rfl,rfl,rfl⟩
  refine wE_cutT (E0:=[(1, .int .i64 p1),(2, .int .i64 p2),(8, .pointer (some ⟨p8,0,none⟩)),(10, .pointer (some ⟨p10,0,none⟩)),(11, .pointer (some ⟨H.next,0,none⟩)),(12, .bool (decide (xk=1∧kw=p1∧kh=p2))),(13, .bool (decide (xk=2∧tu=true∧kh=p1∧kw=p2)))]) (H0:=hA) ?_ ?_
  ·by_cases c1:xk=2
   ·cases tu with
    |false=>
     rw[decide_eq_false (show¬ (xk=2∧false=true∧kh=p1∧kw=p2)from fun q=>by cases q.2.1)]
     refine wE_region ?_;refine yF ?_;refine yL ?_;refine yt ?_;refine yM ?_;refine yO ?_;refine yF ?_;refine yO ?_
     refine yL ?_;refine yT ?_;refine yM ?_;refine yP ?_;refine yP ?_;refine yP ?_;refine yP ?_
     refine yU ?_;refine yM ?_;refine yP ?_;refine yP ?_;refine yP ?_;refine yP ?_;refine yU ?_;refine yM ?_
     refine wO_nil ?_;refine y1 ?_
     exact⟨rfl,rfl,rfl,rfl⟩
    |true=>
     by_cases c2:kh=p1
     ·by_cases c3:kw=p2
      ·rw[decide_eq_true (show xk=2∧true=true∧kh=p1∧kw=p2 from⟨c1,rfl,c2,c3⟩)]
       refine wE_region ?_;refine yF ?_;refine yL ?_;refine yt ?_;refine yM ?_;refine yO ?_;refine yF ?_;refine yO ?_
       refine yL ?_;refine yT ?_;refine yM ?_;refine yO ?_;refine yF ?_;refine yO ?_;refine yL ?_;refine yO ?_
       refine yM ?_;refine yO ?_;refine yt ?_;refine yT ?_;refine yM ?_;refine yO ?_;refine yF ?_;refine yO ?_
       refine yL ?_;refine yO ?_;refine yM ?_;refine yO ?_;refine yt ?_;refine yT ?_;refine yM ?_;refine wO_nil ?_
       refine y1 ?_
       exact⟨rfl,rfl,rfl,rfl⟩
      ·rw[decide_eq_false (show¬ (xk=2∧true=true∧kh=p1∧kw=p2)from fun q=>c3 q.2.2.2)]
       refine wE_region ?_;refine yF ?_;refine yL ?_;refine yt ?_;refine yM ?_;refine yO ?_;refine yF ?_;refine yO ?_
       refine yL ?_;refine yT ?_;refine yM ?_;refine yO ?_;refine yF ?_;refine yO ?_;refine yL ?_;refine yO ?_
       refine yM ?_;refine yO ?_;refine yt ?_;refine yT ?_;refine yM ?_;refine yO ?_;refine yF ?_;refine yO ?_
       refine yL ?_;refine yO ?_;refine yM ?_;refine yO ?_;refine yf ?_;refine yT ?_;refine yM ?_;refine wO_nil ?_
       refine y1 ?_
       exact⟨rfl,rfl,rfl,rfl⟩
     ·rw[decide_eq_false (show¬ (xk=2∧true=true∧kh=p1∧kw=p2)from fun q=>c2 q.2.2.1)]
      refine wE_region ?_;refine yF ?_;refine yL ?_;refine yt ?_;refine yM ?_;refine yO ?_;refine yF ?_;refine yO ?_
      refine yL ?_;refine yT ?_;refine yM ?_;refine yO ?_;refine yF ?_;refine yO ?_;refine yL ?_;refine yO ?_
      refine yM ?_;refine yO ?_;refine yf ?_;refine yT ?_;refine yM ?_;refine yP ?_;refine yP ?_;refine yP ?_
      refine yP ?_;refine yU ?_;refine yM ?_;refine wO_nil ?_;refine y1 ?_
      exact⟨rfl,rfl,rfl,rfl⟩
   ·rw[decide_eq_false (show¬ (xk=2∧tu=true∧kh=p1∧kw=p2)from fun q=>c1 q.1)]
    refine wE_region ?_;refine yF ?_;refine yL ?_;refine yf ?_;refine yM ?_;refine yP ?_;refine yP ?_
    refine yU ?_;refine yM ?_;refine yP ?_;refine yP ?_;refine yP ?_;refine yP ?_;refine yU ?_;refine yM ?_
    refine yP ?_;refine yP ?_;refine yP ?_;refine yP ?_;refine yU ?_;refine yM ?_;refine wO_nil ?_
    refine y1 ?_
    exact⟨rfl,rfl,rfl,rfl⟩
  have hor:decide (isP ⟨id,kw,kh,kwo,tu⟩ xk (p1,p2))=(decide (xk=1∧kw=p1∧kh=p2)||decide (xk=2∧tu=true∧kh=p1∧kw=p2)):=by
   by_cases q1:xk=1∧kw=p1∧kh=p2
   ·rw[decide_eq_true (show isP ⟨id,kw,kh,kwo,tu⟩ xk (p1,p2)from .inl q1),decide_eq_true q1];rfl
   ·by_cases q2:xk=2∧tu=true∧kh=p1∧kw=p2
    ·rw[decide_eq_true (show isP ⟨id,kw,kh,kwo,tu⟩ xk (p1,p2)from .inr q2),decide_eq_false q1,decide_eq_true q2];rfl
    ·rw[decide_eq_false (show¬isP ⟨id,kw,kh,kwo,tu⟩ xk (p1,p2)from fun q=>q.elim q1 q2),decide_eq_false q1,decide_eq_false q2];rfl
  rw[hor]at hQ
  dsimp only at hQ
  generalize decide (xk=1∧kw=p1∧kh=p2)=b12 at*
  generalize decide (xk=2∧tu=true∧kh=p1∧kw=p2)=b13 at*
  clear hor
  cases b12 with
  |true=>
   refine y4 ?_;refine yM ?_;refine yM ?_;refine yP ?_;refine yT ?_;refine yF ?_;refine yL ?_;refine yM ?_
   refine yM ?_;refine wO_val (a_num (by exact rfl) (by exact rfl) (by with_reducible assumption)) ?_;refine wO_val (a_build (by exact rfl)) ?_;refine wO_val a_new ?_
   refine yS ?_;refine y3 ?_;refine y4 ?_;refine yF ?_
   refine yL ?_;refine yF ?_;refine wO_val (a_iaddrA (by exact rfl) (by exact rfl) (by omega)) ?_
   refine wO_val (a_store1 (b:=hA.next) (o:=0+4+i*1) (vs:=smC ⟨true,kwo,p1*p2,0,z12⟩) (by exact rfl) (by exact rfl) (by(simp(disch:=first|omega|(simp only[z1,z2];omega)|(simp only[z1,z2];done)|fail)only[z8,z4,z5,z9,z7,z1,z2, *];exact rfl)) (by exact rfl) (by exact rfl) (by show 0+4+i*1<16;omega)) ?_
   rw[set_smC]
   refine y3 ?_;refine y4 ?_
   refine wO_val (a_loadN (l:=smC ⟨true,kwo,p1*p2,0,z12.set i 1⟩) (by exact rfl) (by(simp(disch:=first|omega|(simp only[z1,z2];omega)|(simp only[z1,z2];done)|fail)only[z8,z4,z5,z9,z7,z1,z2, *];exact rfl)) (smC_take (by simp[z12])).1 (smC_take (by simp[z12])).2) ?_
   refine wO_val (a_storeAll (cs:=smC ⟨true,kwo,p1*p2,0,z12.set i 1⟩) (vs:=smC sm0) (by exact rfl) (by exact rfl) (by(simp(disch:=first|omega|(simp only[z1,z2];omega))only[z3,z4,z5,z6,z7,z1,z2, *];exact rfl)) (smC_len (by simp[z12])) rfl (ones_smC _)) ?_
   refine yM ?_;refine y3 ?_;refine wE_ret ?_
   refine hQ _ _ (tree_end (p8:=p8) (by simp[z12]) ?_ rfl rfl (by(simp(disch:=first|omega|(simp only[z1,z2];omega))only[z3,z4,z5,z6,z7,z1,z2, *];exact rfl)))
   simp(disch:=first|omega|(simp only[z1,z2];omega))only[Heap.log_wr_new,Heap.log_push]
   exact lA
  |false=>
   refine y4 ?_;refine yM ?_;refine yM ?_;refine yO ?_;refine yM ?_;refine yU ?_;refine yF ?_;refine yL ?_
   refine yM ?_;refine yM ?_;refine wO_val (a_num (by exact rfl) (by exact rfl) (by with_reducible assumption)) ?_;refine wO_val (a_build (by exact rfl)) ?_;refine wO_val a_new ?_
   refine yS ?_;refine y3 ?_;refine y4 ?_;refine yF ?_
   refine yL ?_;refine yF ?_;refine wO_val (a_iaddrA (by exact rfl) (by exact rfl) (by omega)) ?_
   refine wO_val (a_store1 (b:=hA.next) (o:=0+4+i*1) (vs:=smC ⟨b13,kwo,p1*p2,0,z12⟩) (by exact rfl) (by exact rfl) (by(simp(disch:=first|omega|(simp only[z1,z2];omega)|(simp only[z1,z2];done)|fail)only[z8,z4,z5,z9,z7,z1,z2, *];exact rfl)) (by exact rfl) (by exact rfl) (by show 0+4+i*1<16;omega)) ?_
   rw[set_smC]
   refine y3 ?_;refine y4 ?_
   refine wO_val (a_loadN (l:=smC ⟨b13,kwo,p1*p2,0,z12.set i 1⟩) (by exact rfl) (by(simp(disch:=first|omega|(simp only[z1,z2];omega)|(simp only[z1,z2];done)|fail)only[z8,z4,z5,z9,z7,z1,z2, *];exact rfl)) (smC_take (by simp[z12])).1 (smC_take (by simp[z12])).2) ?_
   refine wO_val (a_storeAll (cs:=smC ⟨b13,kwo,p1*p2,0,z12.set i 1⟩) (vs:=smC sm0) (by exact rfl) (by exact rfl) (by(simp(disch:=first|omega|(simp only[z1,z2];omega))only[z3,z4,z5,z6,z7,z1,z2, *];exact rfl)) (smC_len (by simp[z12])) rfl (ones_smC _)) ?_
   refine yM ?_;refine y3 ?_;refine wE_ret ?_
   refine hQ _ _ (tree_end (p8:=p8) (by simp[z12]) ?_ rfl rfl (by(simp(disch:=first|omega|(simp only[z1,z2];omega))only[z3,z4,z5,z6,z7,z1,z2, *];exact rfl)))
   simp(disch:=first|omega|(simp only[z1,z2];omega))only[Heap.log_wr_new,Heap.log_push]
   exact lA
 ·refine FW.pu (in80F F.p F.f80 (.of hw) hin) ?_
  have hP:plankS l (xk,xa) (p1,p2)=(sm0,0):=by unfold plankS;rw[if_neg hin]
  rw[hP]at hQ
  refine yA ?_;refine y3 ?_;refine yY ?_;refine y4 ?_;refine wO_val (a_build (by exact rfl)) ?_;refine yS ?_
  refine yM ?_;refine y3 ?_;refine wE_ret ?_;refine kS_r ?_
  exact hQ _ _ (tree_end (p8:=p8) rfl ((Heap.log_wr_new hb8).trans hlog) rfl rfl (by(simp(disch:=first|omega|(simp only[z1,z2];omega))only[z3,z4,z5,z6,z7,z1,z2, *];exact rfl)))
end Go.A.Pk
end
section
set_option maxRecDepth 100000
namespace Go.A.Pk
variable {T:Nat→Option AFunc}
theorem wE_cutP{base:Nat}{rnd:Option Nat}{Q:XQ}{e:Env}{E0:Env}{ds:Dfs}{h:Heap}{a b:ACode}{P:Heap→Prop}(H1:WE T base rnd a (fun x e' ds' h'=>x= .normal∧e'=E0∧ds'=[]∧P h') e ds h)(H2:∀h',P h'→WE T base rnd b Q E0 [] h'):WE T base rnd (.seq a b) Q e ds h:=by
 refine wE_seq (H1.mono ?_)
 rintro x e' ds' h' ⟨rfl,rfl,rfl,hp⟩
 exact kS_n (H2 h' hp)
theorem wE_cutK{base:Nat}{rnd:Option Nat}{K:Env→Dfs→Heap→Prop}{Q:XQ}{e:Env}{E0:Env}{ds:Dfs}{h:Heap}{a:ACode}{P:Heap→Prop}(H1:WE T base rnd a (fun x e' ds' h'=>x= .normal∧e'=E0∧ds'=[]∧P h') e ds h)(H2:∀h',P h'→K E0 [] h'):WE T base rnd a (KS K Q) e ds h:=by
 refine H1.mono ?_
 rintro x e' ds' h' ⟨rfl,rfl,rfl,hp⟩
 exact kS_n (H2 h' hp)
theorem wE_cutR{base:Nat}{rnd:Option Nat}{K:Env→Dfs→Heap→Prop}{Q:XQ}{e:Env}{E0:Env→Env}{ds:Dfs}{h:Heap}{a:ACode}{P:Heap→Prop}(H1:WE T base rnd a (fun x e' ds' h'=>x= .normal∧(∃r,e'=E0 r)∧ds'=[]∧P h') e ds h)(H2:∀r h',P h'→K (E0 r) [] h'):WE T base rnd a (KS K Q) e ds h:=by
 refine H1.mono ?_
 rintro x e' ds' h' ⟨rfl,⟨r,rfl⟩,rfl,hp⟩
 exact kS_n (H2 r h' hp)
theorem wD_store1{base:Nat}{h:Heap}{e:Env}{ops:List AOper}{bf:List Nat}{rs rs':List Rec}{Q:Env→Heap→Prop}{i mask:Nat}{is:List Nat}{dst:Option Nat}{g:Option (Nat×Bool)}{er:Env}{x y:Operand}{b o sz:Nat}{vs:List Value}{v:Value}
 (ho:lget ops i=some ⟨dst, .store 1 x y,g⟩)(hm:lget bf i=some mask)(he:keepE e (slotsA ⟨dst, .store 1 x y,g⟩)=er)(hwt:wantedA er g=some true)(hx:ev {h with log:=[]} er x=some (.pointer (some ⟨b,o,none⟩)))(hy:ev {h with log:=[]} er y=some v)(hb:h.get b=some (.cells vs true sz))
 (hc:cellsOf v=[v])(h1:ones [v]=true)(ho':o<vs.length)(hlt:b<h.next)(hbb:base≤b)(hrs:recsAfter (h.wr base b (.cells (vs.set o v) true sz)) base [b] mask rs=some rs')
 (H:WD T base ops bf Q is rs' (dstE e dst (.tuple #[])) (h.wr base b (.cells (vs.set o v) true sz))):WD T base ops bf Q (i::is) rs e h:=
 wD_actH ho hm he hwt rfl (a_store1 (h:={h with log:=[]}) hx hy hb hc h1 ho') (eq_wr hlt hbb _) (lg_wr hlt _) hrs H
theorem recsIn_nil{m:Nat}:recsIn m []=true:=rfl
theorem recsIn_cons{m:Nat}{r:Rec}{rs:List Rec}(h:Nat.testBit m r.i=true)(hs:recsIn m rs=true):recsIn m (r::rs)=true:=by
 simp only[recsIn,h,hs,Bool.and_self]
theorem recsIn_consC{m i:Nat}{o:AOper}{e:Env}{v:Value}{k:Rk}{rs:List Rec}(h:Nat.testBit m i=true)(hs:recsIn m rs=true):recsIn m (⟨i,o,e,v,k⟩::rs)=true:=recsIn_cons h hs
theorem used_smC{s:Sm}{i:Nat}(hi:i<s.used.length):lget (smC s) (0+4+i*1)=some (.int .i64 (s.used.getD i 0)):=by
 rw[lget_eq,show 0+4+i*1=i+4 by omega]
 simp[smC,ints,List.getD_eq_getElem?_getD,List.getElem?_eq_getElem hi]
def zipN(u v:List Int)(i:Nat):List Int:=(List.zipWith (· + ·) u v).take i++List.replicate (12-i) 0
theorem zipN_len{u v:List Int}(hu:u.length=12)(hv:v.length=12){i:Nat}(hi:i≤12):(zipN u v i).length=12:=by
 simp[zipN,hu,hv];omega
theorem zipN_all{u v:List Int}(hu:u.length=12)(hv:v.length=12):zipN u v 12=List.zipWith (· + ·) u v:=by
 rw[zipN,List.take_of_length_le (by simp[hu,hv])];simp
theorem zipN_set{u v:List Int}(hu:u.length=12)(hv:v.length=12){i:Nat}(hi:i<12):(zipN u v i).set i (u.getD i 0+v.getD i 0)=zipN u v (i+1):=by
 have hz:(List.zipWith (· + ·) u v).length=12:=by simp[hu,hv]
 have hg:(List.zipWith (· + ·) u v)[i]? =some (u.getD i 0+v.getD i 0):=by
  rw[List.getElem?_zipWith,List.getElem?_eq_getElem (by omega),List.getElem?_eq_getElem (by omega)]
  simp[List.getD_eq_getElem?_getD,List.getElem?_eq_getElem (show i<u.length by omega),List.getElem?_eq_getElem (show i<v.length by omega)]
 unfold zipN
 generalize List.zipWith (· + ·) u v=z at*
 rw[List.take_add_one,hg,List.set_append_right _ _ (by simp;omega)]
 obtain⟨m,hm⟩:∃m,12-i=m+1:=⟨11-i,by omega⟩
 rw[hm,show 12-(i+1)=m by omega,List.length_take,Nat.min_eq_left (by omega),Nat.sub_self,List.replicate_succ,List.set_cons_zero,List.append_assoc]
 rfl
set_option maxHeartbeats 32000000 in
theorem tree_cut(F:FnsTr T){base p4 p8 p10:Nat}{H:Heap}(hw:WF H)(hlog:H.log=[])(hb8:base≤p8)(hbase:base≤H.next){a:Option Addr}{c:Nat}{l:List Kd}{kerf:Int}{x:Nat×Int}{p:Int×Int}{f:Nat}{ns:List (Nat×Int)}{pa:Option Addr}{pc:Nat}(hks:SliceOf H 5 (.slice a l.length c) l.length (kcs l))(hc:chk kerf l=0)
 (g4:H.get p4=some (.cells [.slice a l.length c, .int .i64 kerf] true 1))(g8:H.get p8=some (.cells (smC sm0) true 1))(g10:H.get p10=some (.cells [.int .u8 x.1, .int .i64 x.2] true 1))(hx:x.1=3∨x.1=4)(h1:1≤p.1∧p.1≤16)(h2:1≤p.2∧p.2≤16)
 (hns:SliceOf H 2 (.slice pa (ns.length+1) pc) (ns.length+1) (ncI (x::ns)))(hu:U2 H (.slice pa (ns.length+1) pc))(hpc:pc<1000000∨pc=UNK)(hlen:ns.length+1≤1000){rest:Env}{Q:XQ}{psum:Int}(hps:psum=p.1+p.2)
 (IH:∀(p:Int×Int) (ms:List (Nat×Int)) (h:Heap) (qa:Option Addr) (qc:Nat),1≤p.1∧p.1≤16→1≤p.2∧p.2≤16→p.1+p.2<psum→ms.length≤ns.length→Rdy h→SliceOf h 5 (.slice a l.length c) l.length (kcs l)→SliceOf h 2 (.slice qa ms.length qc) ms.length (ncI ms)→U2 h (.slice qa ms.length qc)→(qc<1000000∨qc=UNK)→
   Pu T 137 [.agg #[.slice a l.length c, .int .i64 kerf], .int .i64 p.1, .int .i64 p.2, .slice qa ms.length qc] h (treeV (treeS kerf l f p ms)))
 (hQ:∀e H',endP treeRs (treeV (if 1≤x.2∧x.2≤sizeI x p-1 then joinS kerf (sizeI x p) x.2 (treeS kerf l f (oneI x p) ns) (treeS kerf l f (twoI kerf x p) (ns.drop (treeS kerf l f (oneI x p) ns).2))else(sm0,0))) .ret e [] H'→Q .ret e [] H'):
 WE T base none tA34 Q ((1, .int .i64 p.1)::(2, .int .i64 p.2)::(3, .slice pa (ns.length+1) pc)::(4, .pointer (some ⟨p4,0,none⟩))::(8, .pointer (some ⟨p8,0,none⟩))::(10, .pointer (some ⟨p10,0,none⟩))::rest) [] H:=by
 have k4:=WF.get_lt hw g4
 have k8:=WF.get_lt hw g8
 have k10:=WF.get_lt hw g10
 have hk2:=(chk_iff.1 hc).2.1
 obtain⟨xk,xa⟩:=x
 obtain⟨p1,p2⟩:=p
 dsimp only at g10 hx h1 h2⊢
 unfold tA34 tB0
 simp only[cR,cL,cnA,cnB,blkB,codeOf,f137]
 refine wE_cutP (E0:=[(1, .int .i64 p1),(2, .int .i64 p2),(3, .slice pa (ns.length+1) pc),(4, .pointer (some ⟨p4,0,none⟩)),(8, .pointer (some ⟨p8,0,none⟩)),(10, .pointer (some ⟨p10,0,none⟩)),(15, .bool (decide (xk=3)))]) (P:=fun h'=>H=h') ?_ ?_
 ·rcases hx with rfl|rfl
  ·refine wE_region ?_;refine yF ?_;refine yL ?_;refine yt ?_;refine yM ?_;refine wO_nil ?_;refine y1 ?_
   exact⟨rfl,rfl,rfl,rfl⟩
  ·refine wE_region ?_;refine yF ?_;refine yL ?_;refine yf ?_;refine yM ?_;refine wO_nil ?_;refine y1 ?_
   exact⟨rfl,rfl,rfl,rfl⟩
 rintro _ rfl
 refine y4 ?_;refine yM ?_;refine yM ?_;refine y3 ?_;refine wE_seq ?_;refine y4 ?_;refine yM ?_;refine y3 ?_
 refine wE_cutR (E0:=fun r=>(1, .int .i64 p1)::(2, .int .i64 p2)::(3, .slice pa (ns.length+1) pc)::(4, .pointer (some ⟨p4,0,none⟩))::(8, .pointer (some ⟨p8,0,none⟩))::(10, .pointer (some ⟨p10,0,none⟩))::(15, .bool (decide (xk=3)))::(16, .int .i64 (sizeI (xk,xa) (p1,p2)))::r) (P:=fun h'=>H=h') ?_ ?_
 ·rcases hx with rfl|rfl
  ·refine yY ?_;refine wE_region ?_;refine yM ?_;refine yM ?_;refine wO_nil ?_;refine y1 ?_
   exact⟨rfl,⟨[],rfl⟩,rfl,rfl⟩
  ·refine yX ?_;refine wE_skip ?_
   exact⟨rfl,⟨_,rfl⟩,rfl,rfl⟩
 rintro r113 _ rfl
 have hsz:1≤sizeI (xk,xa) (p1,p2)∧sizeI (xk,xa) (p1,p2)≤16:=by unfold sizeI;split<;>dsimp only<;>omega
 generalize hsize:sizeI (xk,xa) (p1,p2)=size at*
 refine wE_seq ?_;refine y4 ?_;refine yF ?_;refine yL ?_;refine yM ?_;refine ysub ?_
 refine yC ?_
 by_cases hin:1≤xa∧xa≤size-1
 ·rw[if_pos hin]at hQ
  refine FW.pu (in80T F.p F.f80 (.of hw) hin) ?_
  have b1:(1≤(oneI (xk,xa) (p1,p2)).1∧(oneI (xk,xa) (p1,p2)).1≤16)∧(1≤(oneI (xk,xa) (p1,p2)).2∧(oneI (xk,xa) (p1,p2)).2≤16):=by
   unfold oneI;split<;>dsimp only<;>omega
  have T1:=tree_bd hc f (oneI (xk,xa) (p1,p2)) ns b1.1 b1.2
  have b2:¬size-xa-kerf<1→(1≤(twoI kerf (xk,xa) (p1,p2)).1∧(twoI kerf (xk,xa) (p1,p2)).1≤16)∧(1≤(twoI kerf (xk,xa) (p1,p2)).2∧(twoI kerf (xk,xa) (p1,p2)).2≤16):=fun q=>by
   unfold sizeI at hsize;unfold twoI;split<;>(split at hsize)<;>dsimp only at hsize⊢ <;>omega
  have C1:=fun(h:Heap) (qa:Option Addr) (qc:Nat)=>IH (oneI (xk,xa) (p1,p2)) ns h qa qc b1.1 b1.2 (by dsimp only at hps;unfold sizeI at hsize;unfold oneI;split<;>(split at hsize)<;>dsimp only at hsize⊢ <;>omega) (Nat.le_refl _)
  generalize hone:treeS kerf l f (oneI (xk,xa) (p1,p2)) ns=one at*
  obtain⟨s1,n1⟩:=one
  obtain⟨T1,hn1⟩:=T1
  dsimp only at T1 hn1
  refine yA ?_;refine y3 ?_;refine yX ?_;refine wE_skip ?_;refine kS_n ?_;refine y4 ?_;refine wO_val (a_build (by exact rfl)) ?_;refine wO_val a_new ?_
  refine yS ?_;refine y3 ?_;refine y4 ?_;refine yM ?_;refine y3 ?_;refine wE_seq ?_;refine y4 ?_
  refine yM ?_;refine y3 ?_
  refine wE_cutK (E0:=[(1, .int .i64 p1),(2, .int .i64 p2),(3, .slice pa (ns.length+1) pc),(4, .pointer (some ⟨p4,0,none⟩)),(8, .pointer (some ⟨p8,0,none⟩)),(10, .pointer (some ⟨p10,0,none⟩)),(15, .bool (decide (xk=3))),(16, .int .i64 size),(17, .pointer (some ⟨H.next,0,none⟩)),(18, .int .i64 n1)]) (P:=fun h'=>Ext H h'∧H.next<h'.next∧h'.get H.next=some (.cells (smC s1) true 1)) ?_ ?_
  ·refine WE.genT ?_
   intro hA hAe
   have hxA:Ext H hA:=by rw[hAe];exact((Ext.refl H).push _).wr (by omega) (by omega)
   have A17:hA.get H.next=some (.cells (smC sm0) true 1):=by rw[hAe];(simp(disch:=first|omega|(simp only[z1,z2];omega))only[z3,z4,z5,z6,z7,z1,z2, *];exact rfl)
   have hnA:H.next<hA.next:=by rw[hAe];exact Nat.lt_succ_self _
   have A4:=(hxA.old _ k4).trans g4
   have A10:=(hxA.old _ k10).trans g10
   have wA:=hxA.wf hw
   have sA:=hns.ext hxA
   have uA:U2 hA (.slice pa (ns.length+1) pc):=fun b o n e=>by
    obtain⟨vs,own,g⟩:=hu b o n e
    exact⟨vs,own,(hxA.old _ (WF.get_lt hw g)).trans g⟩
   clear hAe hQ b2 IH g4 g8 g10
   rcases hx with rfl|rfl
   ·have eo:oneI (3,xa) (p1,p2)=(xa,p2):=rfl
    rw[eo]at C1
    dsimp only at C1
    refine yY ?_;refine wE_draw ?_;refine qN ?_;refine qF ?_
    refine qL ?_;refine qM ?_;refine qM ?_
    refine wD_sliceLo (k:=1) (m2:=63) sA uA (by omega) (by omega) (by omega) hpc rfl rfl rfl (by exact rfl) (fun _=>rfl) (fun _=>rfl) (by exact rfl) (by apply ra_dropC rfl;apply ra_keepC rfl (rq_quiet rfl (a_mov (by exact rfl)) (by exact sv_int _ _)) rfl;apply ra_keepC rfl (rq_quiet rfl (a_load (by exact rfl) (by(simp(disch:=first|omega|(simp only[z1,z2];omega))only[z3,z4,z5,z6,z7,z1,z2, *];exact rfl)) (by exact rfl)) (by exact sv_int _ _)) rfl;apply ra_keepC rfl (rq_quiet rfl (a_faddr (by exact rfl)) (by exact sv_ptr _)) rfl;apply ra_keepC rfl (rq_quiet rfl (a_loadN (by exact rfl) (by(simp(disch:=first|omega|(simp only[z1,z2];omega))only[z3,z4,z5,z6,z7,z1,z2, *];exact rfl)) (by exact rfl) (by exact rfl)) (by exact sv_agg (by refine sl_cons (s1_slice _ _ _) ?_;refine sl_cons (s1_int _ _) ?_;exact sl_nil))) rfl;exact ra_nil) (by repeat (first|exact recsIn_nil|refine recsIn_consC rfl ?_)) (by repeat (first|exact recsIn_nil|refine recsIn_consC rfl ?_)) rfl ?_
    rintro v hB rs' hxB sB uB ⟨qa,qc,rfl,hqc⟩ hrs
    simp only[Nat.add_sub_cancel]at sB uB⊢
    have sB':SliceOf hB 2 (.slice qa ns.length qc) ns.length (ncI ns):=sB
    have B17:=(hxB.old _ hnA).trans A17
    have hnB:=hxB.next
    clear A17 sA A4 A10
    refine qC ?_
    refine FW.puD (C1 _ qa qc (.of (hxB.wf wA)) ((hks.ext (hxA.trans hxB)).log []) (sB'.log []) (fun b o n e=>uB b o n e) hqc) (recs_all hrs) ?_
    refine qM ?_;refine qE ?_;refine qE ?_
    refine wD_storeAll (cs:=smC s1) (vs:=smC sm0) rfl rfl rfl (by exact rfl) (by exact rfl) (by exact rfl) B17 (smC_len T1.len) rfl (ones_smC _) (by omega) hbase (by apply ra_keepC rfl (rq_quiet rfl (a_extract (by exact rfl) (by exact rfl)) (by exact sv_int _ _)) rfl;apply ra_dropC rfl;apply ra_dropC rfl;exact ra_nil) ?_
    refine qM ?_;refine wD_nil ?_;refine y1 ?_
    exact⟨rfl,rfl,rfl,(hxA.trans hxB).wr (Nat.le_refl _) hbase,by show H.next<hB.next;omega,Heap.get_wr_new B17⟩
   ·have eo:oneI (4,xa) (p1,p2)=(p1,xa):=rfl
    rw[eo]at C1
    dsimp only at C1
    refine yX ?_;refine wE_draw ?_;refine qN ?_;refine qM ?_;refine qF ?_
    refine qL ?_;refine qM ?_
    refine wD_sliceLo (k:=1) (m2:=63) sA uA (by omega) (by omega) (by omega) hpc rfl rfl rfl (by exact rfl) (fun _=>rfl) (fun _=>rfl) (by exact rfl) (by apply ra_dropC rfl;apply ra_keepC rfl (rq_quiet rfl (a_load (by exact rfl) (by(simp(disch:=first|omega|(simp only[z1,z2];omega))only[z3,z4,z5,z6,z7,z1,z2, *];exact rfl)) (by exact rfl)) (by exact sv_int _ _)) rfl;apply ra_keepC rfl (rq_quiet rfl (a_faddr (by exact rfl)) (by exact sv_ptr _)) rfl;apply ra_keepC rfl (rq_quiet rfl (a_mov (by exact rfl)) (by exact sv_int _ _)) rfl;apply ra_keepC rfl (rq_quiet rfl (a_loadN (by exact rfl) (by(simp(disch:=first|omega|(simp only[z1,z2];omega))only[z3,z4,z5,z6,z7,z1,z2, *];exact rfl)) (by exact rfl) (by exact rfl)) (by exact sv_agg (by refine sl_cons (s1_slice _ _ _) ?_;refine sl_cons (s1_int _ _) ?_;exact sl_nil))) rfl;exact ra_nil) (by repeat (first|exact recsIn_nil|refine recsIn_consC rfl ?_)) (by repeat (first|exact recsIn_nil|refine recsIn_consC rfl ?_)) rfl ?_
    rintro v hB rs' hxB sB uB ⟨qa,qc,rfl,hqc⟩ hrs
    simp only[Nat.add_sub_cancel]at sB uB⊢
    have sB':SliceOf hB 2 (.slice qa ns.length qc) ns.length (ncI ns):=sB
    have B17:=(hxB.old _ hnA).trans A17
    have hnB:=hxB.next
    clear A17 sA A4 A10
    refine qC ?_
    refine FW.puD (C1 _ qa qc (.of (hxB.wf wA)) ((hks.ext (hxA.trans hxB)).log []) (sB'.log []) (fun b o n e=>uB b o n e) hqc) (recs_all hrs) ?_
    refine qM ?_;refine qE ?_;refine qE ?_
    refine wD_storeAll (cs:=smC s1) (vs:=smC sm0) rfl rfl rfl (by exact rfl) (by exact rfl) (by exact rfl) B17 (smC_len T1.len) rfl (ones_smC _) (by omega) hbase (by apply ra_keepC rfl (rq_quiet rfl (a_extract (by exact rfl) (by exact rfl)) (by exact sv_int _ _)) rfl;apply ra_dropC rfl;apply ra_dropC rfl;exact ra_nil) ?_
    refine qM ?_;refine wD_nil ?_;refine y1 ?_
    exact⟨rfl,rfl,rfl,(hxA.trans hxB).wr (Nat.le_refl _) hbase,by show H.next<hB.next;omega,Heap.get_wr_new B17⟩
  ·rintro h3 ⟨hx3,hn3,g17⟩
   have w3:=hx3.wf hw
   have l3:=hx3.log.trans hlog
   have G4:=(hx3.old _ k4).trans g4
   have G8:=(hx3.old _ k8).trans g8
   have G10:=(hx3.old _ k10).trans g10
   have s3:=hns.ext hx3
   have u3:U2 h3 (.slice pa (ns.length+1) pc):=fun b o n e=>by
    obtain⟨vs,own,g⟩:=hu b o n e
    exact⟨vs,own,(hx3.old _ (WF.get_lt hw g)).trans g⟩
   have g8H:=g8
   clear C1 g4 g8 g10
   obtain⟨ok1,wo1,ce1,de1,us1⟩:=s1
   have t1w:=T1.worth
   have t1c:=T1.cells
   have t1d:=T1.depth
   have t1l:=T1.len
   have t1u:=T1.used
   clear T1
   dsimp only at t1w t1c t1d t1l t1u
   cases ok1 with
   |false=>
    have eJ:∀two,joinS kerf size xa (⟨false,wo1,ce1,de1,us1⟩,n1) two=(sm0,0):=fun two=>by unfold joinS;rw[if_neg (by simp)]
    rw[eJ]at hQ
    refine wE_seq ?_;refine y4 ?_;refine yF ?_;refine yL ?_;refine yA ?_;refine y3 ?_;refine yY ?_;refine y4 ?_;refine wO_val (a_build (by exact rfl)) ?_;refine yS ?_;refine yM ?_;refine y3 ?_;refine wE_ret ?_;refine kS_r ?_
    exact hQ _ _ (tree_end (p8:=p8) rfl ((Heap.log_wr_new hb8).trans l3) rfl rfl (by(simp(disch:=first|omega|(simp only[z1,z2];omega))only[z3,z4,z5,z6,z7,z1,z2, *];exact rfl)))
   |true=>
    by_cases hr1:size-xa-kerf<1
    ·have eJ:∀two,joinS kerf size xa (⟨true,wo1,ce1,de1,us1⟩,n1) two=(⟨true,wo1,ce1,de1+1,us1⟩,n1+1):=fun two=>by unfold joinS;rw[if_pos rfl,if_pos hr1]
     rw[eJ]at hQ
     have ed:numOp .add (.int .i64 de1) (.int .i64 1)=some (.int .i64 (de1+1)):=m_add (wrapA_i64 (by omega) (by omega))
     refine wE_seq ?_;refine y4 ?_;refine yF ?_;refine yL ?_;refine yA ?_;refine y3 ?_;refine yX ?_;refine wE_skip ?_
     refine kS_n ?_;refine y4 ?_;refine yM ?_;refine yF ?_;refine yL ?_;refine ysub ?_;refine yF ?_
     refine yL ?_;refine ysub ?_;refine yM ?_;refine y3 ?_;refine wE_seq ?_;refine y4 ?_;refine yM ?_;refine yt ?_;refine y3 ?_;refine yY ?_;refine y4 ?_;refine yF ?_
     refine yL ?_;refine wO_val (a_num (by exact rfl) (by exact rfl) (by with_reducible assumption)) ?_;refine yF ?_;refine yS ?_;refine y3 ?_;refine y4 ?_
     refine wO_val (a_loadN (l:=smC ⟨true,wo1,ce1,de1+1,us1⟩) (by exact rfl) (by(simp(disch:=first|omega|(simp only[z1,z2];omega))only[z3,z4,z5,z6,z7,z1,z2, *];exact rfl)) (smC_take t1l).1 (smC_take t1l).2) ?_
     refine yM ?_;refine yinc ?_
     refine wO_val (a_storeAll (cs:=smC ⟨true,wo1,ce1,de1+1,us1⟩) (vs:=smC sm0) (by exact rfl) (by exact rfl) (by(simp(disch:=first|omega|(simp only[z1,z2];omega))only[z3,z4,z5,z6,z7,z1,z2, *];exact rfl)) (smC_len t1l) rfl (ones_smC _)) ?_
     refine yM ?_;refine y3 ?_;refine wE_ret ?_;refine kS_r ?_
     exact hQ _ _ (tree_end (p8:=p8) t1l ((Heap.log_wr_new hb8).trans ((Heap.log_wr_new hbase).trans l3)) rfl rfl (by(simp(disch:=first|omega|(simp only[z1,z2];omega))only[z3,z4,z5,z6,z7,z1,z2, *];done)))
    ·have b2:=b2 hr1
     have T2:=tree_bd hc f (twoI kerf (xk,xa) (p1,p2)) (ns.drop n1) b2.1 b2.2
     have C2:=fun(h:Heap) (qa:Option Addr) (qc:Nat)=>IH (twoI kerf (xk,xa) (p1,p2)) (ns.drop n1) h qa qc b2.1 b2.2 (by dsimp only at hps;unfold sizeI at hsize;unfold twoI;split<;>(split at hsize)<;>dsimp only at hsize⊢ <;>omega) (by rw[List.length_drop];omega)
     have eadd:numOp .add (.int .i64 1) (.int .i64 n1)=some (.int .i64 ((1+n1:Nat):Int)):=by
      have e:wrapA .i64 (1+(n1:Int))=((1+n1:Nat):Int):=by rw[wrapA_i64 (by omega) (by omega)];omega
      simp[numOp,arith,e]
     generalize htwo:treeS kerf l f (twoI kerf (xk,xa) (p1,p2)) (ns.drop n1)=two at*
     obtain⟨s2,n2⟩:=two
     obtain⟨T2,hn2⟩:=T2
     rw[List.length_drop]at hn2
     dsimp only at T2 hn2
     refine wE_seq ?_;refine y4 ?_;refine yF ?_;refine yL ?_;refine yA ?_;refine y3 ?_;refine yX ?_;refine wE_skip ?_
     refine kS_n ?_;refine y4 ?_;refine yM ?_;refine yF ?_;refine yL ?_;refine ysub ?_;refine yF ?_
     refine yL ?_;refine ysub ?_;refine yM ?_;refine y3 ?_;refine wE_seq ?_;refine y4 ?_;refine yM ?_;refine yf ?_;refine y3 ?_;refine yX ?_;refine wE_skip ?_;refine kS_n ?_;refine y4 ?_
     refine wO_val (a_build (by exact rfl)) ?_;refine wO_val a_new ?_;refine yS ?_;refine y3 ?_;refine y4 ?_;refine yM ?_;refine y3 ?_;refine wE_seq ?_;refine y4 ?_
     refine yM ?_;refine y3 ?_
     refine wE_cutK (E0:=[(8, .pointer (some ⟨p8,0,none⟩)),(17, .pointer (some ⟨H.next,0,none⟩)),(18, .int .i64 n1),(20, .pointer (some ⟨h3.next,0,none⟩)),(21, .int .i64 n2)]) (P:=fun h'=>Ext H h'∧h3.next<h'.next∧h'.get H.next=some (.cells (smC ⟨true,wo1,ce1,de1,us1⟩) true 1)∧h'.get h3.next=some (.cells (smC s2) true 1)) ?_ ?_
     ·refine WE.genT ?_
      intro hA hAe
      have hxA:Ext h3 hA:=by rw[hAe];exact((Ext.refl h3).push _).wr (by omega) (by omega)
      have A20:hA.get h3.next=some (.cells (smC sm0) true 1):=by rw[hAe];(simp(disch:=first|omega|(simp only[z1,z2];omega))only[z3,z4,z5,z6,z7,z1,z2, *];exact rfl)
      have hnA:h3.next<hA.next:=by rw[hAe];exact Nat.lt_succ_self _
      have A4:=(hxA.old _ (by omega)).trans G4
      have A17:=(hxA.old _ hn3).trans g17
      have wA:=hxA.wf w3
      have sA:=s3.ext hxA
      have uA:U2 hA (.slice pa (ns.length+1) pc):=fun b o n e=>by
       obtain⟨vs,own,g⟩:=u3 b o n e
       exact⟨vs,own,(hxA.old _ (WF.get_lt w3 g)).trans g⟩
      clear hAe hQ IH g17 G4 G8 G10
      rcases hx with rfl|rfl
      ·have eo:twoI kerf (3,xa) (p1,p2)=(p1-xa-kerf,p2):=rfl
       obtain rfl:p1=size:=hsize
       rw[eo]at C2
       dsimp only at C2
       refine yY ?_;refine wE_draw ?_;refine qN ?_;refine qM ?_;refine qM ?_
       refine qM ?_;refine qM ?_;refine wD_quiet rfl rfl rfl (by exact rfl) (by exact rfl) (by exact rfl) (a_num (by exact rfl) (by exact rfl) (by with_reducible assumption)) ?_
       refine wD_sliceLo (k:=1+n1) (m2:=127) sA uA (by omega) (by omega) (by omega) hpc rfl rfl rfl (by exact rfl) (fun _=>rfl) (fun _=>rfl) (by exact rfl) (by apply ra_dropC rfl;apply ra_dropC rfl;apply ra_dropC rfl;apply ra_keepC rfl (rq_quiet rfl (a_mov (by exact rfl)) (by exact sv_int _ _)) rfl;apply ra_keepC rfl (rq_quiet rfl (a_mov (by exact rfl)) (by exact sv_int _ _)) rfl;apply ra_keepC rfl (rq_quiet rfl (a_loadN (by exact rfl) (by(simp(disch:=first|omega|(simp only[z1,z2];omega))only[z3,z4,z5,z6,z7,z1,z2, *];exact rfl)) (by exact rfl) (by exact rfl)) (by exact sv_agg (by refine sl_cons (s1_slice _ _ _) ?_;refine sl_cons (s1_int _ _) ?_;exact sl_nil))) rfl;exact ra_nil) (by repeat (first|exact recsIn_nil|refine recsIn_consC rfl ?_)) (by repeat (first|exact recsIn_nil|refine recsIn_consC rfl ?_)) rfl ?_
       rintro v hB rs' hxB sB uB ⟨qa,qc,rfl,hqc⟩ hrs
       have hle:ns.length+1-(1+n1)=(ns.drop n1).length:=by rw[List.length_drop];omega
       rw[hle]at sB uB⊢
       have sB':SliceOf hB 2 (.slice qa (ns.drop n1).length qc) (ns.drop n1).length (ncI (ns.drop n1)):=by
        rw[show(1+n1)*2=(n1+1)*2 by omega,ncI_drop]at sB
        exact sB
       have B20:=(hxB.old _ hnA).trans A20
       have B17:=(hxB.old _ (by omega)).trans A17
       have hnB:=hxB.next
       clear A17 A20 sA A4
       refine qC ?_
       refine FW.puD (C2 _ qa qc (.of (hxB.wf wA)) ((hks.ext (hx3.trans (hxA.trans hxB))).log []) (sB'.log []) (fun b o n e=>uB b o n e) hqc) (recs_all hrs) ?_
       refine qM ?_;refine qE ?_;refine qE ?_
       refine wD_storeAll (cs:=smC s2) (vs:=smC sm0) rfl rfl rfl (by exact rfl) (by exact rfl) (by exact rfl) B20 (smC_len T2.len) rfl (ones_smC _) (by omega) (by omega) (by apply ra_keepC rfl (rq_quiet rfl (a_extract (by exact rfl) (by exact rfl)) (by exact sv_int _ _)) rfl;apply ra_dropC rfl;apply ra_dropC rfl;exact ra_nil) ?_
       refine qM ?_;refine wD_nil ?_;refine y1 ?_
       exact⟨rfl,rfl,rfl,(hx3.trans (hxA.trans hxB)).wr (by omega) (by omega),by show h3.next<hB.next;omega,(z5 (by omega)).trans B17,Heap.get_wr_new B20⟩
      ·have eo:twoI kerf (4,xa) (p1,p2)=(p1,p2-xa-kerf):=rfl
       obtain rfl:p2=size:=hsize
       rw[eo]at C2
       dsimp only at C2
       refine yX ?_;refine wE_draw ?_;refine qN ?_;refine qM ?_;refine qM ?_
       refine qM ?_;refine qM ?_;refine wD_quiet rfl rfl rfl (by exact rfl) (by exact rfl) (by exact rfl) (a_num (by exact rfl) (by exact rfl) (by with_reducible assumption)) ?_
       refine wD_sliceLo (k:=1+n1) (m2:=127) sA uA (by omega) (by omega) (by omega) hpc rfl rfl rfl (by exact rfl) (fun _=>rfl) (fun _=>rfl) (by exact rfl) (by apply ra_dropC rfl;apply ra_dropC rfl;apply ra_dropC rfl;apply ra_keepC rfl (rq_quiet rfl (a_mov (by exact rfl)) (by exact sv_int _ _)) rfl;apply ra_keepC rfl (rq_quiet rfl (a_mov (by exact rfl)) (by exact sv_int _ _)) rfl;apply ra_keepC rfl (rq_quiet rfl (a_loadN (by exact rfl) (by(simp(disch:=first|omega|(simp only[z1,z2];omega))only[z3,z4,z5,z6,z7,z1,z2, *];exact rfl)) (by exact rfl) (by exact rfl)) (by exact sv_agg (by refine sl_cons (s1_slice _ _ _) ?_;refine sl_cons (s1_int _ _) ?_;exact sl_nil))) rfl;exact ra_nil) (by repeat (first|exact recsIn_nil|refine recsIn_consC rfl ?_)) (by repeat (first|exact recsIn_nil|refine recsIn_consC rfl ?_)) rfl ?_
       rintro v hB rs' hxB sB uB ⟨qa,qc,rfl,hqc⟩ hrs
       have hle:ns.length+1-(1+n1)=(ns.drop n1).length:=by rw[List.length_drop];omega
       rw[hle]at sB uB⊢
       have sB':SliceOf hB 2 (.slice qa (ns.drop n1).length qc) (ns.drop n1).length (ncI (ns.drop n1)):=by
        rw[show(1+n1)*2=(n1+1)*2 by omega,ncI_drop]at sB
        exact sB
       have B20:=(hxB.old _ hnA).trans A20
       have B17:=(hxB.old _ (by omega)).trans A17
       have hnB:=hxB.next
       clear A17 A20 sA A4
       refine qC ?_
       refine FW.puD (C2 _ qa qc (.of (hxB.wf wA)) ((hks.ext (hx3.trans (hxA.trans hxB))).log []) (sB'.log []) (fun b o n e=>uB b o n e) hqc) (recs_all hrs) ?_
       refine qM ?_;refine qE ?_;refine qE ?_
       refine wD_storeAll (cs:=smC s2) (vs:=smC sm0) rfl rfl rfl (by exact rfl) (by exact rfl) (by exact rfl) B20 (smC_len T2.len) rfl (ones_smC _) (by omega) (by omega) (by apply ra_keepC rfl (rq_quiet rfl (a_extract (by exact rfl) (by exact rfl)) (by exact sv_int _ _)) rfl;apply ra_dropC rfl;apply ra_dropC rfl;exact ra_nil) ?_
       refine qM ?_;refine wD_nil ?_;refine y1 ?_
       exact⟨rfl,rfl,rfl,(hx3.trans (hxA.trans hxB)).wr (by omega) (by omega),by show h3.next<hB.next;omega,(z5 (by omega)).trans B17,Heap.get_wr_new B20⟩
     ·rintro h4 ⟨hx4,hn4,g17',g20⟩
      have l4:=hx4.log.trans hlog
      have G8':=(hx4.old _ k8).trans g8H
      clear g8H
      clear C2 G4 G8 G10 g17 IH
      obtain⟨ok2,wo2,ce2,de2,us2⟩:=s2
      have t2w:=T2.worth
      have t2c:=T2.cells
      have t2d:=T2.depth
      have t2l:=T2.len
      have t2u:=T2.used
      clear T2
      dsimp only at t2w t2c t2d t2l t2u
      cases ok2 with
      |false=>
       have eJ:joinS kerf size xa (⟨true,wo1,ce1,de1,us1⟩,n1) (⟨false,wo2,ce2,de2,us2⟩,n2)=(sm0,0):=by unfold joinS;rw[if_pos rfl,if_neg hr1,if_neg (by simp)]
       rw[eJ]at hQ
       refine wE_seq ?_;refine y4 ?_;refine yF ?_;refine yL ?_;refine yA ?_;refine y3 ?_;refine yY ?_;refine y4 ?_;refine wO_val (a_build (by exact rfl)) ?_;refine yS ?_;refine yM ?_;refine y3 ?_;refine wE_ret ?_;refine kS_r ?_
       exact hQ _ _ (tree_end (p8:=p8) rfl ((Heap.log_wr_new hb8).trans l4) rfl rfl (by(simp(disch:=first|omega|(simp only[z1,z2];omega))only[z3,z4,z5,z6,z7,z1,z2, *];exact rfl)))
      |true=>
       have eJ:joinS kerf size xa (⟨true,wo1,ce1,de1,us1⟩,n1) (⟨true,wo2,ce2,de2,us2⟩,n2)=(⟨true,wo1+wo2,ce1+ce2,1+mx de1 de2,List.zipWith (· + ·) us1 us2⟩,1+n1+n2):=by unfold joinS;rw[if_pos rfl,if_neg hr1,if_pos rfl]
       rw[eJ]at hQ
       have hmx:0≤mx de1 de2∧mx de1 de2≤100000:=by unfold mx;split<;>omega
       have eadd2:numOp .add (.int .i64 ((1+n1:Nat):Int)) (.int .i64 n2)=some (.int .i64 ((1+n1+n2:Nat):Int)):=by
        have e:wrapA .i64 (((1+n1:Nat):Int)+n2)=((1+n1+n2:Nat):Int):=by rw[wrapA_i64 (by omega) (by omega)];omega
        have e2:numOp .add (.int .i64 ((1+n1:Nat):Int)) (.int .i64 n2)=some (.int .i64 (wrapA .i64 (((1+n1:Nat):Int)+n2))):=rfl
        rw[e2,e]
       have ew:numOp .add (.int .i64 wo1) (.int .i64 wo2)=some (.int .i64 (wo1+wo2)):=m_add (wrapA_i64 (by omega) (by omega))
       have ec:numOp .add (.int .i64 ce1) (.int .i64 ce2)=some (.int .i64 (ce1+ce2)):=m_add (wrapA_i64 (by omega) (by omega))
       have ed:numOp .add (.int .i64 1) (.int .i64 (mx de1 de2))=some (.int .i64 (1+mx de1 de2)):=m_add (wrapA_i64 (by omega) (by omega))
       refine wE_seq ?_;refine y4 ?_;refine yF ?_;refine yL ?_;refine yA ?_;refine y3 ?_;refine yX ?_;refine wE_skip ?_
       refine kS_n ?_;refine y4 ?_;refine yF ?_;refine yL ?_;refine yF ?_;refine yL ?_;refine wO_val (a_num (by exact rfl) (by exact rfl) (by with_reducible assumption)) ?_
       refine yF ?_;refine yL ?_;refine yF ?_;refine yL ?_;refine wO_val (a_num (by exact rfl) (by exact rfl) (by with_reducible assumption)) ?_;refine yF ?_
       refine yL ?_;refine yF ?_;refine yL ?_;refine wO_val (a_max (by exact rfl) (by exact rfl)) ?_;refine wO_val (a_num (by exact rfl) (by exact rfl) (by with_reducible assumption)) ?_;refine wO_val (a_build (by exact rfl)) ?_;refine wO_val a_new ?_
       refine yS ?_;refine y3 ?_;refine wE_seq ?_;refine y4 ?_;refine yM ?_;refine y3 ?_;refine wE_block ?_
       refine wE_loop (fun m e ds h'=>∃i:Nat,i≤12∧m=12-i∧e=[(8, .pointer (some ⟨p8,0,none⟩)),(17, .pointer (some ⟨H.next,0,none⟩)),(18, .int .i64 n1),(20, .pointer (some ⟨h3.next,0,none⟩)),(21, .int .i64 n2),(22, .pointer (some ⟨h4.next,0,none⟩)),(23, .int .i64 i)]∧ds=[]∧Ext h4 h'∧h4.next<h'.next∧h'.get h4.next=some (.cells (smC ⟨true,wo1+wo2,ce1+ce2,1+mx de1 de2,zipN us1 us2 i⟩) true 1))
        ⟨0,Nat.zero_le _,rfl,rfl,rfl,((Ext.refl h4).push _).wr (base:=base) (x:=h4.next) (Nat.le_refl _) (by omega),Nat.lt_succ_self _,by(simp(disch:=first|omega|(simp only[z1,z2];omega))only[z3,z4,z5,z6,z7,z1,z2, *];exact rfl)⟩ ?_
       rintro m e ds h5 ⟨i,hi,rfl,rfl,rfl,hx5,hn5,g22⟩
       have D17:=(hx5.old _ (by omega)).trans g17'
       have D20:=(hx5.old _ hn4).trans g20
       by_cases hil:i<12
       ·have eu1:=used_smC (s:=⟨true,wo1,ce1,de1,us1⟩) (i:=i) (by dsimp only;omega)
        have eu2:=used_smC (s:=⟨true,wo2,ce2,de2,us2⟩) (i:=i) (by dsimp only;omega)
        have hz:=zipN_set t1l t2l hil
        have hv1:0≤us1.getD i 0∧us1.getD i 0≤100000:=by
         rw[List.getD_eq_getElem?_getD,List.getElem?_eq_getElem (show i<us1.length by omega)]
         have:=t1u _ (List.getElem_mem (show i<us1.length by omega))
         show 0≤us1[i]∧us1[i]≤100000
         omega
        have hv2:0≤us2.getD i 0∧us2.getD i 0≤100000:=by
         rw[List.getD_eq_getElem?_getD,List.getElem?_eq_getElem (show i<us2.length by omega)]
         have:=t2u _ (List.getElem_mem (show i<us2.length by omega))
         show 0≤us2[i]∧us2[i]≤100000
         omega
        dsimp only at eu1 eu2
        generalize us1.getD i 0=v1 at*
        generalize us2.getD i 0=v2 at*
        refine wE_seq ?_;refine y4 ?_;refine yM ?_;refine yt ?_;refine y3 ?_;refine yY ?_;refine wE_skip ?_;refine kS_n ?_
        refine wE_seq ?_;refine wE_block ?_;refine wE_draw ?_;refine qM ?_;refine qM ?_;refine qF ?_
        refine wD_quiet rfl rfl rfl (by exact rfl) (by exact rfl) (by exact rfl) (a_iaddrA (by exact rfl) (by exact rfl) (by omega)) ?_;refine wD_quiet rfl rfl rfl (by exact rfl) (by exact rfl) (by exact rfl) (a_load (by exact rfl) (by assumption) (by assumption)) ?_;refine qM ?_
        refine qF ?_;refine wD_quiet rfl rfl rfl (by exact rfl) (by exact rfl) (by exact rfl) (a_iaddrA (by exact rfl) (by exact rfl) (by omega)) ?_;refine wD_quiet rfl rfl rfl (by exact rfl) (by exact rfl) (by exact rfl) (a_load (by exact rfl) (by assumption) (by assumption)) ?_
        refine wD_quiet rfl rfl rfl (by exact rfl) (by exact rfl) (by exact rfl) (a_num (by exact rfl) (by exact rfl) (by exact m_add (wrapA_i64 (by omega) (by omega)))) ?_;refine qF ?_;refine wD_quiet rfl rfl rfl (by exact rfl) (by exact rfl) (by exact rfl) (a_iaddrA (by exact rfl) (by exact rfl) (by omega)) ?_
        refine wD_store1 (b:=h4.next) (o:=0+4+i*1) (vs:=smC ⟨true,wo1+wo2,ce1+ce2,1+mx de1 de2,zipN us1 us2 i⟩) rfl rfl rfl (by exact rfl) (by exact rfl) (by exact rfl) g22 (by exact rfl) (by exact rfl) (by rw[smC_len (zipN_len t1l t2l hi)];omega) hn5 (by omega) (by apply ra_dropC rfl;apply ra_dropC rfl;apply ra_dropC rfl;apply ra_dropC rfl;apply ra_dropC rfl;apply ra_dropC rfl;apply ra_dropC rfl;apply ra_dropC rfl;apply ra_dropC rfl;apply ra_dropC rfl;apply ra_dropC rfl;apply ra_dropC rfl;exact ra_nil) ?_
        rw[set_smC,hz]
        refine wD_nil ?_;refine y1 ?_;refine kB_n ?_;refine kS_n ?_;refine wE_region ?_;refine yM ?_;refine yinc ?_;refine yM ?_;refine y3 ?_
        exact⟨12-(i+1),by omega,i+1,by omega,rfl,rfl,rfl,hx5.wr (Nat.le_refl _) (by omega),hn5,Heap.get_wr_new g22⟩
       ·obtain rfl:i=12:=by omega
        rw[zipN_all t1l t2l]at g22
        have hzl:(List.zipWith (· + ·) us1 us2).length=12:=by simp[t1l,t2l]
        have D8:=(hx5.old _ (by omega)).trans G8'
        generalize List.zipWith (· + ·) us1 us2=us3 at*
        refine wE_seq ?_;refine y4 ?_;refine yM ?_;refine yf ?_;refine y3 ?_;refine yX ?_;refine wE_exit ?_;refine kS_e ?_
        refine kS_e ?_;refine kB_e ?_;refine kS_n ?_;refine y4 ?_
        refine wO_val (a_loadN (l:=smC ⟨true,wo1+wo2,ce1+ce2,1+mx de1 de2,us3⟩) (by exact rfl) (by assumption) (smC_take hzl).1 (smC_take hzl).2) ?_
        refine yM ?_;refine wO_val (a_num (by exact rfl) (by exact rfl) (by with_reducible assumption)) ?_;refine yM ?_;refine wO_val (a_num (by exact rfl) (by exact rfl) (by with_reducible assumption)) ?_
        refine wO_val (a_storeAll (cs:=smC ⟨true,wo1+wo2,ce1+ce2,1+mx de1 de2,us3⟩) (vs:=smC sm0) (by exact rfl) (by exact rfl) (by assumption) (smC_len hzl) rfl (ones_smC _)) ?_
        refine yM ?_;refine y3 ?_;refine wE_ret ?_
        exact hQ _ _ (tree_end (p8:=p8) hzl ((Heap.log_wr_new hb8).trans (hx5.log.trans l4)) rfl rfl (by(simp(disch:=first|omega|(simp only[z1,z2];omega))only[z3,z4,z5,z6,z7,z1,z2, *];done)))
 ·rw[if_neg hin]at hQ
  refine FW.pu (in80F F.p F.f80 (.of hw) hin) ?_
  refine yA ?_;refine y3 ?_;refine yY ?_;refine y4 ?_;refine wO_val (a_build (by exact rfl)) ?_;refine yS ?_
  refine yM ?_;refine y3 ?_;refine wE_ret ?_;refine kS_r ?_
  exact hQ _ _ (tree_end (p8:=p8) rfl ((Heap.log_wr_new hb8).trans hlog) rfl rfl (by(simp(disch:=first|omega|(simp only[z1,z2];omega))only[z3,z4,z5,z6,z7,z1,z2, *];exact rfl)))
end Go.A.Pk
end
section
set_option maxRecDepth 100000
namespace Go.A.Pk
variable {T:Nat→Option AFunc}
theorem first_node{h:Heap}{b o n:Nat}{x:Nat×Int}{ns:List (Nat×Int)}(s:SliceAt h b o n 2 (ncI (x::ns))):∃vs own t,h.get b=some (.cells vs own t)∧ltake 2 (ldrop (o+0*2) vs)=[.int .u8 x.1, .int .i64 x.2]:=by
 obtain⟨vs,own,t,g1,g2⟩:=s.obj
 refine⟨vs,own,t,g1,?_⟩
 have hl:=s.len
 rw[ncI_len]at hl
 have h1:(ltake (n*2) (ldrop o vs)).take 2=[.int .u8 x.1, .int .i64 x.2]:=by rw[g2];rfl
 rw[ltake_eq,ldrop_eq,List.take_take,Nat.min_eq_left (by simp at hl;omega)]at h1
 rw[ltake_eq,ldrop_eq,Nat.zero_mul,Nat.add_zero]
 exact h1
set_option maxHeartbeats 32000000 in
theorem tree137(F:FnsTr T){a:Option Addr}{c:Nat}{l:List Kd}{kerf:Int}(hc:chk kerf l=0):∀(f:Nat) (p:Int×Int) (ns:List (Nat×Int)) (h:Heap) (qa:Option Addr) (qc:Nat),1≤p.1∧p.1≤16→1≤p.2∧p.2≤16→p.1+p.2≤f→ns.length≤1000→Rdy h→
 SliceOf h 5 (.slice a l.length c) l.length (kcs l)→SliceOf h 2 (.slice qa ns.length qc) ns.length (ncI ns)→U2 h (.slice qa ns.length qc)→(qc<1000000∨qc=UNK)→
 Pu T 137 [.agg #[.slice a l.length c, .int .i64 kerf], .int .i64 p.1, .int .i64 p.2, .slice qa ns.length qc] h (treeV (treeS kerf l f p ns)):=by
 intro f
 induction f with
 |zero=>intro p ns h qa qc h1 h2 hf;omega
 |succ f ih=>
  intro p ns h qa qc h1 h2 hf hlen hr hs hns hu hqc
  refine .of F.p F.f137 hr (noRef_smC _ _) ?_
  have hx:Ext h ((h.push (.cells [.slice a l.length c, .int .i64 kerf] true 1)).push (.cells (smC sm0) true 1)):=((Ext.refl h).push _).push _
  cases ns with
  |nil=>
   refine y4 ?_;refine yB ?_;refine wO_val a_new ?_;refine yM ?_;refine y3 ?_;refine wE_seq ?_;refine y4 ?_;refine yM ?_
   refine yD ?_;refine wO_val (a_num (by exact rfl) (by exact rfl) (by exact m_eql)) ?_;refine y3 ?_;refine yY ?_;refine y4 ?_;refine wO_val (a_build (by exact rfl)) ?_
   refine yS ?_
   refine yM ?_;refine y3 ?_;refine wE_ret ?_;refine kS_r ?_
   exact tree_end (s:=sm0) (m:=0) (p8:=h.next+1) rfl ((Heap.log_wr_new (by(simp only[z1,z2];omega))).trans (hx.log.trans hr.log)) rfl rfl (by(simp(disch:=first|omega|(simp only[z1,z2];omega)|(simp only[z1,z2];done)|fail)only[z8,z4,z5,z9,z7,z1,z2, *];exact rfl))
  |cons x ns=>
   simp only[List.length_cons]at hns hu hlen⊢
   rcases hns.inv with⟨_,_,h0,_⟩|⟨b,o,cap,hv,s,hcap⟩
   ·omega
   cases hv
   obtain⟨vs,own,t,g1,g2⟩:=first_node s
   have kb:=s.lt
   have hl0:((ns.length+1:Nat):Int)≠0:=by omega
   refine y4 ?_;refine yB ?_;refine wO_val a_new ?_;refine yM ?_;refine y3 ?_;refine wE_seq ?_;refine y4 ?_;refine yM ?_
   refine yD ?_;refine yf ?_;refine y3 ?_;refine yX ?_;refine wE_skip ?_;refine kS_n ?_;refine y4 ?_
   refine yM ?_
   refine wO_val (a_iaddrS (i:=0) (by exact rfl) (by exact rfl) (by omega)) ?_
   refine wO_val (a_loadN (by exact rfl) (by(simp(disch:=first|omega|(simp only[z1,z2];omega))only[z3,z4,z5,z6,z7,z1,z2, *];exact rfl)) g2 (by exact rfl)) ?_
   refine wO_val a_new ?_
   refine wO_val (a_store (ws:=[.int .u8 x.1, .int .i64 x.2]) (by exact rfl) (by exact rfl) (by(simp(disch:=first|omega|(simp only[z1,z2];omega)|(simp only[z1,z2];done)|fail)only[z8,z4,z5,z9,z7,z1,z2, *];exact rfl)) (by exact rfl) (by exact rfl)) ?_
   refine y3 ?_
   refine WE.genT ?_
   intro hA hAe
   have hxA:Ext h hA:=by rw[hAe];exact(hx.push _).wr (by(simp only[z1,z2];omega)) (by(simp only[z1,z2];omega))
   have A4:hA.get h.next=some (.cells [.slice a l.length c, .int .i64 kerf] true 1):=by rw[hAe];(simp(disch:=first|omega|(simp only[z1,z2];omega))only[z3,z4,z5,z6,z7,z1,z2, *];exact rfl)
   have A8:hA.get (h.next+1)=some (.cells (smC sm0) true 1):=by rw[hAe];(simp(disch:=first|omega|(simp only[z1,z2];omega)|(simp only[z1,z2];done)|fail)only[z8,z4,z5,z9,z7,z1,z2, *];exact rfl)
   have A10:hA.get (h.next+2)=some (.cells [.int .u8 x.1, .int .i64 x.2] true 1):=by rw[hAe];(simp(disch:=first|omega|(simp only[z1,z2];omega)|(simp only[z1,z2];done)|fail)only[z8,z4,z5,z9,z7,z1,z2, *];done)
   have wA:=hxA.wf hr.wf
   have lA:=hxA.log.trans hr.log
   have nA:=hxA.next
   clear hAe g1 g2 hx
   by_cases k0:x.1=0
   ·have eT:treeS kerf l (f+1) p (x::ns)=({sm0 with ok:=decide (x.2=0)},1):=by rw[treeS,if_neg (by omega),nodeS,if_pos k0]
    rw[eT]
    by_cases kz:x.2=0
    ·rw[decide_eq_true kz]
     refine wE_seq ?_;refine y4 ?_;refine yF ?_;refine yL ?_;refine y3 ?_;refine wE_block ?_;refine y4 ?_
     refine yt ?_;refine yM ?_;refine y3 ?_;refine yY ?_;refine y4 ?_;refine yF ?_
     refine yL ?_;refine yt ?_;refine wO_val (a_build (by exact rfl)) ?_;refine yS ?_;refine yM ?_;refine y3 ?_;refine wE_ret ?_;refine kB_r ?_;refine kS_r ?_
     exact tree_end (s:={sm0 with ok:=true}) (m:=1) (p8:=h.next+1) rfl ((Heap.log_wr_new (by(simp only[z1,z2];omega))).trans lA) rfl rfl (by(simp(disch:=first|omega|(simp only[z1,z2];omega))only[z3,z4,z5,z6,z7,z1,z2, *];exact rfl))
    ·rw[decide_eq_false kz]
     refine wE_seq ?_;refine y4 ?_;refine yF ?_;refine yL ?_;refine y3 ?_;refine wE_block ?_;refine y4 ?_
     refine yt ?_;refine yM ?_;refine y3 ?_;refine yY ?_;refine y4 ?_;refine yF ?_
     refine yL ?_;refine yf ?_;refine wO_val (a_build (by exact rfl)) ?_;refine yS ?_;refine yM ?_;refine y3 ?_;refine wE_ret ?_;refine kB_r ?_;refine kS_r ?_
     exact tree_end (s:={sm0 with ok:=false}) (m:=1) (p8:=h.next+1) rfl ((Heap.log_wr_new (by(simp only[z1,z2];omega))).trans lA) rfl rfl (by(simp(disch:=first|omega|(simp only[z1,z2];omega))only[z3,z4,z5,z6,z7,z1,z2, *];exact rfl))
   ·by_cases k12:x.1=1∨x.1=2
    ·have eT:treeS kerf l (f+1) p (x::ns)=plankS l x p:=by rw[treeS,if_neg (by omega),nodeS,if_neg k0,if_pos k12]
     rw[eT]
     have TAIL:=fun(Q:XQ) (hQ:∀e H',endP treeRs (treeV (plankS l x p)) .ret e [] H'→Q .ret e [] H')=>tree_plank F (base:=h.next) (p4:=h.next) (p8:=h.next+1) (p10:=h.next+2) (v3:= .slice (some ⟨b,o,none⟩) (ns.length+1) qc) (v32:= .int .u8 x.1) wA lA (by omega) (by omega) (hs.ext hxA) hc A4 A8 A10 k12 h1 h2 (Q:=Q) hQ
     unfold tA12 tB0 at TAIL
     simp only[cR,cL,cnA,cnB,blkB,codeOf,f137]at TAIL
     by_cases k1:x.1=1
     ·refine wE_seq ?_;refine y4 ?_;refine yF ?_;refine yL ?_;refine y3 ?_;refine wE_block ?_;refine y4 ?_
      refine yf ?_;refine yM ?_;refine y3 ?_;refine yX ?_;refine wE_seq ?_;refine y4 ?_
      refine yt ?_;refine yM ?_;refine y3 ?_;refine yY ?_;refine wE_skip ?_;refine kS_n ?_;refine yY ?_;refine TAIL _ ?_
      exact fun e' H' q=>kB_r (kS_r q)
     ·have k2:x.1=2:=by omega
      refine wE_seq ?_;refine y4 ?_;refine yF ?_;refine yL ?_;refine y3 ?_;refine wE_block ?_;refine y4 ?_
      refine yf ?_;refine yM ?_;refine y3 ?_;refine yX ?_;refine wE_seq ?_;refine y4 ?_
      refine yf ?_;refine yM ?_;refine y3 ?_;refine yX ?_;refine wE_region ?_;refine yt ?_
      refine yM ?_;refine y3 ?_;refine yY ?_;refine TAIL _ ?_
      exact fun e' H' q=>kB_r (kS_r q)
    ·by_cases k34:x.1=3∨x.1=4
     ·have eT:treeS kerf l (f+1) p (x::ns)=if 1≤x.2∧x.2≤sizeI x p-1 then joinS kerf (sizeI x p) x.2 (treeS kerf l f (oneI x p) ns) (treeS kerf l f (twoI kerf x p) (ns.drop (treeS kerf l f (oneI x p) ns).2))else(sm0,0):=by rw[treeS,if_pos k34]
      rw[eT]
      have uA:U2 hA (.slice (some ⟨b,o,none⟩) (ns.length+1) qc):=fun b' o' n' e'=>by
       obtain⟨vs,own,g⟩:=hu b' o' n' e'
       exact⟨vs,own,(hxA.old _ (WF.get_lt hr.wf g)).trans g⟩
      have TAIL:=fun(rest:Env) (Q:XQ) (hQ:∀e H',endP treeRs (treeV (if 1≤x.2∧x.2≤sizeI x p-1 then joinS kerf (sizeI x p) x.2 (treeS kerf l f (oneI x p) ns) (treeS kerf l f (twoI kerf x p) (ns.drop (treeS kerf l f (oneI x p) ns).2))else(sm0,0))) .ret e [] H'→Q .ret e [] H')=>tree_cut F (base:=h.next) (p4:=h.next) (p8:=h.next+1) (p10:=h.next+2) (rest:=rest) (psum:=p.1+p.2) wA lA (by omega) (by omega) (hs.ext hxA) hc A4 A8 A10 k34 h1 h2 (hns.ext hxA) uA hqc hlen rfl
       (fun p' ms h' qa' qc' y1 y2 y3 y4 hr' hs' z1 z2 z3=>ih p' ms h' qa' qc' y1 y2 (by omega) (by omega) hr' hs' z1 z2 z3) (Q:=Q) hQ
      unfold tA34 tB0 at TAIL
      simp only[cR,cL,cnA,cnB,blkB,codeOf,f137]at TAIL
      generalize(if 1≤x.2∧x.2≤sizeI x p-1 then joinS kerf (sizeI x p) x.2 (treeS kerf l f (oneI x p) ns) (treeS kerf l f (twoI kerf x p) (ns.drop (treeS kerf l f (oneI x p) ns).2))else(sm0,0))=res at*
      by_cases k3:x.1=3
      ·replace TAIL:=TAIL [(32, .int .u8 x.1),(106, .bool true)]
       refine wE_seq ?_;refine y4 ?_;refine yF ?_;refine yL ?_;refine y3 ?_;refine wE_block ?_;refine y4 ?_
       refine yf ?_;refine yM ?_;refine y3 ?_;refine yX ?_;refine wE_seq ?_;refine y4 ?_
       refine yf ?_;refine yM ?_;refine y3 ?_;refine yX ?_;refine wE_region ?_;refine yf ?_
       refine yM ?_;refine y3 ?_;refine yX ?_;refine wE_seq ?_;refine y4 ?_;refine yt ?_;refine yM ?_
       refine y3 ?_;refine yY ?_;refine wE_skip ?_;refine kS_n ?_;refine yY ?_;refine TAIL _ ?_
       exact fun e' H' q=>kB_r (kS_r q)
      ·have k4:x.1=4:=by omega
       replace TAIL:=TAIL [(106, .bool true)]
       refine wE_seq ?_;refine y4 ?_;refine yF ?_;refine yL ?_;refine y3 ?_;refine wE_block ?_;refine y4 ?_
       refine yf ?_;refine yM ?_;refine y3 ?_;refine yX ?_;refine wE_seq ?_;refine y4 ?_
       refine yf ?_;refine yM ?_;refine y3 ?_;refine yX ?_;refine wE_region ?_;refine yf ?_
       refine yM ?_;refine y3 ?_;refine yX ?_;refine wE_seq ?_;refine y4 ?_;refine yf ?_;refine yM ?_
       refine y3 ?_;refine yX ?_;refine wE_region ?_;refine yt ?_;refine yM ?_;refine y3 ?_;refine yY ?_;refine TAIL _ ?_
       exact fun e' H' q=>kB_r (kS_r q)
     ·have eT:treeS kerf l (f+1) p (x::ns)=(sm0,0):=by rw[treeS,if_neg k34,nodeS,if_neg k0,if_neg k12]
      rw[eT]
      refine wE_seq ?_;refine y4 ?_;refine yF ?_;refine yL ?_;refine y3 ?_;refine wE_block ?_;refine y4 ?_
      refine yf ?_;refine yM ?_;refine y3 ?_;refine yX ?_;refine wE_seq ?_;refine y4 ?_
      refine yf ?_;refine yM ?_;refine y3 ?_;refine yX ?_;refine wE_region ?_;refine yf ?_
      refine yM ?_;refine y3 ?_;refine yX ?_;refine wE_seq ?_;refine y4 ?_;refine yf ?_;refine yM ?_
      refine y3 ?_;refine yX ?_;refine wE_region ?_;refine yf ?_;refine yM ?_;refine y3 ?_;refine yX ?_;refine wE_skip ?_;refine kB_n ?_;refine kS_n ?_;refine y4 ?_;refine wO_val (a_build (by exact rfl)) ?_;refine yS ?_
      refine yM ?_;refine y3 ?_;refine wE_ret ?_
      exact tree_end (s:=sm0) (m:=0) (p8:=h.next+1) rfl ((Heap.log_wr_new (by(simp only[z1,z2];omega))).trans lA) rfl rfl (by(simp(disch:=first|omega|(simp only[z1,z2];omega))only[z3,z4,z5,z6,z7,z1,z2, *];exact rfl))
end Go.A.Pk
end
section
set_option maxRecDepth 100000
namespace Go.A.Pk
variable {T:Nat→Option AFunc}
structure FnsCk (T:Nat→Option AFunc):Prop extends FnsTr T,FnsD T where
 f95:T 95=some f95
 f38:T 38=some f38
def planS(kerf:Int)(l:List Kd)(p:Int×Int)(ns:List (Nat×Int)):Sm:=if(treeS kerf l 32 p ns).1.ok=true∧(treeS kerf l 32 p ns).2=ns.length then(treeS kerf l 32 p ns).1 else sm0
theorem planS_len{kerf:Int}{l:List Kd}(hc:chk kerf l=0){p:Int×Int}(h1:1≤p.1∧p.1≤16)(h2:1≤p.2∧p.2≤16)(ns:List (Nat×Int)):(planS kerf l p ns).used.length=12:=by
 unfold planS
 split
 ·exact(tree_bd hc 32 p ns h1 h2).1.len
 ·rfl
theorem noRef_sm(s:Sm):noRef (.agg (smC s).toArray)=true:=by
 have:∀xs:List Int,scalL (ints xs)=true:=fun xs=>by
  induction xs with
  |nil=>rfl
  |cons x xs ih=>exact ih
 have h2:scalL (smC s)=true:=this s.used
 simp[noRef,flatL,flat,h2]
set_option maxHeartbeats 8000000 in
theorem plan95(F:FnsCk T){a:Option Addr}{c:Nat}{l:List Kd}{kerf:Int}(hc:chk kerf l=0){p:Int×Int}{ns:List (Nat×Int)}{h:Heap}{qa:Option Addr}{qc:Nat}(h1:1≤p.1∧p.1≤16)(h2:1≤p.2∧p.2≤16)(hlen:ns.length≤1000)(hr:Rdy h)
 (hs:SliceOf h 5 (.slice a l.length c) l.length (kcs l))(hns:SliceOf h 2 (.slice qa ns.length qc) ns.length (ncI ns))(hu:U2 h (.slice qa ns.length qc))(hqc:qc<1000000∨qc=UNK):
 Pu T 95 [.agg #[.slice a l.length c, .int .i64 kerf], .int .i64 p.1, .int .i64 p.2, .slice qa ns.length qc] h (.agg (smC (planS kerf l p ns)).toArray):=by
 refine .of F.toFnsTr.p F.f95 hr (noRef_sm _) ?_
 have hx:Ext h ((h.push (.cells [.slice a l.length c, .int .i64 kerf] true 1)).push (.cells (smC sm0) true 1)):=((Ext.refl h).push _).push _
 have C:=tree137 F.toFnsTr hc 32 p ns _ qa qc h1 h2 (by omega) hlen (.of (hx.wf hr.wf)) ((hs.ext hx).log []) ((hns.ext hx).log []) (fun b o n e=>by
  obtain⟨vs,own,g⟩:=hu b o n e
  exact⟨vs,own,(hx.old _ (WF.get_lt hr.wf g)).trans g⟩) hqc
 have hb:=tree_bd hc 32 p ns h1 h2
 have hP:planS kerf l p ns=if(treeS kerf l 32 p ns).1.ok=true∧(treeS kerf l 32 p ns).2=ns.length then(treeS kerf l 32 p ns).1 else sm0:=rfl
 rw[hP]
 clear hP
 generalize treeS kerf l 32 p ns=r at*
 obtain⟨s,m⟩:=r
 have hl:=hb.1.len
 have hm:=hb.2
 clear hb
 obtain⟨ok,wo,ce,de,us⟩:=s
 dsimp only at hl hm⊢
 refine y4 ?_;refine yB ?_;refine wO_val a_new ?_;refine y3 ?_;refine y4 ?_
 refine yN ?_;refine yM ?_;refine yM ?_
 refine yM ?_
 refine yC ?_
 refine FW.pu C ?_
 clear C
 refine yM ?_;refine yE ?_;refine yE ?_;refine wO_val a_new ?_
 refine wO_val (a_storeAll (cs:=smC ⟨ok,wo,ce,de,us⟩) (vs:=smC sm0) (by exact rfl) (by exact rfl) (by(simp(disch:=first|omega|(simp only[z1,z2];omega)|(simp only[z1,z2];done)|fail)only[z8,z4,z5,z9,z7,z1,z2, *];exact rfl)) (smC_len hl) rfl (ones_smC _)) ?_
 cases ok with
 |false=>
  rw[if_neg (fun q=>by cases q.1)]
  refine yM ?_;refine y3 ?_;refine wE_seq ?_;refine y4 ?_;refine yF ?_
  refine yL ?_;refine yA ?_
  refine yM ?_;refine yP ?_;refine yP ?_;refine yP ?_;refine yP ?_;refine yT ?_;refine y3 ?_;refine yY ?_;refine y4 ?_;refine wO_val (a_build (by exact rfl)) ?_
  refine yS ?_;refine y3 ?_;refine wE_ret ?_;refine kS_r ?_
  refine endP_ret ?_ (res_cells (b:=h.next+1) rfl (by(simp(disch:=first|omega|(simp only[z1,z2];omega)|(simp only[z1,z2];done)|fail)only[z8,z4,z5,z9,z7,z1,z2, *];exact rfl)) (smC_take (s:=sm0) rfl).1 (smC_take (s:=sm0) rfl).2 res_nil) rfl
  simp(disch:=first|omega|(simp only[z1,z2];omega))only[Heap.log_wr_new,Heap.log_push]
  exact hr.log
 |true=>
  by_cases hml:m=ns.length
  ·rw[if_pos ⟨rfl,hml⟩]
   refine yM ?_;refine y3 ?_;refine wE_seq ?_;refine y4 ?_;refine yF ?_
   refine yL ?_;refine yA ?_
   refine yM ?_;refine yO ?_;refine yM ?_;refine yO ?_;refine yM ?_;refine yO ?_;refine yD ?_;refine yO ?_;refine yf ?_
   refine yU ?_;refine y3 ?_;refine yX ?_;refine wE_skip ?_;refine kS_n ?_;refine y4 ?_
   refine wO_val (a_loadN (l:=smC ⟨true,wo,ce,de,us⟩) (by exact rfl) (by(simp(disch:=first|omega|(simp only[z1,z2];omega)|(simp only[z1,z2];done)|fail)only[z8,z4,z5,z9,z7,z1,z2, *];exact rfl)) (smC_take hl).1 (smC_take hl).2) ?_
   refine wO_val (a_storeAll (cs:=smC ⟨true,wo,ce,de,us⟩) (vs:=smC sm0) (by exact rfl) (by exact rfl) (by(simp(disch:=first|omega|(simp only[z1,z2];omega)|(simp only[z1,z2];done)|fail)only[z8,z4,z5,z9,z7,z1,z2, *];exact rfl)) (smC_len hl) rfl (ones_smC _)) ?_
   refine y3 ?_;refine wE_ret ?_
   refine endP_ret ?_ (res_cells (b:=h.next+1) rfl (by(simp(disch:=first|omega|(simp only[z1,z2];omega)|(simp only[z1,z2];done)|fail)only[z8,z4,z5,z9,z7,z1,z2, *];exact rfl)) (smC_take hl).1 (smC_take hl).2 res_nil) rfl
   simp(disch:=first|omega|(simp only[z1,z2];omega))only[Heap.log_wr_new,Heap.log_push]
   exact hr.log
  ·rw[if_neg (fun q=>hml q.2)]
   refine yM ?_;refine y3 ?_;refine wE_seq ?_;refine y4 ?_;refine yF ?_
   refine yL ?_;refine yA ?_
   refine yM ?_;refine yO ?_;refine yM ?_;refine yO ?_;refine yM ?_;refine yO ?_;refine yD ?_;refine yO ?_;refine yt ?_
   refine yU ?_;refine y3 ?_;refine yY ?_;refine y4 ?_;refine wO_val (a_build (by exact rfl)) ?_
   refine yS ?_;refine y3 ?_;refine wE_ret ?_;refine kS_r ?_
   refine endP_ret ?_ (res_cells (b:=h.next+1) rfl (by(simp(disch:=first|omega|(simp only[z1,z2];omega)|(simp only[z1,z2];done)|fail)only[z8,z4,z5,z9,z7,z1,z2, *];exact rfl)) (smC_take (s:=sm0) rfl).1 (smC_take (s:=sm0) rfl).2 res_nil) rfl
   simp(disch:=first|omega|(simp only[z1,z2];omega))only[Heap.log_wr_new,Heap.log_push]
   exact hr.log
def checkR(kerf:Int)(l:List Kd)(w ht:Int)(ns:List (Nat×Int)):Value:=if asked kerf l (OnB w ht)=0 then .tuple #[.int .i64 (planS kerf l (w,ht) ns).worth, .bool (planS kerf l (w,ht) ns).ok, .int .i64 0]else .tuple #[.int .i64 0, .bool false, .int .i64 (asked kerf l (OnB w ht))]
set_option maxHeartbeats 8000000 in
theorem checkPlan38(F:FnsCk T){a:Option Addr}{c:Nat}{l:List Kd}{kerf w ht:Int}{ns:List (Nat×Int)}{h:Heap}{qa:Option Addr}{qc:Nat}(hn:l.length<1000000)(hlen:ns.length≤1000)(hr:Rdy h)
 (hs:SliceOf h 5 (.slice a l.length c) l.length (kcs l))(hns:SliceOf h 2 (.slice qa ns.length qc) ns.length (ncI ns))(hu:U2 h (.slice qa ns.length qc))(hqc:qc<1000000∨qc=UNK):
 Pu T 38 [.agg #[.slice a l.length c, .int .i64 kerf], .int .i64 w, .int .i64 ht, .slice qa ns.length qc] h (checkR kerf l w ht ns):=by
 refine .of F.toFnsTr.p F.f38 hr (by unfold checkR;split<;>rfl) ?_
 have hx:Ext h (h.push (.cells [.slice a l.length c, .int .i64 kerf] true 1)):=(Ext.refl h).push _
 have C:=asked79 F.toFnsD (.of (hx.wf hr.wf)) ((hs.ext hx).log []) kerf w ht hn
 have eO:asked kerf l ((1≤w∧w≤16)∧(1≤ht∧ht≤16))=asked kerf l (OnB w ht):=rfl
 rw[eO]at C
 refine y4 ?_;refine yB ?_;refine yM ?_;refine yM ?_;refine yM ?_;refine y3 ?_;refine y4 ?_
 refine yN ?_;refine yM ?_;refine yM ?_
 refine yC ?_
 refine FW.pu C ?_
 clear C
 unfold checkR
 by_cases ha:asked kerf l (OnB w ht)=0
 ·rw[if_pos ha,ha]
  obtain⟨hc,hb⟩:=asked_zero ha
  have C2:=plan95 F hc (p:=(w,ht)) (qc:=qc) hb.1 hb.2 hlen (.of (hx.wf hr.wf)) ((hs.ext hx).log []) ((hns.ext hx).log []) (fun b o n e=>by
   obtain⟨vs,own,g⟩:=hu b o n e
   exact⟨vs,own,(hx.old _ (WF.get_lt hr.wf g)).trans g⟩) hqc
  have hl:=planS_len hc (p:=(w,ht)) hb.1 hb.2 ns
  generalize planS kerf l (w,ht) ns=s at*
  refine yM ?_;refine y3 ?_;refine wE_seq ?_;refine y4 ?_;refine yM ?_;refine yf ?_;refine y3 ?_;refine yX ?_;refine wE_skip ?_;refine kS_n ?_;refine y4 ?_
  refine yN ?_;refine yM ?_;refine yM ?_
  refine yM ?_
  refine yC ?_
  refine FW.pu C2 ?_
  clear C2
  refine wO_val a_new ?_
  refine wO_val (a_storeAll (cs:=smC s) (vs:=smC sm0) (by exact rfl) (by exact rfl) (by(simp(disch:=first|omega|(simp only[z1,z2];omega)|(simp only[z1,z2];done)|fail)only[z8,z4,z5,z9,z7,z1,z2, *];exact rfl)) (smC_len hl) rfl (ones_smC _)) ?_
  refine y3 ?_;refine wE_seq ?_;refine wE_draw ?_;refine qF ?_
  refine qL ?_
  refine qF ?_
  refine qL ?_
  refine qM ?_;refine qM ?_;refine qM ?_;refine wD_nil ?_
  refine y1 ?_;refine kS_n ?_;refine wE_ret ?_
  refine endP_ret ?_ rfl rfl
  simp(disch:=first|omega|(simp only[z1,z2];omega))only[Heap.log_wr_new,Heap.log_push]
  exact hr.log
 ·rw[if_neg ha]
  generalize asked kerf l (OnB w ht)=er at*
  refine yM ?_;refine y3 ?_;refine wE_seq ?_;refine y4 ?_;refine yM ?_;refine yt ?_;refine y3 ?_;refine yY ?_;refine y4 ?_;refine yM ?_;refine yM ?_;refine yM ?_;refine yM ?_;refine y3 ?_;refine wE_ret ?_;refine kS_r ?_
  exact endP_ret (hx.log.trans hr.log) rfl rfl
end Go.A.Pk
end
section
set_option maxRecDepth 100000
namespace Go.A.Pk
variable {T:Nat→Option AFunc}
theorem eq_wr_pushA{base:Nat}{h:Heap}{b:Nat}(hb:b<h.next)(o o':AObj):({(({h with log:=[]}:Heap).wr h.next b o).push o' with log:=mergeLog base h.log ((({h with log:=[]}:Heap).wr h.next b o).push o').log}:Heap)=(h.wr base b o).push o':=
 congrArg (fun k:Heap=>k.push o') (eq_wrA hb o)
theorem wD_app1p{base:Nat}{e:Env}{h:Heap}{lo sz bytes n:Nat}{ops:List AOper}{bf:List Nat}{rs:List Rec}{Q:Env→Heap→Prop}{i mask:Nat}{is:List Nat}{dst:Option Nat}{g:Option (Nat×Bool)}{er:Env}{x y:Operand}{v u:Value}{cs c1:List Value}
 (s:Own lo h sz v n cs)(hn:n<1000000)(hsz:0<sz)(hb:bytes≤100000)
 (ho:lget ops i=some ⟨dst, .append sz bytes x y,g⟩)(hm:lget bf i=some mask)(he:keepE e (slotsA ⟨dst, .append sz bytes x y,g⟩)=er)(hwt:wantedA er g=some true)
 (hx:ev {h with log:=[]} er x=some v)(hy:ev {h with log:=[]} er y=some u)(hs:srcCells {h with log:=[]} sz u=some (c1,1))(hl1:c1.length=sz)(h1:ones c1=true)(h1':ones cs=true)
 (hlg:LogGe lo h.log)(hw:WF h)
 (hK:∀h' lg,Own h.next h' sz (.slice (some ⟨h.next,0,none⟩) (n+1) UNK) (n+1) (cs++c1)→h.next<h'.next→LogGe lo h'.log→WF h'→(∀z,z<h.next→(∀q a c,v= .slice (some ⟨q,0,none⟩) a c→z≠q)→h'.get z=h.get z)→∃rs',recsAfter h' base lg mask rs=some rs'∧WD T base ops bf Q is rs' (dstE e dst (.slice (some ⟨h.next,0,none⟩) (n+1) UNK)) h'):WD T base ops bf Q (i::is) rs e h:=by
 have hbd:(2*(n+1)+768)*bytes≤281474976710656:=by
  have:(2*(n+1)+768)*bytes≤2000768*100000:=Nat.mul_le_mul (by omega) hb
  omega
 cases s with
 |nil=>
  have:=Own.full (lo:=h.next) (h:=h.push (.cells c1 true sz)) (sz:=sz) (q:=h.next) (n:=1) (cs:=c1) (Nat.le_refl _) (Nat.lt_succ_self _) (z3 _ _) (by omega) (by omega)
  obtain⟨rs',q1,q2⟩:=hK _ [] this (Nat.lt_succ_self _) hlg (hw.push _) (fun z hz _=>z4 hz)
  exact wD_app_nil (n:=1) ho hm he hwt hx hy hs (by omega) (by simpa using hbd) q1 q2
 | @full q _ _ q1 q2 q3 q4 q5=>
   have hF:Own h.next ((h.wr base q .dead).push (.cells (cs++c1) true sz)) sz (.slice (some ⟨h.next,0,none⟩) (n+1) UNK) (n+1) (cs++c1):= .full (Nat.le_refl _) (Nat.lt_succ_self _) (z3 _ _) (by rw[List.length_append,q4,hl1,Nat.add_mul,Nat.one_mul]) (by omega)
   obtain⟨rs',p1,p2⟩:=hK _ [q] hF (Nat.lt_succ_self _) (((Lk.refl lo h).wr (base:=base) (o:= .dead) q1).log hlg) ((hw.as (AS.wr base _ q .dead)).push _) (fun z hz hne=>(z4 (by exact hz)).trans (z5 (hne q _ _ rfl)))
   exact wD_actH ho hm he hwt rfl (a_app_open (h:={h with log:=[]}) (n:=1) (vs:=cs) (ws:=cs++c1) hx hy hs (by omega) q3 q4 hsz h1 hbd (lcat_eq _ _)) (eq_wr_pushA q2 _ _) (lg_wr q2 .dead) p1 p2
open I in
def asgN:ACode:=(I.R [g 12 (.new [O,O]),S 2 12 34] [10,11,12])
open I in
def bodyN:ACode:=(.block 1 (.draw [L 35 11,g 36 (.iaddrA 2 1 (t 12) (.const O)),L 37 36,C 38 .sub 37 1,L 39 11,g 40 (.iaddrA 2 1 (t 12) (.const O)),L 41 40,C 42 .sub 41 1,g 43 (.iaddrS 1 (t 39) (t 42)),L 44 43,L 45 10,N 46 2 12,g 47 (.lookup true [.i .i64, .i .i64] O false (t 45) (t 46)),g 48 (.bslice [O] 1 [(0,1,(t 47))]),g 49 (.append 1 8 (t 44) (t 48)),g 50 (.iaddrS 1 (t 35) (t 38)),S 1 50 49] [0,1,2,3,4,5,6,7,8,9,10,11,12,13,14,15,16] [0,0,2,6,0,0,32,96,240,496,0,0,3072,7168,16368,32767,65535] []))
theorem scalL_set{v:Value}(hv:scal v=false):∀{vs:List Value} {i:Nat},i<vs.length→scalL (vs.set i v)=false
 |w::vs,0,_=>by simp only[List.set,scalL,hv,cond_false]
 |w::vs,i+1,h=>by
  simp only[List.set,scalL]
  rw[scalL_set hv (by simpa using h)]
  cases scal w<;>rfl
theorem lputs_set{α:Type}{l:List α}{i:Nat}{x:α}(h:i<l.length):lputs l i [x]=l.set i x:=by
 rw[lputs_mid (by simp;omega),List.set_eq_take_append_cons_drop,if_pos h]
 simp
set_option maxHeartbeats 8000000 in
theorem val_round(hp:primAS T){H:Heap}(hr:Rdy H){p10 p11 mq ob l i b n c m lo:Nat}{u:Tab}{fv v:Value}{vs:List Value}{xs:List Int}(hi:i<n)(hn:n<1000000)(hm:m<1000000)(hlo:lo≤ob)
 (gl:H.get l=some (.loop [(10, .pointer (some ⟨p10,0,none⟩)),(11, .pointer (some ⟨p11,0,none⟩)),(33,fv)] [34] asgN bodyN 0 .normal))
 (g10:H.get p10=some (.cells [.map (some mq)] true 1))(g11:H.get p11=some (.cells [.slice (some ⟨ob,0,none⟩) n c] true 1))(gt:H.get mq=some (.map (ents u)))
 (go:H.get ob=some (.cells vs true 1))(hvl:vs.length=n)(hv:lget vs i=some v)(own:Own lo H 1 v m (ints xs))(hne:∀q a k,v= .slice (some ⟨q,0,none⟩) a k→q≠ob∧q≠p10∧q≠p11∧q≠mq∧q≠l)(hop:ob≠p11)(hop2:ob≠p10):
 FW T (.yield l) [boardV (i+1,b)] H fun r H'=>r= .ret (.bool true)∧(∀z∈H'.log,lo≤z)∧ob∈H'.log∧∃q',H.next≤q'∧H'.get ob=some (.cells (vs.set i (.slice (some ⟨q',0,none⟩) (m+1) UNK)) true 1)∧Own H.next H' 1 (.slice (some ⟨q',0,none⟩) (m+1) UNK) (m+1) (ints (xs++[look u ((i+1:Nat),b)]))∧(∀z,z<H.next→z≠ob→(∀q a k,v= .slice (some ⟨q,0,none⟩) a k→z≠q)→H'.get z=H.get z)∧WF H':=by
 have n10:=ne_loop g10 gl
 have n11:=ne_loop g11 gl
 have no:=ne_loop go gl
 have nt:=ne_map gt gl
 have k10:=WF.get_lt hr.wf g10
 have k11:=WF.get_lt hr.wf g11
 have ko:=WF.get_lt hr.wf go
 have kt:=WF.get_lt hr.wf gt
 have kl':=WF.get_lt hr.wf gl
 refine FW.yieldK hp (q:=ob) (R:=fun H'=>∃q',H.next≤q'∧H'.get ob=some (.cells (vs.set i (.slice (some ⟨q',0,none⟩) (m+1) UNK)) true 1)∧Own H.next H' 1 (.slice (some ⟨q',0,none⟩) (m+1) UNK) (m+1) (ints (xs++[look u ((i+1:Nat),b)]))∧(∀z,z<H.next→z≠ob→(∀q a k,v= .slice (some ⟨q,0,none⟩) a k→z≠q)→H'.get z=H.get z)∧WF H') gl rfl kl' ko no ?_
 unfold asgN
 refine wE_region ?_;refine wO_val a_new ?_;refine yS ?_;refine wO_nil ?_
 refine y1 ?_
 refine⟨rfl,by(simp(disch:=first|omega|(simp only[z1,z2];omega))only[z3,z4,z5,z6,z7,z1,z2, *];exact rfl),?_⟩
 unfold bodyN
 refine wE_block ?_
 refine WE.genT ?_
 intro hA hAe
 have A1:∀z,z<H.next→z≠l→H.get z=hA.get z:=fun z hz hne=>by rw[hAe];symm;simp(disch:=first|omega|(simp only[z1,z2];omega))only[z5,z4]
 have A3:hA.get H.next=some (.cells [.int .i64 (i+1:Nat), .int .i64 b] true 1):=by rw[hAe];(simp(disch:=first|omega|(simp only[z1,z2];omega))only[z3,z4,z5,z6,z7,z1,z2, *];exact rfl)
 have A2:hA.get l=some (.loop [(10, .pointer (some ⟨p10,0,none⟩)),(11, .pointer (some ⟨p11,0,none⟩)),(33,fv)] [34] asgN bodyN 1 .normal):=by rw[hAe];(simp(disch:=first|omega|(simp only[z1,z2];omega))only[z3,z4,z5,z6,z7,z1,z2, *];exact rfl)
 have A5:hA.next=H.next+1:=by rw[hAe];rfl
 have A6:hA.log=[]:=by rw[hAe];simp(disch:=first|omega|(simp only[z1,z2];omega))only[Heap.log_wr_new,Heap.log_push];exact hr.log
 have A7:WF hA:=by rw[hAe];exact(((hr.wf.push _).as (AS.wr _ _ _ _)).as (AS.wr _ _ _ _))
 clear hAe
 have B10:=(A1 p10 k10 n10).symm.trans g10
 have B11:=(A1 p11 k11 n11).symm.trans g11
 have Bo:=(A1 ob ko no).symm.trans go
 have Bt:=(A1 mq kt nt).symm.trans gt
 have ownA:Own lo hA 1 v m (ints xs):=by
  revert own
  generalize ints xs=zs
  intro own
  cases own with
  |nil=>exact .nil
  | @full q _ _ q1 q2 q3 q4 q5=>exact .full q1 (by omega) ((A1 q q2 (hne q _ _ rfl).2.2.2.2).symm.trans q3) q4 q5
 obtain⟨va,vc,rfl⟩:∃va vc,v= .slice va m vc:=(own.slice (by omega)).form
 have hv':lget vs (0+i*1)=some (.slice va m vc):=by rw[Nat.zero_add,Nat.mul_one];exact hv
 have e1:numOp .sub (.int .i64 (i+1:Nat)) (.int .i64 1)=some (.int .i64 (i:Nat)):=m_sub (by rw[wrapA_i64]<;>omega)
 clear g10 g11 go gt
 refine wE_draw ?_;refine qL ?_;refine wD_quiet rfl rfl rfl (by exact rfl) (by exact rfl) (by exact rfl) (a_iaddrA (i:=0) (by exact rfl) (by exact rfl) (by omega)) ?_
 refine qL ?_;refine wD_quiet rfl rfl rfl (by exact rfl) (by exact rfl) (by exact rfl) (a_num (by exact rfl) (by exact rfl) (by with_reducible assumption)) ?_
 refine qL ?_;refine wD_quiet rfl rfl rfl (by exact rfl) (by exact rfl) (by exact rfl) (a_iaddrA (i:=0) (by exact rfl) (by exact rfl) (by omega)) ?_;refine qL ?_
 refine wD_quiet rfl rfl rfl (by exact rfl) (by exact rfl) (by exact rfl) (a_num (by exact rfl) (by exact rfl) (by with_reducible assumption)) ?_;refine wD_quiet rfl rfl rfl (by exact rfl) (by exact rfl) (by exact rfl) (a_iaddrS (by exact rfl) (by exact rfl) (by omega)) ?_
 refine wD_quiet rfl rfl rfl (by exact rfl) (by exact rfl) (by exact rfl) (a_load (by exact rfl) (by assumption) (by assumption)) ?_;refine qL ?_
 refine qN ?_
 refine wD_quiet rfl rfl rfl (by exact rfl) (by exact rfl) (by exact rfl) (a_lookup (x:=((i+1:Nat),b)) (by exact rfl) (by exact rfl) Bt) ?_
 refine wD_new rfl rfl rfl (by exact rfl) (by exact rfl) (by exact rfl) (a_bslice (by exact rfl) (by exact rfl)) (by refine rs_cons (rq_quiet rfl (a_lookup (x:=((i+1:Nat),b)) (by exact rfl) (by exact rfl) (by(simp(disch:=first|omega|(simp only[z1,z2];omega))only[z3,z4,z5,z6,z7,z1,z2, *];done))) (sv_int _ _)) ?_;refine rs_cons (rq_quiet rfl (a_loadN (by exact rfl) (by(simp(disch:=first|omega|(simp only[z1,z2];omega))only[z3,z4,z5,z6,z7,z1,z2, *];exact rfl)) (by exact rfl) (by exact rfl)) (by exact sv_agg (by refine sl_cons (s1_int _ _) ?_;refine sl_cons (s1_int _ _) ?_;exact sl_nil))) ?_;refine rs_cons (rq_quiet rfl (a_load (by exact rfl) (by(simp(disch:=first|omega|(simp only[z1,z2];omega))only[z3,z4,z5,z6,z7,z1,z2, *];exact rfl)) (by exact rfl)) (by exact sv_mapP _)) ?_;refine rs_cons (rq_quiet rfl (a_load (by exact rfl) (by(simp(disch:=first|omega|(simp only[z1,z2];omega))only[z3,z4,z5,z6,z7,z1,z2, *];exact rfl)) (by assumption)) (by exact sv_slice _ _ _)) ?_;refine rs_cons (rq_quiet rfl (a_iaddrS (by exact rfl) (by exact rfl) (by omega)) (by exact sv_ptr _)) ?_;refine rs_cons (rq_quiet rfl (a_num (by exact rfl) (by exact rfl) (by with_reducible assumption)) (by exact sv_int _ _)) ?_;refine rs_cons (rq_quiet rfl (a_load (by exact rfl) (by(simp(disch:=first|omega|(simp only[z1,z2];omega))only[z3,z4,z5,z6,z7,z1,z2, *];exact rfl)) (by exact rfl)) (by exact sv_int _ _)) ?_;refine rs_cons (rq_quiet rfl (a_iaddrA (i:=0) (by exact rfl) (by exact rfl) (by omega)) (by exact sv_ptr _)) ?_;refine rs_cons (rq_quiet rfl (a_load (by exact rfl) (by(simp(disch:=first|omega|(simp only[z1,z2];omega))only[z3,z4,z5,z6,z7,z1,z2, *];exact rfl)) (by exact rfl)) (by exact sv_slice _ _ _)) ?_;refine rs_cons (rq_quiet rfl (a_num (by exact rfl) (by exact rfl) (by with_reducible assumption)) (by exact sv_int _ _)) ?_;refine rs_cons (rq_quiet rfl (a_load (by exact rfl) (by(simp(disch:=first|omega|(simp only[z1,z2];omega))only[z3,z4,z5,z6,z7,z1,z2, *];exact rfl)) (by exact rfl)) (by exact sv_int _ _)) ?_;refine rs_cons (rq_quiet rfl (a_iaddrA (i:=0) (by exact rfl) (by exact rfl) (by omega)) (by exact sv_ptr _)) ?_;refine rs_cons (rq_quiet rfl (a_load (by exact rfl) (by(simp(disch:=first|omega|(simp only[z1,z2];omega))only[z3,z4,z5,z6,z7,z1,z2, *];exact rfl)) (by exact rfl)) (by exact sv_slice _ _ _)) ?_;exact rs_nil) ?_
 refine wD_app1p (lo:=lo) (v:= .slice va m vc) (c1:=[.int .i64 (look u ((i+1:Nat),b))]) (ownA.ext (((Ext.refl hA).push (.cells [.int .i64 (look u ((i+1:Nat),b))] true 1)))) hm (by omega) (by omega) rfl rfl rfl (by exact rfl) (by exact rfl) (by exact rfl) (src_log (src_slice (cs:=[.int .i64 (look u ((i+1:Nat),b))]) (by(simp(disch:=first|omega|(simp only[z1,z2];omega)|(simp only[z1,z2];done)|fail)only[z8,z4,z5,z9,z7,z1,z2, *];exact rfl)) rfl rfl)) (by exact rfl) (by exact rfl) (ones_intsT _) (by rw[Heap.log_push,A6];exact LogGe.nil _) (A7.push _) ?_
 intro h3 lg own3 n3 l3 w3 o3
 have eP:∀o,(hA.push o).next=H.next+2:=fun o=>by show hA.next+1=_;omega
 rw[eP]at own3 n3
 rw[eP]
 have C1:∀z,z<H.next+1→(∀q a c,Value.slice va m vc= .slice (some ⟨q,0,none⟩) a c→z≠q)→hA.get z=h3.get z:=fun z hz hq=>((o3 z (by rw[eP];omega) hq).trans (z4 (by omega))).symm
 clear o3
 have C10:=(C1 p10 (by omega) fun q a k e=>(hne q a k e).2.1.symm).symm.trans B10
 have C11:=(C1 p11 (by omega) fun q a k e=>(hne q a k e).2.2.1.symm).symm.trans B11
 have Co:=(C1 ob (by omega) fun q a k e=>(hne q a k e).1.symm).symm.trans Bo
 have Ct:=(C1 mq (by omega) fun q a k e=>(hne q a k e).2.2.2.1.symm).symm.trans Bt
 have Cl:=(C1 l (by omega) fun q a k e=>(hne q a k e).2.2.2.2.symm).symm.trans A2
 have C3:=(C1 H.next (by omega) fun q a k e=>by
  have:q<H.next:=by
   cases e
   revert own
   generalize ints xs=zs
   intro own
   cases own with
   |full q1 q2 _ _ _=>exact q2
  omega).symm.trans A3
 clear B10 B11 Bo Bt A3 A2
 refine⟨_,by apply ra_dropC rfl;apply ra_dropC rfl;apply ra_dropC rfl;apply ra_dropC rfl;apply ra_dropC rfl;apply ra_dropC rfl;apply ra_dropC rfl;apply ra_dropC rfl;apply ra_dropC rfl;apply ra_dropC rfl;apply ra_keepC rfl (rq_quiet rfl (a_num (by exact rfl) (by exact rfl) (by with_reducible assumption)) (by exact sv_int _ _)) rfl;apply ra_keepC rfl (rq_quiet rfl (a_load (by exact rfl) (by assumption) (by exact rfl)) (by exact sv_int _ _)) rfl;apply ra_keepC rfl (rq_quiet rfl (a_iaddrA (i:=0) (by exact rfl) (by exact rfl) (by omega)) (by exact sv_ptr _)) rfl;apply ra_keepC rfl (rq_quiet rfl (a_load (by exact rfl) (by assumption) (by exact rfl)) (by exact sv_slice _ _ _)) rfl;exact ra_nil,?_⟩
 refine wD_quiet rfl rfl rfl (by exact rfl) (by exact rfl) (by exact rfl) (a_iaddrS (by exact rfl) (by exact rfl) (by omega)) ?_
 refine wD_storeA (ws:=vs.set i (.slice (some ⟨H.next+2,0,none⟩) (m+1) UNK)) rfl rfl rfl (by exact rfl) (by exact rfl) (by exact rfl) Co (by show(Nat.beq 1 1&&Nat.ble (0+i*1+1) (llen vs)&&true)=true;rw[llen_eq,nble_of (by omega)];rfl) (by rw[Nat.zero_add,Nat.mul_one];exact lputs_set (by omega)) (by omega) (by apply ra_dropC rfl;apply ra_dropC rfl;apply ra_dropC rfl;apply ra_dropC rfl;apply ra_dropC rfl;exact ra_nil) ?_
 refine wD_nil ?_;refine y1 ?_;refine kB_n ?_
 refine⟨rfl,⟨_,by(simp(disch:=first|omega|(simp only[z1,z2];omega))only[z3,z4,z5,z6,z7,z1,z2, *];exact rfl),rfl⟩,fun z hz=> ?_,wr_log_has (by omega),⟨_,_,_,Heap.get_wr_new Co,scalL_set rfl (by omega)⟩,H.next+2,by omega,(z5 no).trans (Heap.get_wr_new Co),?_,fun z hz h1 h2=> ?_,?_⟩
 ·rcases wr_log_old hz with rfl|hz
  ·exact hlo
  ·exact l3 z hz
 ·rw[show ints (xs++[look u ((i+1:Nat),b)])=ints xs++[.int .i64 (look u ((i+1:Nat),b))]from List.map_append]
  exact Own.low (lo:=H.next+2) (Own.keep own3 (Nat.le_refl _) fun z hz _=>(z5 (by omega)).trans (z5 (by omega))) (by omega)
 ·by_cases hl:z=l
  ·subst hl
   rw[gl]
   exact Heap.get_wr_new ((z5 (Ne.symm no)).trans Cl)
  ·exact(z5 hl).trans ((z5 h1).trans ((C1 z (by omega) h2).symm.trans (A1 z hz hl).symm))
 ·exact(w3.as (AS.wr _ _ _ _)).as (AS.wr _ _ _ _)
end Go.A.Pk
end
section
set_option maxRecDepth 100000
namespace Go.A.Pk
variable {T:Nat→Option AFunc}
inductive ListsAt (h:Heap):Value→List (List Int)→Prop
 |nil:ListsAt h (.slice none 0 0) []
 |mem {b o c vs own t rows}:h.get b=some (.cells vs own t)→b<h.next→(∀i r,rows[i]? =some r→∃x,lget vs (o+i)=some x∧SliceOf h 1 x r.length (ints r))→ListsAt h (.slice (some ⟨b,o,none⟩) rows.length c) rows
theorem ListsAt.log{h:Heap}{v:Value}{rows:List (List Int)}(s:ListsAt h v rows)(m:List Nat):ListsAt {h with log:=m} v rows:=by
 cases s with
 |nil=>exact .nil
 |mem g1 g2 g3=>exact .mem g1 g2 fun i r e=>by obtain⟨x,h1,h2⟩:=g3 i r e;exact⟨x,h1,h2.log m⟩
theorem ListsAt.ext{h h':Heap}{v:Value}{rows:List (List Int)}(s:ListsAt h v rows)(x:Ext h h'):ListsAt h' v rows:=by
 cases s with
 |nil=>exact .nil
 |mem g1 g2 g3=>exact .mem ((x.old _ g2).trans g1) (Nat.lt_of_lt_of_le g2 x.next) fun i r e=>by obtain⟨y,h1,h2⟩:=g3 i r e;exact⟨y,h1,h2.ext x⟩
def rowsV(kerf:Int)(l:List Kd)(w ht:Nat):List (List Int):=(List.range w).map fun(i:Nat)=>(List.range ht).map fun(j:Nat)=>bestV kerf l (i+1:Nat) (j+1:Nat)
def rowF(u:Tab)(done:List (Nat×Nat))(i:Nat):List Int:=(done.filter fun y=>y.1==i+1).map fun y=>look u (y.1,y.2)
theorem rowF_snoc(u:Tab)(done:List (Nat×Nat))(x:Nat×Nat)(i:Nat):rowF u (done++[x]) i=if x.1=i+1 then rowF u done i++[look u (x.1,x.2)]else rowF u done i:=by
 unfold rowF
 rw[List.filter_append,List.map_append]
 by_cases h:x.1=i+1
 ·rw[if_pos h];simp[h]
 ·rw[if_neg h];simp[h]
theorem rowF_len(u:Tab)(done:List (Nat×Nat))(i:Nat):(rowF u done i).length≤done.length:=by
 unfold rowF
 rw[List.length_map]
 exact List.length_filter_le _ _
theorem boardsL_len:∀w h:Nat,(boardsL w h).length=w*h
 |0,h=>by simp[boardsL]
 |w+1,h=>by simp[boardsL,boardsL_len w h,row,Nat.add_mul]
theorem rowF_row(u:Tab)(c n i:Nat):rowF u (row c n) i=if c=i+1 then(List.range n).map fun(j:Nat)=>look u (c,(j+1:Nat))else []:=by
 induction n with
 |zero=>simp[row,rowF]
 |succ n ih=>
  rw[row_succ,rowF_snoc,ih]
  by_cases h:c=i+1
  ·subst h;simp[List.range_succ]
  ·simp[h]
theorem rowF_app(u:Tab)(a b:List (Nat×Nat))(i:Nat):rowF u (a++b) i=rowF u a i++rowF u b i:=by
 unfold rowF
 rw[List.filter_append,List.map_append]
theorem rowF_none(u:Tab){ht i:Nat}:∀{w:Nat},w≤i→rowF u (boardsL w ht) i=[]
 |0,_=>rfl
 |w+1,h=>by
  rw[boardsL,rowF_app,rowF_none u (by omega),rowF_row,if_neg (by omega)]
  rfl
theorem rowF_all(u:Tab){ht i:Nat}:∀{w:Nat},i<w→rowF u (boardsL w ht) i=(List.range ht).map fun(j:Nat)=>look u ((i+1:Nat),(j+1:Nat))
 |w+1,h=>by
  rw[boardsL,rowF_app,rowF_row]
  by_cases hi:i<w
  ·rw[rowF_all u hi,if_neg (by omega),List.append_nil]
  ·obtain rfl:i=w:=by omega
   rw[rowF_none u (Nat.le_refl _),if_pos rfl]
   rfl
structure RowsK (lo:Nat) (H:Heap) (vs:List Value) (n:Nat) (f:Nat→List Int):Prop where
 len:vs.length=n
 own:∀i,i<n→∃v,lget vs i=some v∧Own lo H 1 v (f i).length (ints (f i))
 dist:∀i j q a b c d,i≠j→lget vs i=some (.slice (some ⟨q,0,none⟩) a b)→lget vs j=some (.slice (some ⟨q,0,none⟩) c d)→False
theorem own_below{lo n q a b:Nat}{h:Heap}{v:Value}{cs:List Value}(s:Own lo h 1 v n cs)(e:v= .slice (some ⟨q,0,none⟩) a b):lo≤q∧q<h.next:=by
 cases s with
 |nil=>cases e
 |full q1 q2 _ _ _=>cases e;exact⟨q1,q2⟩
theorem RowsK.up{lo n m q':Nat}{H H':Heap}{vs:List Value}{f g:Nat→List Int}{i:Nat}{v:Value}(s:RowsK lo H vs n f)(hi:i<n)(hlo:lo≤H.next)(hv:lget vs i=some v)(hq:H.next≤q')(hn:H.next≤H'.next)
 (own':Own H.next H' 1 (.slice (some ⟨q',0,none⟩) m UNK) (g i).length (ints (g i)))(hg:∀j,j≠i→g j=f j)(ha:∀z,lo≤z→z<H.next→(∀q a k,v= .slice (some ⟨q,0,none⟩) a k→z≠q)→H'.get z=H.get z):
 RowsK lo H' (vs.set i (.slice (some ⟨q',0,none⟩) m UNK)) n g:=by
 have hset:∀j,lget (vs.set i (.slice (some ⟨q',0,none⟩) m UNK)) j=if i=j then some (.slice (some ⟨q',0,none⟩) m UNK)else lget vs j:=fun j=>by
  rw[lget_eq,lget_eq,List.getElem?_set]
  by_cases h:i=j
  ·subst h;rw[if_pos rfl,if_pos rfl,if_pos (by rw[s.len];exact hi)]
  ·rw[if_neg h,if_neg h]
 have hb:∀j q a b,lget vs j=some (.slice (some ⟨q,0,none⟩) a b)→q<H.next:=fun j q a b e=>by
  have hj:j<n:=by
   rw[lget_eq]at e
   have:=(List.getElem?_eq_some_iff.1 e).1
   rw[←s.len];exact this
  obtain⟨v,h1,h2⟩:=s.own j hj
  rw[h1]at e
  exact(own_below h2 (Option.some.inj e)).2
 refine⟨by rw[List.length_set];exact s.len,fun j hj=> ?_,fun j k q a b c d hne e1 e2=> ?_⟩
 ·by_cases h:i=j
  ·subst h
   exact⟨_,by rw[hset,if_pos rfl],own'.low hlo⟩
  ·obtain⟨v',h1,h2⟩:=s.own j hj
   refine⟨v',by rw[hset,if_neg h];exact h1,?_⟩
   rw[hg j (Ne.symm h)]
   revert h2
   generalize ints (f j)=zs
   generalize(f j).length=m
   intro h2
   cases h2 with
   |nil=>exact .nil
   | @full q _ _ q1 q2 q3 q4 q5=>exact .full q1 (by omega) ((ha q q1 q2 fun q0 a k e hq=>by subst hq;subst e;exact s.dist i j _ _ _ _ _ h hv h1).trans q3) q4 q5
 ·rw[hset]at e1 e2
  by_cases h1:i=j
  ·rw[if_pos h1]at e1
   rw[if_neg (fun h=>hne (h1.symm.trans h))]at e2
   cases e1
   have:=hb _ _ _ _ e2
   omega
  ·rw[if_neg h1]at e1
   by_cases h2:i=k
   ·rw[if_pos h2]at e2
    cases e2
    have:=hb _ _ _ _ e1
    omega
   ·rw[if_neg h2]at e2
    exact s.dist j k q a b c d hne e1 e2
end Go.A.Pk
end
section
set_option maxRecDepth 100000
namespace Go.A.Pk
variable {T:Nat→Option AFunc}
structure FnsVl (T:Nat→Option AFunc):Prop extends FnsPn T where
 f34:T 34=some f34
def ValQ(kerf:Int)(l:List Kd)(w ht:Int)(v:Value)(h:Heap):Prop:=∃x,v= .tuple #[x, .int .i64 (asked kerf l (OnB w ht))]∧ListsAt h x (if asked kerf l (OnB w ht)=0 then rowsV kerf l w.toNat ht.toNat else [])
theorem ValQ.log{kerf:Int}{l:List Kd}{w ht:Int}(v:Value)(h':Heap)(m:List Nat)(q:ValQ kerf l w ht v h'):ValQ kerf l w ht v {h' with log:=m}:=by
 obtain⟨x,h1,h2⟩:=q
 exact⟨x,h1,h2.log m⟩
theorem ValQ.gc{kerf:Int}{l:List Kd}{w ht:Int}{h:Heap}(v:Value)(h1:Heap)(hv:noRef v=true)(q:ValQ kerf l w ht v h1):ValQ kerf l w ht v h:=by
 obtain⟨x,rfl,s⟩:=q
 refine⟨x,rfl,?_⟩
 generalize(if asked kerf l (OnB w ht)=0 then rowsV kerf l w.toNat ht.toNat else [])=rows at*
 cases s with
 |nil=>exact .nil
 |mem _ _ _=>simp[noRef,flatL,flat,scalL,scal,scal1]at hv
structure PV (l ob n:Nat) (H0:Heap) (L:AObj) (u:Tab) (done:List (Nat×Nat)) (H:Heap):Prop where
 old:∀z,z<l→z≠ob→H.get z=H0.get z
 loop:H.get l=some L
 nx:l<H.next
 rows:∃vs,H.get ob=some (.cells vs true 1)∧RowsK (l+1) H vs n (rowF u done)
theorem PV.stable{l ob n:Nat}{H0:Heap}{L:AObj}{u:Tab}(hob:ob<l)(done:List (Nat×Nat))(H H':Heap)(p:PV l ob n H0 L u done H)(hn:H.next≤H'.next)(h:∀x,x<H.next→H'.get x=H.get x):PV l ob n H0 L u done H':=by
 obtain⟨p1,p2,p3,vs,p4,p5⟩:=p
 exact⟨fun z hz hne=>(h z (by omega)).trans (p1 z hz hne),(h l p3).trans p2,by omega,vs,(h ob (by omega)).trans p4,p5.len,fun i hi=>by
  obtain⟨v,h1,h2⟩:=p5.own i hi
  exact⟨v,h1,h2.keep hn fun z _ hz=>h z hz⟩,p5.dist⟩
theorem rowsV_of{kerf:Int}{l:List Kd}(hc:chk kerf l=0){w ht:Nat}(hb:OnB w ht){i:Nat}{r:List Int}(e:(rowsV kerf l w ht)[i]? =some r):i<w∧r=rowF (tabP kerf l w ht) (boardsL w ht) i:=by
 unfold rowsV at e
 rw[List.getElem?_map]at e
 by_cases hi:i<w
 ·rw[List.getElem?_range hi]at e
  refine⟨hi,?_⟩
  rw[rowF_all _ hi]
  cases e
  apply List.map_congr_left
  intro j hj
  have hj':j<ht:=List.mem_range.1 hj
  rw[look_tabP hc hb,if_pos (by refine⟨?_,?_,?_,?_⟩<;>simp only<;>omega)]
 ·rw[List.getElem?_eq_none (by simp;omega)]at e
  cases e
theorem lrow_nils(n:Nat):lrow n [(.slice none 0 0:Value)]=List.replicate n (.slice none 0 0):=by
 induction n with
 |zero=>rfl
 |succ n ih=>rw[lrow,ih,lcat_eq,List.replicate_succ];rfl
set_option maxHeartbeats 8000000 in
theorem values34(F:FnsVl T){h:Heap}(hr:Rdy h){a:Option Addr}{n c:Nat}{l:List Kd}(hs:SliceOf h 5 (.slice a n c) n (kcs l))(kerf:Int)(hn:n<1000000)(w ht:Int):
 Al T 34 [.agg #[.slice a n c, .int .i64 kerf], .int .i64 w, .int .i64 ht] h (ValQ kerf l w ht):=by
 refine .of F.toFnsW.toFnsE.toFnsA.p F.f34 hr ValQ.gc ?_
 have hx:Ext h (h.push (.cells [.slice a n c, .int .i64 kerf] true 1)):=(Ext.refl h).push _
 obtain rfl:n=l.length:=by have:=hs.len;rw[kcs_length]at this;omega
 refine y4 ?_;refine yB ?_;refine yM ?_;refine yM ?_;refine y3 ?_;refine wE_seq ?_;refine wE_draw ?_
 refine qN ?_
 refine qM ?_;refine qM ?_
 refine qC ?_
 refine FW.puD (board76 F.toFnsW (.of (hx.wf hr.wf)) w ht) (by apply ra_dropC rfl;apply ra_dropC rfl;apply ra_keepC rfl (rq_quiet rfl (a_loadN (by exact rfl) (by(simp(disch:=first|omega|(simp only[z1,z2];omega))only[z3,z4,z5,z6,z7,z1,z2, *];exact rfl)) (by exact rfl) (by exact rfl)) (by exact sv_agg (by refine sl_cons (s1_slice _ _ _) ?_;refine sl_cons (s1_int _ _) ?_;exact sl_nil))) rfl;exact ra_nil) ?_
 refine wD_new rfl rfl rfl (by exact rfl) (by exact rfl) (by exact rfl) (a_bslice (by exact rfl) (by exact rfl)) (by refine rs_cons (rq_quiet rfl (a_loadN (by exact rfl) (by(simp(disch:=first|omega|(simp only[z1,z2];omega))only[z3,z4,z5,z6,z7,z1,z2, *];exact rfl)) (by exact rfl) (by exact rfl)) (by exact sv_agg (by refine sl_cons (s1_slice _ _ _) ?_;refine sl_cons (s1_int _ _) ?_;exact sl_nil))) ?_;exact rs_nil) ?_
 refine qC ?_
 have hx2:=hx.push (.cells [.bool (decide (OnB w ht))] true 1)
 refine FW.alD (startedB75 F.toFnsW.toFnsE (.of (hx2.wf hr.wf)) ((hs.ext hx2).log []) kerf hn (bl:=[decide (OnB w ht)]) (m:=1) (.mem ⟨Nat.lt_succ_self _,⟨_,_,_,z3 _ _,rfl⟩,rfl⟩ (Nat.le_refl _)) (by omega)) (fun v h' m q=>StartQ.logs v h' m q) ?_
 rintro _ h1 hx3 ⟨p,rfl,hst⟩
 rw[startE_one]at hst
 rw[startE_one]
 refine⟨_,by apply ra_dropC rfl;apply ra_dropC rfl;exact ra_nil,?_⟩
 have w1:WF h1:=hx3.wf (hx2.wf hr.wf)
 have hx13:Ext h h1:=hx2.trans hx3
 by_cases ha:asked kerf l (OnB w ht)=0
 ·obtain⟨bb,wa,wc,rfl,gb,hws⟩:=hst ha
  have hPa:=asked_zero ha
  obtain⟨q1,q2,q3,q4⟩:=chk_iff.1 hPa.1
  have hb:=hPa.2
  obtain⟨⟨e1,e2⟩,e3,e4⟩:=hPa.2
  obtain⟨wn,rfl⟩:=Int.eq_ofNat_of_zero_le (show 0≤w by omega)
  obtain⟨hn',rfl⟩:=Int.eq_ofNat_of_zero_le (show 0≤ht by omega)
  have hQ:∀v H,ValQ kerf l wn hn' v H=∃x,v= .tuple #[x, .int .i64 0]∧ListsAt H x (rowsV kerf l wn hn'):=fun v H=>by unfold ValQ;rw[ha,if_pos rfl];rfl
  rw[ha]
  refine qM ?_;refine qE ?_;refine qE ?_
  refine qM ?_;refine qM ?_;refine wD_nil ?_;refine y1 ?_;refine kS_n ?_;refine wE_seq ?_;refine y4 ?_
  refine yM ?_;refine yf ?_;refine y3 ?_;refine yX ?_;refine wE_skip ?_;refine kS_n ?_;refine y4 ?_
  refine yM ?_;refine yM ?_;refine yM ?_
  refine yC ?_
  refine FW.al (best83 F.toFnsW.toFnsV (.of w1) (w:=wn) (ht:=hn') (W:=1000000) (ws:=l.map (·.worth)) (by omega) (by omega) (by omega) ⟨by omega,by omega⟩ (by omega) (fun x hx=> ?_) gb ((hs.ext hx13).log []) (hws.log [])) (fun _ _ _ q=>q) ?_
  ·obtain⟨k,hk,rfl⟩:=List.mem_map.1 hx
   have:=(q3 k hk).2.2.2
   exact this
  rintro _ h2 hx4 ⟨r,rfl,gr⟩
  have hlg2:h2.log=[]:=(hx13.trans hx4).log.trans hr.log
  have wf2:WF h2:=hx4.wf w1
  have kr:=WF.get_lt wf2 gr
  have hnx:h.next≤h2.next:=Nat.le_trans hx13.next hx4.next
  refine wO_val a_new ?_;refine yS ?_;refine y3 ?_;refine y4 ?_;refine yM ?_
  refine wO_val (a_mkSlice (l:=wn) (c:=wn) (by exact rfl) (by exact rfl) (Nat.le_refl _) (by omega) (by omega) rfl) ?_
  refine wO_val a_new ?_;refine yS ?_
  refine y3 ?_;refine wE_seq ?_;refine y4 ?_;refine yM ?_;refine yM ?_
  refine WO.gen ?_
  intro hA hAe
  have A1:∀z,z<h2.next→hA.get z=h2.get z:=fun z hz=>by rw[hAe];simp(disch:=first|omega|(simp only[z1,z2];omega))only[z5,z4]
  have A10:hA.get h2.next=some (.cells [.map (some r)] true 1):=by rw[hAe];(simp(disch:=first|omega|(simp only[z1,z2];omega))only[z3,z4,z5,z6,z7,z1,z2, *];exact rfl)
  have Ao:hA.get (h2.next+1)=some (.cells (lrow wn [.slice none 0 0]) true 1):=by rw[hAe];(simp(disch:=first|omega|(simp only[z1,z2];omega)|(simp only[z1,z2];done)|fail)only[z8,z4,z5,z9,z7,z1,z2, *];exact rfl)
  have A11:hA.get (h2.next+2)=some (.cells [.slice (some ⟨h2.next+1,0,none⟩) wn wn] true 1):=by rw[hAe];(simp(disch:=first|omega|(simp only[z1,z2];omega)|(simp only[z1,z2];done)|fail)only[z8,z4,z5,z9,z7,z1,z2, *];exact rfl)
  have A5:hA.next=h2.next+3:=by rw[hAe];rfl
  have A6:hA.log=[]:=by rw[hAe];simp(disch:=first|omega|(simp only[z1,z2];omega))only[Heap.log_wr_new,Heap.log_push];exact hlg2
  have A7:WF hA:=by rw[hAe];exact((((wf2.push _).as (AS.wr _ _ _ _)).push _).push _).as (AS.wr _ _ _ _)
  clear hAe
  refine yC ?_
  refine FW.al (boards94 F.toFnsW.toFnsV.p F.toFnsW.toFnsV.f94 (.of A7) wn hn') (fun _ _ _ q=>q) ?_
  rintro _ h3 hx5 ⟨rfl,hn1,gp,gx⟩
  have eA:({hA with log:=[]}:Heap).next=h2.next+3:=A5
  rw[eA]at hn1 gp gx
  rw[eA]
  have B1:∀z,z<h2.next→h3.get z=h2.get z:=fun z hz=>(hx5.old z (by omega)).trans (A1 z hz)
  have B10:=(hx5.old _ (by omega)).trans A10
  have Bo:=(hx5.old _ (by omega)).trans Ao
  have B11:=(hx5.old _ (by omega)).trans A11
  have B6:h3.log=[]:=hx5.log.trans A6
  have B7:WF h3:=hx5.wf A7
  have gr3:=(B1 r kr).trans gr
  clear hx5 A1 A10 Ao A11 A6 A7
  have hp:=F.toFnsW.toFnsV.p
  refine y3 ?_;refine wE_block ?_
  refine wE_rangeK (lo:=h2.next+1) (P:=PV h3.next (h2.next+1) wn h3 (.loop [(10, .pointer (some ⟨h2.next,0,none⟩)),(11, .pointer (some ⟨h2.next+2,0,none⟩)),(33,fn2 136 (h2.next+3) (h2.next+4))] [34] asgN bodyN 0 .normal) (tabP kerf l wn hn') (boardsL wn hn')) rfl (by rfl) (by rw[F.f136];rfl) (by omega) (by omega) B6 B7 ?_ (fun H p=>⟨_,_,_,_,p.loop⟩) ?_
  ·have Y:YldK T (h2.next+1) (h3.next+1) h3.next (h2.next+1) boardV (boardsL wn hn') (PV h3.next (h2.next+1) wn h3 (.loop [(10, .pointer (some ⟨h2.next,0,none⟩)),(11, .pointer (some ⟨h2.next+2,0,none⟩)),(33,fn2 136 (h2.next+3) (h2.next+4))] [34] asgN bodyN 0 .normal) (tabP kerf l wn hn')):=by
    refine⟨by omega,fun done x rest H hsp hrH hN hP=> ?_,PV.stable (by omega)⟩
    obtain⟨p1,p2,p3,vs,p4,p5⟩:=hP
    have hxb:=boards_of (w:=wn) (h:=hn') (x:=x) (by rw[hsp];simp)
    obtain⟨x1,x2⟩:=x
    obtain⟨i,rfl⟩:∃i,x1=i+1:=⟨x1-1,by simp only at hxb;omega⟩
    simp only at hxb
    have hi:i<wn:=by omega
    obtain⟨v,hv,own⟩:=p5.own i hi
    have hdl:done.length<1000000:=by
     have h1:=congrArg List.length hsp
     rw[boardsL_len,List.length_append]at h1
     have h2:wn*hn'≤16*16:=Nat.mul_le_mul (by omega) (by omega)
     omega
    have hrl:=rowF_len (tabP kerf l wn hn') done i
    have hbl:∀q a k,v= .slice (some ⟨q,0,none⟩) a k→h3.next+1≤q:=fun q a k e=>(own_below own e).1
    refine FW.mono' (val_round hp hrH (i:=i) (b:=x2) (u:=tabP kerf l wn hn') hi (by omega) (show(rowF (tabP kerf l wn hn') done i).length<1000000 by omega) (Nat.le_refl (h2.next+1)) p2 ((p1 _ (by omega) (by omega)).trans B10) ((p1 _ (by omega) (by omega)).trans B11) ((p1 r (by omega) (by omega)).trans gr3) p4 p5.len hv (own.low (by omega)) (fun q a k e=>by have:=hbl q a k e;omega) (by omega) (by omega)) ?_
    rintro r' H' ⟨q1,q2,q3,q',q4,q5,q6,q7,q8⟩
    have hq':=own_below q6 rfl
    have hg:rowF (tabP kerf l wn hn') (done++[(i+1,x2)]) i=rowF (tabP kerf l wn hn') done i++[look (tabP kerf l wn hn') ((i+1:Nat),x2)]:=by rw[rowF_snoc,if_pos rfl]
    refine⟨q1,q2,q3,⟨_,_,_,q5,scalL_set rfl (by rw[p5.len];exact hi)⟩,fun z hz hne=>(q7 z (by omega) hne fun q a k e=>by have:=hbl q a k e;omega).trans (p1 z hz hne),(q7 _ p3 (by omega) fun q a k e=>by have:=hbl q a k e;omega).trans p2,by omega,_,q5,p5.up hi (by omega) hv q4 (by omega) ?_ (fun j hj=> ?_) fun z hz hz2 hq=>q7 z hz2 (by omega) hq⟩
    ·rw[hg,List.length_append]
     exact q6
    ·rw[rowF_snoc,if_neg (fun e=>hj (Nat.succ.inj e).symm)]
   exact boards136K hp F.f136 (.of (B7.push _)) (bw:=h2.next+3) (bh:=h2.next+4) (l:=h3.next) (N:=h3.next+1) (lo:=h2.next+1) (w:=wn) (ht:=hn') (Nat.le_refl _) (by show h2.next+1≤h3.next+1;omega) (by omega) (by omega) Y (fun d H hP=>(hP.old _ (by omega) (by omega)).trans gp) (fun d H hP=>(hP.old _ (by omega) (by omega)).trans gx)
    ⟨fun z hz _=>z4 hz,z3 _ _,Nat.lt_succ_self _,_,(z4 (by omega)).trans Bo,by rw[lrow_nils,List.length_replicate],fun i hi=>⟨.slice none 0 0,by rw[lrow_nils,lget_eq,List.getElem?_replicate,if_pos hi], .nil⟩,fun i j q a b c d _ e _=>by
     rw[lrow_nils,lget_eq,List.getElem?_replicate]at e
     split at e<;>cases e⟩
  intro h4 h5 k1 k2 k3 k4 k5 k6 hP
  obtain⟨p1,p2,p3,vs,p4,p5⟩:=hP
  have D11:=(k5 _ (by omega)).trans ((p1 (h2.next+2) (by omega) (by omega)).trans B11)
  refine kB_n ?_;refine kS_n ?_;refine y4 ?_;refine yL ?_;refine yM ?_;refine yM ?_;refine y3 ?_;refine wE_ret ?_
  refine endA_ret (vs:=[.slice (some ⟨h2.next+1,0,none⟩) wn wn, .int .i64 0]) k1 (by rfl) ?_
  rw[hQ]
  refine⟨_,rfl,?_⟩
  have:=ListsAt.mem (h:=h5) (b:=h2.next+1) (o:=0) (c:=wn) (rows:=rowsV kerf l wn hn') ((k5 _ (by omega)).trans p4) (by omega) fun i r e=>by
   obtain⟨hi,rfl⟩:=rowsV_of hPa.1 hb e
   obtain⟨v,hv,own⟩:=p5.own i hi
   have hrl:=rowF_len (tabP kerf l wn hn') (boardsL wn hn') i
   have hwh:wn*hn'≤16*16:=Nat.mul_le_mul (by omega) (by omega)
   rw[boardsL_len]at hrl
   refine⟨v,by rw[Nat.zero_add];exact hv,(own.keep (by omega) fun z hz _=>k5 z (by omega)).slice (by omega)⟩
  rw[show(rowsV kerf l wn hn').length=wn by simp[rowsV]]at this
  exact this
 ·refine qM ?_;refine qE ?_;refine qE ?_
  refine qM ?_;refine qM ?_;refine wD_nil ?_;refine y1 ?_;refine kS_n ?_;refine wE_seq ?_;refine y4 ?_
  refine yM ?_;refine yt ?_;refine y3 ?_;refine yY ?_;refine y4 ?_;refine yM ?_
  refine yM ?_;refine yM ?_;refine y3 ?_;refine wE_ret ?_;refine kS_r ?_
  exact endA_ret (vs:=[.slice none 0 0, .int .i64 (asked kerf l (OnB w ht))]) (hx13.log.trans hr.log) rfl ⟨_,rfl,by rw[if_neg ha];exact .nil⟩
end Go.A.Pk
end
section
set_option maxRecDepth 100000
namespace Go.A.Pk
variable {T:Nat→Option AFunc}
set_option maxHeartbeats 4000000 in
theorem sameInts48w(hp:primAS T)(hf:T 48=some f48){h:Heap}(hr:Rdy h){a b:Option Addr}{c d:Nat}{xs:List Int}(h1:SliceOf h 1 (.slice a xs.length c) xs.length (ints xs))(h2:SliceOf h 1 (.slice b xs.length d) xs.length (ints xs))(hn:xs.length<1000000):Pu T 48 [.slice a xs.length c, .slice b xs.length d] h (.bool true):=by
 refine .of hp hf hr rfl ?_
 refine y4 ?_;refine yM ?_;refine y3 ?_;refine wE_seq ?_;refine y4 ?_;refine yM ?_;refine yD ?_;refine yM ?_
 refine yD ?_;refine yf ?_;refine y3 ?_;refine yX ?_;refine wE_skip ?_;refine kS_n ?_;refine wE_seq ?_;refine y4 ?_
 refine yM ?_;refine y3 ?_;refine wE_block ?_
 refine wE_loop (fun m e ds h'=>∃i:Nat,i≤xs.length∧m=xs.length-i∧e=[(0, .slice a xs.length c),(1, .slice b xs.length d),(5, .int .i64 i)]∧ds=[]∧h'=h)
  ⟨0,Nat.zero_le _,rfl,rfl,rfl,rfl⟩ ?_
 rintro m e ds h' ⟨i,hin,rfl,rfl,rfl,rfl⟩
 by_cases hlt:i<xs.length
 ·rcases h1.inv with⟨_,_,h0,_⟩|⟨b1,o1,cap1,hv1,s1,hcap1⟩
  ·omega
  cases hv1
  rcases h2.inv with⟨_,_,h0,_⟩|⟨b2,o2,cap2,hv2,s2,hcap2⟩
  ·omega
  cases hv2
  obtain⟨vs,own,t,g1,g2⟩:=slice_elem1 s1 (ints_get (l:=xs) (i:=i) hlt)
  obtain⟨vs2,own2,t2,g3,g4⟩:=slice_elem1 s2 (ints_get (l:=xs) (i:=i) hlt)
  refine wE_seq ?_;refine y4 ?_;refine yM ?_;refine yM ?_;refine yD ?_;refine yt ?_;refine y3 ?_
  refine yY ?_;refine wE_skip ?_;refine kS_n ?_;refine wE_seq ?_;refine wE_block ?_;refine wE_seq ?_;refine wE_draw ?_;refine qM ?_;refine qM ?_
  refine wD_quiet rfl rfl rfl (by exact rfl) (by exact rfl) (by exact rfl) (a_iaddrS (by exact rfl) (by exact rfl) (by omega)) ?_;refine wD_quiet rfl rfl rfl (by exact rfl) (by exact rfl) (by exact rfl) (a_load (by exact rfl) (by assumption) (by assumption)) ?_;refine qM ?_
  refine qM ?_;refine wD_quiet rfl rfl rfl (by exact rfl) (by exact rfl) (by exact rfl) (a_iaddrS (by exact rfl) (by exact rfl) (by omega)) ?_;refine wD_quiet rfl rfl rfl (by exact rfl) (by exact rfl) (by exact rfl) (a_load (by exact rfl) (by assumption) (by assumption)) ?_
  refine wD_quiet rfl rfl rfl (by exact rfl) (by exact rfl) (by exact rfl) (a_num (by exact rfl) (by exact rfl) (by exact m_neqF (by omega))) ?_;refine wD_nil ?_;refine y1 ?_;refine kS_n ?_;refine yX ?_;refine wE_skip ?_;refine kB_n ?_;refine kS_n ?_;refine wE_region ?_
  refine yM ?_;refine yinc ?_;refine yM ?_;refine y3 ?_
  exact⟨xs.length-(i+1),by omega,i+1,by omega,rfl,rfl,rfl,rfl⟩
 ·obtain rfl:i=xs.length:=by omega
  refine wE_seq ?_;refine y4 ?_;refine yM ?_;refine yM ?_;refine yD ?_;refine yf ?_;refine y3 ?_
  refine yX ?_;refine wE_exit ?_;refine kS_e ?_;refine kS_e ?_;refine kB_e ?_;refine kS_n ?_;refine y4 ?_;refine yM ?_;refine y3 ?_;refine wE_ret ?_
  exact endP_ret hr.log rfl rfl
end Go.A.Pk
end
section
set_option maxRecDepth 100000
namespace Go.A.Pk
variable {T:Nat→Option AFunc}
theorem ListsAt.form{h:Heap}{v:Value}{rows:List (List Int)}(s:ListsAt h v rows):∃a c,v= .slice a rows.length c:=by
 cases s with
 |nil=>exact⟨_,_,rfl⟩
 |mem _ _ _=>exact⟨_,_,rfl⟩
theorem ListsAt.elem{h:Heap}{a:Option Addr}{n c:Nat}{rows:List (List Int)}(s:ListsAt h (.slice a n c) rows){i:Nat}{r:List Int}(hr:rows[i]? =some r):∃b o vs own t xa xc,a=some ⟨b,o,none⟩∧h.get b=some (.cells vs own t)∧b<h.next∧lget vs (o+i*1)=some (.slice xa r.length xc)∧SliceOf h 1 (.slice xa r.length xc) r.length (ints r):=by
 cases s with
 |nil=>cases hr
 | @mem b o _ vs own t _ g1 g2 g3=>
   obtain⟨x,h1,h2⟩:=g3 i r hr
   obtain⟨xa,xc,rfl⟩:=h2.form
   exact⟨b,o,vs,own,t,xa,xc,rfl,g1,g2,by rw[Nat.mul_one];exact h1,h2⟩
set_option maxHeartbeats 4000000 in
theorem sameLists37(hp:primAS T)(hf:T 37=some f37)(hf2:T 48=some f48){h:Heap}(hr:Rdy h){u v:Value}{rows:List (List Int)}(s1:ListsAt h u rows)(s2:ListsAt h v rows)(hn:rows.length<1000000)(hl:∀r∈rows,r.length<1000000):Pu T 37 [u,v] h (.bool true):=by
 obtain⟨a,c,rfl⟩:=s1.form
 obtain⟨b,d,rfl⟩:=s2.form
 refine .of hp hf hr rfl ?_
 refine y4 ?_;refine yM ?_;refine y3 ?_;refine wE_seq ?_;refine y4 ?_;refine yM ?_;refine yD ?_;refine yM ?_
 refine yD ?_;refine yf ?_;refine y3 ?_;refine yX ?_;refine wE_skip ?_;refine kS_n ?_;refine wE_seq ?_;refine y4 ?_
 refine yM ?_;refine y3 ?_;refine wE_block ?_
 refine wE_loop (fun m e ds h'=>∃i:Nat,i≤rows.length∧m=rows.length-i∧e=[(0, .slice a rows.length c),(1, .slice b rows.length d),(5, .int .i64 i)]∧ds=[]∧h'=h)
  ⟨0,Nat.zero_le _,rfl,rfl,rfl,rfl⟩ ?_
 rintro m e ds _ ⟨i,hi,rfl,rfl,rfl,rfl⟩
 by_cases hlt:i<rows.length
 ·obtain⟨r,hrow⟩:∃r,rows[i]? =some r:=⟨rows[i],List.getElem?_eq_getElem hlt⟩
  obtain⟨b1,o1,vs1,own1,t1,xa1,xc1,rfl,g1,_,e1,q1⟩:=s1.elem hrow
  obtain⟨b2,o2,vs2,own2,t2,xa2,xc2,rfl,g2,_,e2,q2⟩:=s2.elem hrow
  have hrl:=hl r (List.mem_of_getElem? hrow)
  refine wE_seq ?_;refine y4 ?_;refine yM ?_;refine yM ?_;refine yD ?_;refine yt ?_;refine y3 ?_
  refine yY ?_;refine wE_skip ?_;refine kS_n ?_;refine wE_seq ?_;refine wE_block ?_;refine wE_seq ?_;refine wE_draw ?_;refine qM ?_;refine qM ?_
  refine wD_quiet rfl rfl rfl (by exact rfl) (by exact rfl) (by exact rfl) (a_iaddrS (by exact rfl) (by exact rfl) (by omega)) ?_;refine wD_quiet rfl rfl rfl (by exact rfl) (by exact rfl) (by exact rfl) (a_load (by exact rfl) (by assumption) (by assumption)) ?_;refine qM ?_
  refine qM ?_;refine wD_quiet rfl rfl rfl (by exact rfl) (by exact rfl) (by exact rfl) (a_iaddrS (by exact rfl) (by exact rfl) (by omega)) ?_;refine wD_quiet rfl rfl rfl (by exact rfl) (by exact rfl) (by exact rfl) (a_load (by exact rfl) (by assumption) (by assumption)) ?_
  refine qC ?_
  refine FW.puD (sameInts48w hp hf2 (.of hr.wf) (q1.log []) (q2.log []) hrl) (by apply ra_dropC rfl;apply ra_dropC rfl;apply ra_dropC rfl;apply ra_dropC rfl;apply ra_dropC rfl;apply ra_dropC rfl;apply ra_dropC rfl;apply ra_dropC rfl;exact ra_nil) ?_
  refine wD_quiet rfl rfl rfl (by exact rfl) (by exact rfl) (by exact rfl) (a_not (by exact rfl)) ?_;refine wD_nil ?_;refine y1 ?_;refine kS_n ?_;refine yX ?_;refine wE_skip ?_;refine kB_n ?_;refine kS_n ?_;refine wE_region ?_;refine yM ?_
  refine yinc ?_;refine yM ?_;refine y3 ?_
  exact⟨rows.length-(i+1),by omega,i+1,by omega,rfl,rfl,rfl,rfl⟩
 ·obtain rfl:i=rows.length:=by omega
  refine wE_seq ?_;refine y4 ?_;refine yM ?_;refine yM ?_;refine yD ?_;refine yf ?_;refine y3 ?_
  refine yX ?_;refine wE_exit ?_;refine kS_e ?_;refine kS_e ?_;refine kB_e ?_;refine kS_n ?_;refine y4 ?_;refine yM ?_;refine y3 ?_;refine wE_ret ?_
  exact endP_ret hr.log rfl rfl
end Go.A.Pk
end
section
set_option maxRecDepth 100000
namespace Go.A.Pk
variable {T:Nat→Option AFunc}
def Nought(x:Int×Int):Prop:=x.1<1∨x.2<1
instance(x:Int×Int):Decidable (Nought x):=by unfold Nought;infer_instance
def never:Int:= -1099511627776
def leafW(ws:List Int)(kind:Nat)(x:Nat×Nat):Int:=if x.2=kind then ws.getD kind 0 else never
end Go.A.Pk
end
section
set_option maxRecDepth 100000
namespace Go.A.Pk
variable {T:Nat→Option AFunc}
theorem WD.gen{base:Nat}{ops:List AOper}{bf:List Nat}{rs:List Rec}{Q:Env→Heap→Prop}{is:List Nat}{e:Env}{h:Heap}(hK:∀hA,hA=h→WD T base ops bf Q is rs e hA):WD T base ops bf Q is rs e h:=hK h rfl
end Go.A.Pk
end
section
set_option maxRecDepth 100000
namespace Go.A.Pk
variable {T:Nat→Option AFunc}
theorem WE.gen{base:Nat}{rnd:Option Nat}{c:ACode}{Q:XQ}{e:Env}{ds:Dfs}{h:Heap}(hK:∀hA,hA=h→WE T base rnd c Q e ds hA):WE T base rnd c Q e ds h:=hK h rfl
end Go.A.Pk
end
section
namespace Go.A.Pk
def pos(t:Tab):Tab:=t.map fun e=>(e.1,if e.2<0 then 0 else e.2)
structure Bw (W:Int) (t:Tab):Prop where
 up:Bd W (pos t)
 low:∀e∈t,never≤e.2
end Go.A.Pk
end
section
set_option maxRecDepth 100000
namespace Go.A.Pk
variable {T:Nat→Option AFunc}
theorem pos_upd(x:Nat×Nat)(v:Int):∀t:Tab,pos (upd t x v)=upd (pos t) x (if v<0 then 0 else v)
 |[]=>rfl
 |e::t=>by
  have hk:isKey (x.1,x.2) (e.1,if e.2<0 then 0 else e.2)=isKey (x.1,x.2) e:=rfl
  simp only[upd,pos,List.map_cons,hk]
  split
  ·rfl
  ·simp only[List.map_cons]
   exact congrArg _ (pos_upd x v t)
theorem mem_upd{x:Nat×Nat}{v:Int}:∀{t:Tab} {e:(Nat×Nat)×Int},e∈upd t x v→e=(x,v)∨e∈t
 |[],e,h=>by simp only[upd,List.mem_singleton]at h;exact .inl h
 |e0::t,e,h=>by
  simp only[upd]at h
  split at h
  ·rcases List.mem_cons.1 h with h|h
   ·exact .inl h
   ·exact .inr (List.mem_cons_of_mem _ h)
  ·rcases List.mem_cons.1 h with h|h
   ·exact .inr (h▸List.mem_cons_self ..)
   ·exact(mem_upd h).imp id (List.mem_cons_of_mem _)
theorem Bw.upd{W:Int}{t:Tab}{x:Nat×Nat}{v:Int}(h:Bw W t)(hW:0≤W)(hx:1≤x.1∧1≤x.2)(hv:never≤v∧v≤W*((x.1:Int)*(x.2:Int))):Bw W (Pk.upd t x v)where
 up:=by
  rw[pos_upd]
  have h0:0≤W*((x.1:Int)*(x.2:Int)):=Int.mul_nonneg hW (Int.mul_nonneg (by omega) (by omega))
  exact upd_bd hx (by split<;>omega) h.up
 low:=fun e he=>by
  rcases mem_upd he with rfl|he
  ·exact hv.1
  ·exact h.low e he
end Go.A.Pk
end
section
namespace Go.A.Pk
def UF(kerf:Int)(ws:List Int)(kl:List Kd)(kind:Nat):Nat→Int×Int→Int
 |0,_=>never
 |n+1,p=>if 1≤p.1∧1≤p.2 then foldM (fun x=>mx (UF kerf ws kl kind n (oneB x p.1.toNat p.2.toNat)+V kerf ws kl (twoB kerf x p.1.toNat p.2.toNat)) (V kerf ws kl (oneB x p.1.toNat p.2.toNat)+UF kerf ws kl kind n (twoB kerf x p.1.toNat p.2.toNat))) (cutsL p.1.toNat p.2.toNat) (foldM (leafW ws kind) (leavesL p.1.toNat p.2.toNat kl 0) never)else never
variable {kerf:Int} {ws ws':List Int} {kl:List Kd} {kind:Nat}
def U(kerf:Int)(ws:List Int)(kl:List Kd)(kind:Nat)(p:Int×Int):Int:=UF kerf ws kl kind (sz p) p
theorem tab_look0(hk:0≤kerf){w h:Nat}(y:Int×Int):look (tabL kerf ws kl (boardsL w h)) y=if 1≤y.1∧y.1≤w∧1≤y.2∧y.2≤h then V kerf ws kl y else 0:=by
 have:=tab_look hk (ws:=ws) (kl:=kl) (h:=h) w 0 (Nat.zero_le _) y
 rw[show boardsL w h++row (w+1) 0=boardsL w h by simp[row]]at this
 rw[this]
 by_cases hc:1≤y.1∧y.1≤w∧1≤y.2∧y.2≤h
 ·rw[if_pos hc,if_pos (.inl hc)]
 ·rw[if_neg hc,if_neg (by omega)]
theorem tab_V(hk:0≤kerf){w h:Nat}(z:Int×Int)(hz:1≤z.1∧1≤z.2→z.1≤w∧z.2≤h):look (tabL kerf ws kl (boardsL w h)) z=V kerf ws kl z:=by
 rw[tab_look0 hk]
 by_cases hc:1≤z.1∧1≤z.2
 ·rw[if_pos (by omega)]
 ·rw[if_neg (by omega),V_out hc]
structure More (kind:Nat) (d:Int) (ws ws':List Int):Prop where
 pos:0≤d
 here:ws'.getD kind 0=ws.getD kind 0+d
 other:∀i,i≠kind→ws'.getD i 0=ws.getD i 0
theorem More.set{d:Int}(h0:0≤d)(hk:kind<ws.length):More kind d ws (ws.set kind (ws.getD kind 0+d))where
 pos:=h0
 here:=by simp[List.getD,hk]
 other:=fun i hi=>by simp[List.getD,List.getElem?_set_ne (Ne.symm hi)]
end Go.A.Pk
end
section
set_option maxRecDepth 100000
namespace Go.A.Pk
variable {T:Nat→Option AFunc}
theorem ints_len(l:List Int):(ints l).length=l.length:=by simp[ints]
end Go.A.Pk
end
section
namespace Go.A.Pk
def wsOf(l:List Kd):List Int:=l.map (·.worth)
def wsM(l:List Kd)(kind:Nat)(more:Int):List Int:=(wsOf l).set kind ((wsOf l).getD kind 0+more)
def kw(kerf:Int)(l:List Kd)(kind:Nat)(p:Int×Int)(more:Int):Int:=U kerf (wsM l kind more) l kind p
def kb(kerf:Int)(l:List Kd)(kind:Nat)(p:Int×Int)(more:Int):Int:=V kerf (wsM l kind more) l p
end Go.A.Pk
end
