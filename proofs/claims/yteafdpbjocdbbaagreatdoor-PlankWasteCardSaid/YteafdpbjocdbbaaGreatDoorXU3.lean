/- Walks of functions, plain laws, the table. -/
import Derived.Test.YteafdpbjocdbbaaGreatDoorXU2
import Derived.Test.YteafdpbjocdbbaaGreatDoorXU0
import Derived.Test.YteafdpbjocdbbaaGreatDoorXF
import Derived.Test.YteafdpbjocdbbaaGreatDoorXU1
import Derived.Test.YteafdpbjocdbbaaGreatDoorXD
set_option linter.all false
section
set_option maxRecDepth 100000
namespace Go.A.Pk
variable {T:Nat→Option AFunc}
theorem Vst.cast{lo bb:Nat}{h0 h:Heap}{ns ns':List (Nat×Int)}{wo wst de wo' wst' de':Int}{us us':List Int}(s:Vst lo bb h0 h ns wo wst de us)(e1:ns=ns')(e2:wo=wo')(e3:wst=wst')(e4:de=de')(e5:us=us'):Vst lo bb h0 h ns' wo' wst' de' us':=by
 subst e1 e2 e3 e4 e5
 exact s
theorem zip_assoc:∀(a b c:List Int),List.zipWith (· + ·) a (List.zipWith (· + ·) b c)=List.zipWith (· + ·) (List.zipWith (· + ·) a b) c
 |[],_,_=>by simp
 |_::_,[],_=>by simp
 |_::_,_::_,[]=>by simp
 |x::a,y::b,z::c=>by simp only[List.zipWith_cons_cons,zip_assoc a b c,Int.add_assoc]
theorem oneI_B{k i a b:Nat}:oneI (k,(i:Int)) ((a:Int),(b:Int))=oneB (k,i) a b:=by
 unfold oneI oneB
 dsimp only
theorem twoI_B{kerf:Int}{k i a b:Nat}:twoI kerf (k,(i:Int)) ((a:Int),(b:Int))=twoB kerf (k,i) a b:=by
 unfold twoI twoB
 dsimp only
theorem Vb.next{wo wst:Int}{us:List Int}{ns:List (Nat×Int)}{s:Sm}{m:Nat}(v:Vb wo wst us ns)(t:TB s m)(hm:m≤ns.length):Vb (wo+s.worth) (wst-s.cells) (List.zipWith (· + ·) us s.used) (ns.drop m):=by
 obtain⟨v1,v2,v3⟩:=v
 have hl:(ns.drop m).length=ns.length-m:=List.length_drop
 have t1:=t.worth
 have t2:=t.cells
 refine⟨by rw[hl];omega,by rw[hl];omega,fun u hu=> ?_⟩
 obtain⟨a,ha,b,hb,rfl⟩:=zip_mem hu
 have a1:=v3 a ha
 have b1:=t.used b hb
 rw[hl]
 omega
theorem Gp.mono{f:Nat}{args:List Value}{h:Heap}{S:Nat→Prop}{Q Q' Qp:Value→Heap→Prop}(H:Gp T f args h S Q Qp)(hq:∀v h',Q v h'→Q' v h'):Gp T f args h S Q' Qp:=
 CW.mono H fun r h' ⟨w,q⟩=>⟨w,q.elim (fun⟨v,e,q⟩=> .inl ⟨v,e,hq v h' q⟩) .inr⟩
abbrev visEnd(lo bb:Nat)(h0:Heap)(J:Sm×Nat)(ns:List (Nat×Int))(wo wst de dep:Int)(us:List Int):XQ:=endT [] (Sv lo) (fun v h1=>VQ lo bb h0 J ns wo wst de dep us v h1∧lo+6∈h1.log∧Dirty h1 (lo+6)) (VP lo J)
def vis4:ACode:=match vis2 with
 | .seq _ (.block _ (.seq _ (.cond _ _ (.seq _ (.cond _ (.seq _ c) _)))))=>c
 |c=>c
theorem VQ.log{lo bb:Nat}{h0:Heap}{r:Sm×Nat}{ns:List (Nat×Int)}{wo wst de dep:Int}{us:List Int}{v:Value}{h:Heap}(q:VQ lo bb h0 r ns wo wst de dep us v h)(m:List Nat):VQ lo bb h0 r ns wo wst de dep us v {h with log:=m}:=⟨q.1,q.2.1,q.2.2.log m⟩
theorem join_no{kerf size at1:Int}{one two:Sm×Nat}(h:one.1.ok=false):(joinS kerf size at1 one two).1.ok=false:=by
 unfold joinS
 rw[if_neg (by rw[h];exact Bool.false_ne_true)]
 rfl
theorem join_no2{kerf size at1:Int}{one two:Sm×Nat}(hn:¬size-at1-kerf<1)(h:two.1.ok=false):(joinS kerf size at1 one two).1.ok=false:=by
 unfold joinS
 rw[if_neg hn,if_neg (show¬two.1.ok=true by rw[h];exact Bool.false_ne_true)]
 split<;>rfl
theorem join_one{kerf size at1:Int}{one two:Sm×Nat}(hn:size-at1-kerf<1)(h:one.1.ok=true):joinS kerf size at1 one two=({one.1 with depth:=one.1.depth+1},one.2+1):=by
 unfold joinS
 rw[if_pos h,if_pos hn]
theorem join_two{kerf size at1:Int}{one two:Sm×Nat}(hn:¬size-at1-kerf<1)(h:one.1.ok=true)(h2:two.1.ok=true):joinS kerf size at1 one two=(⟨true,one.1.worth+two.1.worth,one.1.cells+two.1.cells,1+mx one.1.depth two.1.depth,List.zipWith (· + ·) one.1.used two.1.used⟩,1+one.2+two.2):=by
 unfold joinS
 rw[if_pos h,if_neg hn,if_pos h2]
set_option maxHeartbeats 32000000 in
theorem visit_cut2(F:FnsVs T){kerf:Int}{l:List Kd}(hc:chk kerf l=0){lo bb n0 f k1:Nat}{h0 h:Heap}
 {p one two:Int×Int}{x:Nat×Int}{ns:List (Nat×Int)}{dep wo wst de si i:Int}{us:List Int}(o1:1≤one.1∧one.1≤16)(o2:1≤one.2∧one.2≤16)(o3:one.1+one.2≤f)(t2a:two.1≤16∧two.2≤16)(t3:two.1+two.2≤f)(tn:(two.1<1∨two.2<1)↔si-i-kerf<1)
 (hdep:0≤dep∧dep+(f+1)≤1000)(hde:0≤de∧de≤3000)(hlen:ns.length≤1000)(hk:∀x∈ns,x.1<256)(hul:us.length=l.length)(hb:Vb wo wst us ns)(S:Stg lo bb n0 h0 h p x ns wo wst (mx de dep) us)
 (g10:h.get k1=some (.cells [.int .i64 one.1, .int .i64 one.2] true 1))(g11:h.get (k1+1)=some (.cells [.int .i64 two.1, .int .i64 two.2] true 1))(kn:n0+1<k1∧k1+1<h.next)
 (ih:∀(p:Int×Int) (ns:List (Nat×Int)) (h:Heap) (dep wo wst de:Int) (us:List Int),1≤p.1∧p.1≤16→1≤p.2∧p.2≤16→p.1+p.2≤f→(0≤dep∧dep+f≤1000)→(0≤de∧de≤3000)→ns.length≤1000→(∀x∈ns,x.1<256)→Rdy h→Vst lo bb h0 h ns wo wst de us→us.length=l.length→Vb wo wst us ns→
   Gp T 144 (vArgs lo p dep) h (Sv lo) (fun v h1=>VQ lo bb h0 (treeS kerf l f p ns) ns wo wst de dep us v h1∧lo+6∈h1.log∧Dirty h1 (lo+6)) (VP lo (treeS kerf l f p ns))):
 WE T n0 none vis4 (KB 0 (visEnd lo bb h0 (joinS kerf si i (treeS kerf l f one ns) (treeS kerf l f two (ns.drop (treeS kerf l f one ns).2))) (x::ns) wo wst de dep us))
  [(1, .int .i64 dep),(5, .pointer (some ⟨lo+2,0,none⟩)),(6, .pointer (some ⟨lo+7,0,none⟩)),(10, .pointer (some ⟨k1,0,none⟩)),(11, .pointer (some ⟨k1+1,0,none⟩))] [] h:=by
 have hn12:=(chk_iff.1 hc).1
 have T1:=tree_bd hc f one ns o1 o2
 have l8:=S.lo8
 have hde2:0≤mx de dep∧mx de dep≤3000:=by unfold mx;split<;>omega
 have C1:=ih one ns {h with log:=[]} (dep+1) wo wst (mx de dep) us o1 o2 o3 (by omega) hde2 hlen hk (.of S.wf) (S.st.log []) hul hb
 have gv:=S.st.vis
 generalize hr1:treeS kerf l f one ns=r1 at*
 obtain⟨one1,one2⟩:=one
 obtain⟨two1,two2⟩:=two
 dsimp only at g10 g11 T1
 unfold vArgs pairV at C1
 unfold vis4
 refine y4 ?_;refine yL ?_;refine yN ?_;refine yM ?_;refine yadd ?_
 refine yC ?_
 refine FW.gpk (Gp.mono C1 (Q':=fun v h'=>VQ lo bb h0 r1 ns wo wst (mx de dep) (dep+1) us v h'∧Dirty h' (lo+6)) fun v h' q=>⟨q.1,q.2.2⟩) (fun v h' m q=>⟨q.1.log m,q.2⟩) (fun v h' m q=>q) ?_ ?_
 ·rintro v h5 w5 l5 ⟨⟨rfl,ok1,V5⟩,d5⟩
  have S5:=S.call w5 l5 V5 d5
  have g11':=(w5.old (k1+1) kn.2 (by unfold Sv;omega)).trans g11
  have n5:=w5.next
  have C3:=nothing125n F.toFnsNd (h:={h5 with log:=[]}) (.of S5.wf) (two1,two2)
  have g6:=S5.st.out
  have gv5:=S5.st.vis
  have ml:(ns.drop r1.2).length=ns.length-r1.2:=List.length_drop
  have ul:(List.zipWith (· + ·) us r1.1.used).length=l.length:=by rw[List.length_zipWith,hul,T1.1.len];omega
  have hb5:=hb.next T1.1 T1.2
  have dp:=T1.1.depth
  have hde5:0≤mx (mx de dep) (dep+1+r1.1.depth)∧mx (mx de dep) (dep+1+r1.1.depth)≤3000:=by simp only[mx];(repeat' split)<;>omega
  unfold pairV at C3
  clear C1 g10 g11 gv V5 d5 w5 l5
  refine y3 ?_;refine wE_seq ?_;refine y4 ?_;refine yN ?_
  refine yC ?_
  refine FW.pu C3 ?_
  clear C3
  by_cases hn:two1<1∨two2<1
  ·have S6:=S5.setOut (wo+r1.1.worth) (wst-r1.1.cells) (mx (mx (mx de dep) (dep+1+r1.1.depth)) (dep+1))
   rw[decide_eq_true hn,join_one (tn.1 hn) ok1]
   refine y3 ?_;refine yY ?_;refine y4 ?_;refine yF ?_;refine yL ?_;refine yM ?_
   refine yadd ?_;refine wO_val (a_max (by exact rfl) (by exact rfl)) ?_;refine yF ?_;refine yS ?_;refine y3 ?_;refine wE_ret ?_;refine kS_r ?_;refine kB_r ?_
   exact endT_ret S6.lg1 rfl ⟨⟨rfl,ok1,S6.st.cast rfl rfl rfl (by simp only[mx];(repeat' split)<;>omega) rfl⟩,S6.lg2,S6.dty⟩
  ·have C2:=ih (two1,two2) (ns.drop r1.2) {h5 with log:=[]} (dep+1) _ _ _ _ ⟨by dsimp only;omega,t2a.1⟩ ⟨by dsimp only;omega,t2a.2⟩ t3 (by omega) hde5 (by omega) (fun x hx=>hk x (List.mem_of_mem_drop hx)) (.of S5.wf) (S5.st.log []) ul hb5
   rw[decide_eq_false hn]
   generalize hr2:treeS kerf l f (two1,two2) (ns.drop r1.2)=r2 at*
   unfold vArgs pairV at C2
   refine y3 ?_;refine yX ?_;refine wE_skip ?_;refine kS_n ?_;refine wE_region ?_;refine yL ?_;refine yN ?_
   refine yM ?_;refine yadd ?_
   refine yC ?_
   refine FW.gpk (Gp.mono C2 (Q':=fun v h'=>VQ lo bb h0 r2 (ns.drop r1.2) (wo+r1.1.worth) (wst-r1.1.cells) (mx (mx de dep) (dep+1+r1.1.depth)) (dep+1) (List.zipWith (· + ·) us r1.1.used) v h'∧Dirty h' (lo+6)) fun v h' q=>⟨q.1,q.2.2⟩) (fun v h' m q=>⟨q.1.log m,q.2⟩) (fun v h' m q=>q) ?_ ?_
   ·rintro v h7 w7 l7 ⟨⟨rfl,ok2,V7⟩,d7⟩
    have S7:=S5.call w7 l7 V7 d7
    rw[join_two (fun q=>hn (tn.2 q)) ok1 ok2]
    refine wO_nil ?_;refine y1 ?_;refine kB_n ?_
    refine endT_end S7.lg1 rfl ⟨⟨rfl,rfl,S7.st.cast ?_ (Int.add_assoc ..) (by dsimp only;omega) (by simp only[mx];(repeat' split)<;>omega) (zip_assoc ..).symm⟩,S7.lg2,S7.dty⟩
    rw[List.drop_drop,show 1+r1.2+r2.2=(r1.2+r2.2)+1 by omega]
    rfl
   ·rintro v h7 w7 ⟨rfl,nok,four⟩
    exact kR_p (kB_p (endT_pan (fun z hz=>(w7.log z hz).elim (S5.lg1 z) id) ⟨rfl,join_no2 (fun q=>hn (tn.2 q)) nok,four⟩))
 ·rintro v h5 w5 ⟨rfl,nok,four⟩
  exact kR_p (kS_p (kB_p (endT_pan (fun z hz=>(w5.log z hz).elim (S.lg1 z) id) ⟨rfl,join_no nok,four⟩)))
set_option maxHeartbeats 32000000 in
theorem visit_cut(F:FnsVs T){kerf:Int}{l:List Kd}(hc:chk kerf l=0){lo bb c wc n0 f:Nat}{sa wa:Option Addr}{h0 h:Heap}(hben:h0.get bb=some (.cells [.slice sa l.length c, .int .i64 kerf, .slice wa l.length wc] true 1))(hbb:bb<lo)
 {p:Int×Int}{x:Nat×Int}{ns:List (Nat×Int)}{dep wo wst de:Int}{us:List Int}(h1:1≤p.1∧p.1≤16)(h2:1≤p.2∧p.2≤16)(hf:p.1+p.2≤f+1)(hdep:0≤dep∧dep+(f+1)≤1000)(hde:0≤de∧de≤3000)(hlen:ns.length≤1000)(hk:∀x∈ns,x.1<256)(hul:us.length=l.length)(hb:Vb wo wst us ns)
 (hx1:x.1=3∨x.1=4)(hat:1≤x.2∧x.2≤sizeI x p-1)(S:Stg lo bb n0 h0 h p x ns wo wst (mx de dep) us)
 (ih:∀(p:Int×Int) (ns:List (Nat×Int)) (h:Heap) (dep wo wst de:Int) (us:List Int),1≤p.1∧p.1≤16→1≤p.2∧p.2≤16→p.1+p.2≤f→(0≤dep∧dep+f≤1000)→(0≤de∧de≤3000)→ns.length≤1000→(∀x∈ns,x.1<256)→Rdy h→Vst lo bb h0 h ns wo wst de us→us.length=l.length→Vb wo wst us ns→
   Gp T 144 (vArgs lo p dep) h (Sv lo) (fun v h1=>VQ lo bb h0 (treeS kerf l f p ns) ns wo wst de dep us v h1∧lo+6∈h1.log∧Dirty h1 (lo+6)) (VP lo (treeS kerf l f p ns))):
 WE T n0 none vis2 (visEnd lo bb h0 (joinS kerf (sizeI x p) x.2 (treeS kerf l f (oneI x p) ns) (treeS kerf l f (twoI kerf x p) (ns.drop (treeS kerf l f (oneI x p) ns).2))) (x::ns) wo wst de dep us) (vEnv lo n0 dep) [] h:=by
 obtain⟨hc1,hc2,hc3,hc4⟩:=chk_iff.1 hc
 obtain⟨p1,p2⟩:=p
 obtain⟨k,i⟩:=x
 dsimp only at h1 h2 hf hx1 hat⊢
 obtain⟨a,rfl⟩:=Int.eq_ofNat_of_zero_le (show 0≤p1 by omega)
 obtain⟨b,rfl⟩:=Int.eq_ofNat_of_zero_le (show 0≤p2 by omega)
 obtain⟨i,rfl⟩:=Int.eq_ofNat_of_zero_le (show 0≤i by omega)
 have hsz:sizeI (k,(i:Int)) ((a:Int),(b:Int))=if k=3 then(a:Int)else b:=rfl
 have h1s:sizeI (k,(i:Int)) ((a:Int),(b:Int))≤16:=by rw[hsz];split<;>omega
 have o1:1≤(oneI (k,(i:Int)) ((a:Int),(b:Int))).1∧(oneI (k,(i:Int)) ((a:Int),(b:Int))).1≤16:=by unfold oneI;split<;>dsimp only<;>omega
 have o2:1≤(oneI (k,(i:Int)) ((a:Int),(b:Int))).2∧(oneI (k,(i:Int)) ((a:Int),(b:Int))).2≤16:=by unfold oneI;split<;>dsimp only<;>omega
 have o3:(oneI (k,(i:Int)) ((a:Int),(b:Int))).1+(oneI (k,(i:Int)) ((a:Int),(b:Int))).2≤f:=by
  rw[hsz]at hat
  unfold oneI
  split<;>rename_i q<;>dsimp only at q⊢
  ·rw[if_pos q]at hat;omega
  ·rw[if_neg q]at hat;omega
 have t2a:(twoI kerf (k,(i:Int)) ((a:Int),(b:Int))).1≤16∧(twoI kerf (k,(i:Int)) ((a:Int),(b:Int))).2≤16:=by
  unfold twoI;split<;>dsimp only<;>omega
 have t3:(twoI kerf (k,(i:Int)) ((a:Int),(b:Int))).1+(twoI kerf (k,(i:Int)) ((a:Int),(b:Int))).2≤f:=by
  unfold twoI;split<;>dsimp only<;>omega
 have tn:((twoI kerf (k,(i:Int)) ((a:Int),(b:Int))).1<1∨(twoI kerf (k,(i:Int)) ((a:Int),(b:Int))).2<1)↔sizeI (k,(i:Int)) ((a:Int),(b:Int))-i-kerf<1:=by
  rw[hsz]
  unfold twoI
  split<;>dsimp only<;>omega
 have CS:=split106 F.toFnsC.p F.f106 (h:={h with log:=[]}) (.of S.wf) (bb:=bb) ((S.st.old bb hbb).trans hben) (by have:=S.nx;have:=S.lo8;show bb<h.next;omega) (kerf:=kerf) ⟨hc2.1,by omega⟩ (x:=(k,i)) (a:=a) (b:=b) hx1 (by dsimp only;omega) (by omega) (by omega)
 have TB1:=tree_bd hc f (oneI (k,(i:Int)) ((a:Int),(b:Int))) ns o1 o2
 rw[←oneI_B,←twoI_B]at CS
 generalize hone:oneI (k,(i:Int)) ((a:Int),(b:Int))=one at*
 generalize htwo:twoI kerf (k,(i:Int)) ((a:Int),(b:Int))=two at*
 generalize hsi:sizeI (k,(i:Int)) ((a:Int),(b:Int))=si at*
 obtain⟨one1,one2⟩:=one
 obtain⟨two1,two2⟩:=two
 have nx:=S.nx
 have l8:=S.lo8
 have g9:=S.gn
 have g7:=S.gx
 have g4:=S.st.bx
 dsimp only at g9 g7
 unfold boardV nodeV pairV at CS
 clear hone htwo hsi hsz hben
 unfold vis2 vEnv
 rcases hx1 with rfl|rfl
 ·refine y4 ?_;refine yF ?_;refine yL ?_;refine y3 ?_;refine wE_block ?_;refine wE_seq ?_;refine y4 ?_
  refine yf ?_;refine yM ?_;refine y3 ?_;refine yX ?_;refine wE_region ?_;refine yf ?_
  refine yM ?_;refine y3 ?_;refine yX ?_;refine wE_seq ?_;refine y4 ?_;refine yt ?_;refine yM ?_
  refine y3 ?_;refine yY ?_;refine wE_skip ?_;refine kS_n ?_;refine yY ?_;refine y4 ?_;refine yL ?_
  refine yN ?_;refine yN ?_
  refine yC ?_
  refine FW.pu CS ?_
  clear CS
  refine yM ?_
  refine yE ?_
  refine yE ?_
  refine wO_val a_new ?_
  refine wO_val a_new ?_
  refine yS ?_
  refine yS ?_
  refine y3 ?_
  exact visit_cut2 F hc o1 o2 o3 t2a t3 tn hdep hde hlen hk hul hb (S.ext ((((Ext.refl h).push _).push _).wr (Nat.le_refl _) (by omega)|>.wr (Nat.le_succ _) (by(simp only[z1,z2];omega)))) (by(simp(disch:=first|omega|(simp only[z1,z2];omega))only[z3,z4,z5,z6,z7,z1,z2, *];exact rfl)) (by(simp(disch:=first|omega|(simp only[z1,z2];omega)|(simp only[z1,z2];done)|fail)only[z8,z4,z5,z9,z7,z1,z2, *];exact rfl)) ⟨nx,by(simp only[z1,z2];omega)⟩ ih
 ·refine y4 ?_;refine yF ?_;refine yL ?_;refine y3 ?_;refine wE_block ?_;refine wE_seq ?_;refine y4 ?_
  refine yf ?_;refine yM ?_;refine y3 ?_;refine yX ?_;refine wE_region ?_;refine yf ?_
  refine yM ?_;refine y3 ?_;refine yX ?_;refine wE_seq ?_;refine y4 ?_;refine yf ?_;refine yM ?_
  refine y3 ?_;refine yX ?_;refine wE_region ?_;refine yt ?_;refine yM ?_;refine y3 ?_;refine yY ?_;refine y4 ?_;refine yL ?_;refine yN ?_
  refine yN ?_
  refine yC ?_
  refine FW.pu CS ?_
  clear CS
  refine yM ?_
  refine yE ?_
  refine yE ?_
  refine wO_val a_new ?_
  refine wO_val a_new ?_
  refine yS ?_
  refine yS ?_
  refine y3 ?_
  exact visit_cut2 F hc o1 o2 o3 t2a t3 tn hdep hde hlen hk hul hb (S.ext ((((Ext.refl h).push _).push _).wr (Nat.le_refl _) (by omega)|>.wr (Nat.le_succ _) (by(simp only[z1,z2];omega)))) (by(simp(disch:=first|omega|(simp only[z1,z2];omega))only[z3,z4,z5,z6,z7,z1,z2, *];exact rfl)) (by(simp(disch:=first|omega|(simp only[z1,z2];omega)|(simp only[z1,z2];done)|fail)only[z8,z4,z5,z9,z7,z1,z2, *];exact rfl)) ⟨nx,by(simp only[z1,z2];omega)⟩ ih
end Go.A.Pk
end
section
set_option maxRecDepth 100000
namespace Go.A.Pk
variable {T:Nat→Option AFunc}
theorem z12_rep:z12=List.replicate 12 0:=rfl
theorem zip_zero{us:List Int}(h:us.length≤12):List.zipWith (· + ·) us z12=us:=by
 rw[z12_rep]
 apply List.ext_getElem
 ·simp;omega
 ·intro i h1 h2
  simp only[List.getElem_zipWith,List.getElem_replicate]
  omega
theorem zip_one{us:List Int}{i:Nat}(h:us.length≤12)(hi:i<us.length):List.zipWith (· + ·) us (z12.set i 1)=us.set i (us.getD i 0+1):=by
 rw[z12_rep]
 apply List.ext_getElem
 ·simp;omega
 ·intro j h1 h2
  simp only[List.getElem_zipWith,List.getElem_set,List.getElem_replicate]
  split
  ·rename_i e
   subst e
   rw[List.getD_eq_getElem?_getD,List.getElem?_eq_getElem hi]
   rfl
  ·omega
theorem tree_no{kerf:Int}{l:List Kd}{f:Nat}{p:Int×Int}{x:Nat×Int}{ns:List (Nat×Int)}(k4:x.1≤4)(h:okN l p x=false):(treeS kerf l (f+1) p (x::ns)).1.ok=false:=by
 rw[treeS]
 unfold okN at h
 by_cases h3:x.1=3∨x.1=4
 ·rw[if_neg (by omega),if_neg (by omega)]at h
  rw[if_pos h3,if_neg (of_decide_eq_false h)]
  rfl
 ·rw[if_neg h3,nodeS]
  by_cases h0:x.1=0
  ·rw[if_pos h0]at h⊢
   exact h
  ·rw[if_neg h0]at h⊢
   by_cases h1:x.1=1∨x.1=2
   ·rw[if_pos h1]at h⊢
    exact h
   ·omega
theorem tree_zero{kerf:Int}{l:List Kd}{f:Nat}{p:Int×Int}{x:Nat×Int}{ns:List (Nat×Int)}(h0:x.1=0)(h:okN l p x=true):treeS kerf l (f+1) p (x::ns)=({sm0 with ok:=true},1):=by
 unfold okN at h
 rw[if_pos h0]at h
 rw[treeS,if_neg (by omega),nodeS,if_pos h0,h]
theorem tree_cutE{kerf:Int}{l:List Kd}{f:Nat}{p:Int×Int}{x:Nat×Int}{ns:List (Nat×Int)}(h3:x.1=3∨x.1=4)(h:okN l p x=true):(1≤x.2∧x.2≤sizeI x p-1)∧treeS kerf l (f+1) p (x::ns)=joinS kerf (sizeI x p) x.2 (treeS kerf l f (oneI x p) ns) (treeS kerf l f (twoI kerf x p) (ns.drop (treeS kerf l f (oneI x p) ns).2)):=by
 unfold okN at h
 rw[if_neg (by omega),if_neg (by omega)]at h
 have h:=of_decide_eq_true h
 exact⟨h,by rw[treeS,if_pos h3,if_pos h]⟩
theorem tree_plankE{kerf:Int}{l:List Kd}{f:Nat}{p:Int×Int}{x:Nat×Int}{ns:List (Nat×Int)}(h1:x.1=1∨x.1=2)(h:okN l p x=true):∃i k,x.2=((i:Nat):Int)∧l[i]? =some k∧treeS kerf l (f+1) p (x::ns)=(⟨true,k.worth,p.1*p.2,0,z12.set i 1⟩,1):=by
 unfold okN at h
 rw[if_neg (by omega),if_pos h1]at h
 obtain⟨x1,x2⟩:=x
 by_cases hk:0≤x2∧x2<(l.length:Int)
 ·obtain⟨i,rfl⟩:=Int.eq_ofNat_of_zero_le hk.1
  have hi:i<l.length:=by omega
  have hkl:l[i]? =some l[i]:=List.getElem?_eq_getElem hi
  refine⟨i,l[i],rfl,hkl,?_⟩
  rw[plank_at hkl]at h
  dsimp only at h1
  rw[treeS,if_neg (by dsimp only;omega),nodeS,if_neg (by dsimp only;omega),if_pos h1,plankS,if_pos (by dsimp only;omega)]
  dsimp only
  rw[Int.toNat_natCast,hkl]
  dsimp only
  rw[h]
 ·rw[plank_no hk]at h
  cases h
set_option maxHeartbeats 64000000 in
theorem visit144(F:FnsVs T){kerf:Int}{l:List Kd}(hc:chk kerf l=0){lo bb c wc:Nat}{sa wa:Option Addr}{h0:Heap}(hlo:h0.next=lo)(hben:h0.get bb=some (.cells [.slice sa l.length c, .int .i64 kerf, .slice wa l.length wc] true 1))(hbb:bb<lo)
 (hks:SliceOf h0 5 (.slice sa l.length c) l.length (kcs l))(hws:SliceOf h0 1 (.slice wa l.length wc) l.length (ints (wsP l))):∀(f:Nat) (p:Int×Int) (ns:List (Nat×Int)) (h:Heap) (dep wo wst de:Int) (us:List Int),
 1≤p.1∧p.1≤16→1≤p.2∧p.2≤16→p.1+p.2≤f→(0≤dep∧dep+f≤1000)→(0≤de∧de≤3000)→ns.length≤1000→(∀x∈ns,x.1<256)→Rdy h→Vst lo bb h0 h ns wo wst de us→us.length=l.length→Vb wo wst us ns→
 Gp T 144 (vArgs lo p dep) h (Sv lo) (fun v h1=>VQ lo bb h0 (treeS kerf l f p ns) ns wo wst de dep us v h1∧lo+6∈h1.log∧Dirty h1 (lo+6)) (VP lo (treeS kerf l f p ns)):=by
 intro f
 induction f with
 |zero=>intro p ns h dep wo wst de us h1 h2 hf;omega
 |succ f ih=>
  intro p ns h dep wo wst de us h1 h2 hf hdep hde hlen hk hr s hul hb
  have hp:=F.toFnsC.p
  have nx:=s.nx
  refine Gp.ofK hp F.f144 (show lo+6<h.next by omega) ?_
  have s1:Vst lo bb h0 (h.push (.cells [.int .i64 p.1, .int .i64 p.2] true 1)) ns wo wst de us:=s.ext ((Ext.refl h).push _)
  obtain⟨v,hR,r⟩:=s.rest
  obtain⟨p1,p2⟩:=p
  cases ns with
  |nil=>
   obtain⟨qa,qc,rfl,hcap⟩:=r.cap
   unfold vArgs pairV
   refine y4 ?_;refine yB ?_;refine y3 ?_;refine y4 ?_
   refine yL ?_;refine yD ?_;refine wO_val (a_num (by exact rfl) (by exact rfl) (by exact m_geq)) ?_
   refine yM ?_;refine yP ?_;refine yP ?_;refine yP ?_;refine yP ?_;refine yP ?_;refine yP ?_;refine yU ?_
   refine yC ?_
   refine FW.pan (need_no F.toFnsNd) ?_
   refine kR_p (kS_p (endT_pan (by rw[Heap.log_push,hr.log];simp) ⟨rfl,rfl,s1.four⟩))
  |cons x ns=>
   rcases r.sl.inv with⟨_,_,hz,_⟩|⟨b,o,cap,hv,sl,hc2⟩
   ·simp at hz
   have r':=r
   subst hv
   obtain⟨vs,own,t,g1,g2⟩:=first_node sl
   obtain⟨n1,n2⟩:=node_get g2
   have n1':lget vs (o+0*2+0)=some (.int .u8 x.1):=n1
   have kb:=sl.lt
   have hx256:=hk x (List.mem_cons_self ..)
   simp only[List.length_cons]at hR hlen
   by_cases k4:x.1≤4
   ·unfold vArgs pairV
    refine y4 ?_;refine yB ?_;refine y3 ?_;refine y4 ?_
    refine yL ?_;refine yD ?_
    refine yt ?_;refine yM ?_;refine yO ?_
    refine yL ?_;refine yO ?_
    refine wO_val (a_iaddrS (i:=0) (by exact rfl) (by exact rfl) (by omega)) ?_
    refine yO ?_;refine yF ?_;refine yO ?_;refine wO_val (a_load (by exact rfl) (by(simp(disch:=first|omega|(simp only[z1,z2];omega))only[z3,z4,z5,z6,z7,z1,z2, *];exact rfl)) (by assumption)) ?_
    refine yO ?_;refine wO_val (a_conv (by exact rfl) (by exact wrapA_i64 (by omega) (by omega))) ?_;refine yO ?_;refine yt ?_;refine yT ?_
    refine yC ?_
    refine FW.pu (need_ok F.toFnsNd (.of ((hr.wf).push _))) ?_
    refine y3 ?_;refine y4 ?_
    refine yL ?_
    refine wO_val (a_iaddrS (i:=0) (by exact rfl) (by exact rfl) (by omega)) ?_
    refine wO_val (a_loadN (by exact rfl) (by(simp(disch:=first|omega|(simp only[z1,z2];omega))only[z3,z4,z5,z6,z7,z1,z2, *];exact rfl)) g2 (by exact rfl)) ?_
    refine wO_val a_new ?_;refine yS ?_
    refine y3 ?_;refine y4 ?_
    refine yL ?_
    refine WO.gen ?_
    intro hA hAe
    have xA:Ext h hA:=by rw[hAe];exact(((Ext.refl h).push _).push _).wr (by(simp only[z1,z2];omega)) (by(simp only[z1,z2];omega))
    have gx:hA.get h.next=some (.cells [.int .i64 p1, .int .i64 p2] true 1):=by rw[hAe];(simp(disch:=first|omega|(simp only[z1,z2];omega))only[z3,z4,z5,z6,z7,z1,z2, *];exact rfl)
    have gn:hA.get (h.next+1)=some (.cells [.int .u8 x.1, .int .i64 x.2] true 1):=by rw[hAe];(simp(disch:=first|omega|(simp only[z1,z2];omega)|(simp only[z1,z2];done)|fail)only[z8,z4,z5,z9,z7,z1,z2, *];exact rfl)
    have nA:h.next+1<hA.next:=by rw[hAe];(simp only[z1,z2];omega)
    have wA:=xA.wf hr.wf
    have lA:=xA.log.trans hr.log
    have sA:=s.ext xA
    have rA:=r'.ext xA
    clear hAe s1 g1 g2 n1 n1' n2 kb hR r r' sl xA
    refine wO_slice1 rA (by omega) (by exact rfl) (by exact rfl) (fun z hz=>by unfold Sv at hz;omega) ?_
    rintro _ hB xB ⟨b',o',n',c',rfl⟩ rB
    have hR2:∃v,hB.get (lo+6)=some (.cells [v] true 1):=(sA.ext xB).rest.imp fun _ q=>q.1
    obtain⟨v,hR2⟩:=hR2
    have nB:=xB.next
    refine yS ?_
    refine y3 ?_
    refine WE.genT ?_
    intro hC hCe
    have S1:Stg lo bb h.next h0 hC (p1,p2) x ns wo wst de us:=by
     rw[hCe]
     exact .start (sA.ext xB) (xB.wf wA) rB (xB.log.trans lA) ((xB.old _ (by omega)).trans gx) ((xB.old _ (by omega)).trans gn) (by omega) nx
    clear hCe sA rA rB xB hR2 v gx gn nA wA lA
    have hn12:=(chk_iff.1 hc).1
    have hx0:=hb.wo
    have hx1:=hb.wst
    have hx2:=hb.us
    simp only[List.length_cons]at hx0 hx1 hx2
    refine visit_draw F hc hlo hben hbb hks h1 h2 k4 S1 (fun hok=> ?_) (fun hno=> ?_)
    ·refine visit_depth S1 fun hD S2=> ?_
     by_cases h3:x.1=3∨x.1=4
     ·obtain⟨hat,hT⟩:=tree_cutE (kerf:=kerf) (f:=f) (ns:=ns) h3 hok
      rw[hT]
      exact visit_cut F hc hben hbb h1 h2 (by omega) (by omega) hde (by omega) (fun y hy=>hk y (List.mem_cons_of_mem _ hy)) hul ⟨by omega,by omega,fun u hu=>by have:=hx2 u hu;omega⟩ h3 hat S2 ih
     ·by_cases h12:x.1=1∨x.1=2
      ·obtain⟨i,k,hxi,hkl,hT⟩:=tree_plankE (kerf:=kerf) (f:=f) (ns:=ns) h12 hok
       rw[hT]
       have hi:i<l.length:=(List.getElem?_eq_some_iff.1 hkl).1
       refine visit_plank hc hlo hben hbb hws h1 h2 h12 hxi hkl hul (by omega) (by omega) (fun u hu=>by have:=hx2 u hu;omega) S2 fun h' S3=> ?_
       exact endT_end S3.lg1 rfl ⟨⟨rfl,rfl,S3.st.cast rfl rfl rfl (by dsimp only;rw[Int.add_zero]) (zip_one (by omega) (by omega)).symm⟩,S3.lg2,S3.dty⟩
      ·have h00:x.1=0:=by omega
       rw[tree_zero h00 hok]
       have gn:=S2.gn
       obtain⟨x1,x2⟩:=x
       dsimp only at h00
       subst h00
       unfold vis2 vEnv
       refine y4 ?_;refine yF ?_;refine yL ?_;refine y3 ?_;refine wE_block ?_;refine wE_seq ?_;refine y4 ?_
       refine yf ?_;refine yM ?_;refine y3 ?_;refine yX ?_;refine wE_region ?_;refine yf ?_
       refine yM ?_;refine y3 ?_;refine yX ?_;refine wE_seq ?_;refine y4 ?_;refine yf ?_;refine yM ?_
       refine y3 ?_;refine yX ?_;refine wE_region ?_;refine yf ?_;refine yM ?_;refine y3 ?_;refine yX ?_;refine wE_skip ?_;refine kB_n ?_
       exact endT_end S2.lg1 rfl ⟨⟨rfl,rfl,S2.st.cast rfl (Int.add_zero _).symm (Int.sub_zero _).symm (by show _=mx de (dep+0);rw[Int.add_zero]) (zip_zero (by omega)).symm⟩,S2.lg2,S2.dty⟩
    ·exact endT_pan S1.lg1 ⟨rfl,tree_no k4 hno,S1.st.four⟩
   ·unfold vArgs pairV
    have hT:(treeS kerf l (f+1) (p1,p2) (x::ns)).1.ok=false:=by
     rw[treeS,if_neg (by omega),nodeS,if_neg (by omega),if_neg (by omega)]
     rfl
    refine y4 ?_;refine yB ?_;refine y3 ?_;refine y4 ?_
    refine yL ?_;refine yD ?_
    refine yt ?_;refine yM ?_;refine yO ?_
    refine yL ?_;refine yO ?_
    refine wO_val (a_iaddrS (i:=0) (by exact rfl) (by exact rfl) (by omega)) ?_
    refine yO ?_;refine yF ?_;refine yO ?_;refine wO_val (a_load (by exact rfl) (by(simp(disch:=first|omega|(simp only[z1,z2];omega))only[z3,z4,z5,z6,z7,z1,z2, *];exact rfl)) (by assumption)) ?_
    refine yO ?_;refine wO_val (a_conv (by exact rfl) (by exact wrapA_i64 (by omega) (by omega))) ?_;refine yO ?_;refine yf ?_;refine yT ?_
    refine yC ?_
    refine FW.pan (need_no F.toFnsNd) ?_
    refine kR_p (kS_p (endT_pan (by rw[Heap.log_push,hr.log];simp) ⟨rfl,hT,s1.four⟩))
end Go.A.Pk
end
section
set_option maxRecDepth 100000
namespace Go.A.Pk
variable {T:Nat→Option AFunc} {base:Nat} {rnd:Option Nat} {Q:XQ} {e:Env} {ds:Dfs} {h:Heap}
theorem wO_dfer{dst:Option Nat}{op:AOp}{os:List AOper}{f:Value}{args:List Value}(ho:aop h base e op=some (.dfer f args))(H:WO T base none Q os (dstE e dst (.tuple #[])) ((f,args)::ds) h):WO T base none Q (⟨dst,op,none⟩::os) e ds h:=by
 obtain⟨x,e',ds',h',⟨m,h1⟩,h2⟩:=H.ok
 exact⟨x,e',ds',h',⟨m+1,fun n hn=>by
  obtain⟨k,rfl⟩:∃k,n=k+1:=⟨n-1,by omega⟩
  simp only[aops,wantedA,ho];exact h1 k (by omega)⟩,h2⟩
theorem merge_mem2{base z:Nat}:∀{m l:List Nat},z∈mergeLog base l m→z∈l∨(z∈m∧z<base)
 |[],l,h=> .inl h
 |b::m,l,h=>by
  simp only[mergeLog]at h
  rcases merge_mem2 (m:=m) h with h|⟨h,hb⟩
  ·revert h
   cases hc:Nat.blt b base with
   |true=>
    have hb:b<base:=by rw[blt_eq]at hc;simpa using hc
    simp only[cond_true]
    cases hl:lhas l b with
    |true=>simp only[cond_true];exact .inl
    |false=>
     simp only[cond_false]
     intro h
     rcases List.mem_cons.1 h with rfl|h
     ·exact .inr ⟨List.mem_cons_self ..,hb⟩
     ·exact .inl h
   |false=>simp only[cond_false];exact .inl
  ·exact .inr ⟨List.mem_cons_of_mem _ h,hb⟩
theorem FW.gpb{f:Nat}{args:List Value}{S:Nat→Prop}{Q' Qp:Value→Heap→Prop}{K:Env→Dfs→Heap→Prop}{dst:Option Nat}(H:Gp T f args {h with log:=[]} S Q' Qp)(hS:∀z,S z→base≤z)(hl:h.log=[])(hlog:∀v (h':Heap) l,Q' v h'→Q' v {h' with log:=l})(hlogp:∀v (h':Heap) l,Qp v h'→Qp v {h' with log:=l})
 (hK:∀v h',Ws S h h'→h'.log=[]→Q' v h'→K (dstE e dst v) ds h')(hP:∀v h',Ws S h h'→h'.log=[]→Qp v h'→Q (.panic v) e ds h'):FW T (.func f) args {h with log:=[]} (KO K Q base dst e ds h.log):=by
 refine .func (CW.mono H ?_)
 rintro r h2 ⟨hx,hq⟩
 have hlz:mergeLog base h.log h2.log=[]:=by
  rw[List.eq_nil_iff_forall_not_mem]
  intro z hz
  rcases merge_mem2 hz with q|⟨q,hb⟩
  ·rw[hl]at q;cases q
  ·rcases hx.log z q with q|q
   ·cases q
   ·have:=hS z q;omega
 rcases hq with⟨v,rfl,hq⟩|⟨v,rfl,hq⟩
 ·exact⟨hK v _ hx.call hlz (hlog v h2 _ hq)⟩
 ·exact⟨hP v _ hx.call hlz (hlogp v h2 _ hq)⟩
theorem lrow_zero:∀n,lrow n [.int .i64 0]=ints (List.replicate n 0)
 |0=>rfl
 |n+1=>by
  have ih:=lrow_zero n
  rw[List.replicate_succ]
  show lrow (n+1) [.int .i64 0]= .int .i64 0::ints (List.replicate n 0)
  rw[←ih]
  rfl
theorem wD_mkSlice{ops:List AOper}{bf:List Nat}{rs rs':List Rec}{Q:Env→Heap→Prop}{i mask n:Nat}{is:List Nat}{dst:Option Nat}{g:Option (Nat×Bool)}{er:Env}{x y:Operand}(ho:lget ops i=some ⟨dst, .mkSlice [.int .i64 0] 8 x y,g⟩)(hm:lget bf i=some mask)(he:keepE e (slotsA ⟨dst, .mkSlice [.int .i64 0] 8 x y,g⟩)=er)(hw:wantedA er g=some true)
 (hx:ev {h with log:=[]} er x=some (.int .i64 (n:Nat)))(hy:ev {h with log:=[]} er y=some (.int .i64 (n:Nat)))(hn:n<1000)(hrs:recsAfter (h.push (.cells (ints (List.replicate n 0)) true 1)) base [] mask rs=some rs')
 (H:WD T base ops bf Q is rs' (dstE e dst (.slice (some ⟨h.next,0,none⟩) n n)) (h.push (.cells (ints (List.replicate n 0)) true 1))):WD T base ops bf Q (i::is) rs e h:=by
 rw[←lrow_zero]at hrs H
 exact wD_actH ho hm he hw rfl (a_mkSlice (h:={h with log:=[]}) hx hy (Nat.le_refl _) (by omega) (by omega) rfl) (eq_push _) (lg_push _) hrs H
def zero4:List Value:=[.int .i64 0, .int .i64 0, .int .i64 0, .slice none 0 0]
theorem defer_ok(hf:T 142=some f142){O K:Nat}:DW T 142 [.pointer (some ⟨O,0,none⟩), .pointer (some ⟨K,0,none⟩)] none h fun p h'=>p=none∧h'=h:=by
 refine .of hf ?_
 refine sE_seq (sE_region (sO_recN (sO_val (a_mov (by exact rfl)) (sO_nil ⟨rfl,?_⟩))))
 refine sE_seq (sE_region (sO_val (a_mov (by exact rfl)) (sO_val (show aop h h.next _ (.bin (.nil .iface true) (.tmp 6) (.const .nilIface))=some (.val (.bool false) h)from rfl) (sO_nil ⟨rfl,?_⟩))))
 exact sE_false rfl (sE_skip ⟨.inl rfl,rfl,rfl⟩)
theorem defer_pan(hf:T 142=some f142){O K:Nat}{vs:List Value}{b:Bool}(gO:h.get O=some (.cells vs true 1))(hv:vs.length=4)(gK:h.get K=some (.cells [.bool b] true 1))(hOK:O≠K)(hO:O<h.next)(hK:K<h.next):
 DW T 142 [.pointer (some ⟨O,0,none⟩), .pointer (some ⟨K,0,none⟩)] (some badV) h fun p h'=>p=none∧(∀z∈h'.log,z∈h.log∨z=O∨z=K)∧h'.get O=some (.cells zero4 true 1)∧h'.get K=some (.cells [.bool false] true 1):=by
 refine .of hf ?_
 refine sE_seq (sE_region (sO_recS (sO_val (a_mov (by exact rfl)) (sO_nil ⟨rfl,?_⟩))))
 refine sE_seq (sE_region (sO_val (a_mov (by exact rfl)) (sO_val (show aop h h.next _ (.bin (.nil .iface true) (.tmp 6) (.const .nilIface))=some (.val (.bool true) h)from rfl) (sO_nil ⟨rfl,?_⟩))))
 refine sE_true rfl ?_
 refine sE_seq (sE_seq (sE_region (sO_val (a_mov (by exact rfl)) (sO_val (show aop h h.next _ (.tassert 182 true (.agg #[]) (.tmp 9))=some (.val (.tuple #[.agg #[], .bool true]) h)from rfl) (sO_val (a_mov (by exact rfl)) (sO_val (a_extract (by exact rfl) (by exact rfl)) (sO_val (a_extract (by exact rfl) (by exact rfl)) (sO_val a_new
  (sO_val (a_store (b:=h.next) (o:=0) (vs:=[]) (ws:=[]) (by exact rfl) (by exact rfl) (z3 _ _) (by exact rfl) (by exact rfl)) (sO_val (a_mov (by exact rfl)) (sO_nil ⟨rfl,?_⟩)))))))))))
 have kO:O≠h.next:=by omega
 have kK:K≠h.next:=by omega
 have g1:((h.push (.cells [] true 1)).wr h.next h.next (.cells [] true 1)).get O=some (.cells vs true 1):=(z5 kO).trans ((z4 hO).trans gO)
 have g2:((h.push (.cells [] true 1)).wr h.next h.next (.cells [] true 1)).get K=some (.cells [.bool b] true 1):=(z5 kK).trans ((z4 hK).trans gK)
 have lg:((h.push (.cells [] true 1)).wr h.next h.next (.cells [] true 1)).log=h.log:=Heap.log_wr_new (Nat.le_refl _)
 refine sE_seq (sE_region (sO_val (a_mov (by exact rfl)) (sO_val (a_not (by exact rfl)) (sO_nil ⟨rfl,?_⟩))))
 refine sE_false rfl (sE_skip ⟨rfl,?_⟩)
 generalize((h.push (.cells [] true 1)).wr h.next h.next (.cells [] true 1))=H at*
 have g3:(H.wr h.next O (.cells zero4 true 1)).get K=some (.cells [.bool b] true 1):=(z5 (fun q=>hOK q.symm)).trans g2
 refine sE_region (sO_val (a_build (by exact rfl)) (sO_val (a_storeAll (cs:=zero4) (vs:=vs) (by exact rfl) (by exact rfl) g1 rfl hv rfl) (sO_val (a_store (ws:=[.bool false]) (by exact rfl) (by exact rfl) g3 (by exact rfl) (by exact rfl)) (sO_nil ⟨.inl rfl,rfl,?_,?_,?_⟩))))
 ·refine wr_log (S:=fun z=>z∈h.log∨z=O∨z=K) (wr_log (fun z hz=> .inl (lg▸hz)) (.inr (.inl rfl))) (.inr (.inr rfl))
 ·exact(z5 hOK).trans (Heap.get_wr_new g1)
 ·exact Heap.get_wr_new g3
end Go.A.Pk
end
section
set_option maxRecDepth 100000
namespace Go.A.Pk
variable {T:Nat→Option AFunc}
structure FnsWk (T:Nat→Option AFunc):Prop extends FnsVs T where
 f109:T 109=some f109
 f142:T 142=some f142
def WalkQ(kerf:Int)(l:List Kd)(p:Int×Int)(ns:List (Nat×Int))(v:Value)(h:Heap):Prop:=
 ((planS kerf l p ns).ok=true∧∃q,v= .tuple #[.agg #[.int .i64 (planS kerf l p ns).worth, .int .i64 (p.1*p.2-(planS kerf l p ns).cells), .int .i64 (planS kerf l p ns).depth, .slice (some ⟨q,0,none⟩) l.length l.length], .bool true]∧h.get q=some (.cells (ints ((planS kerf l p ns).used.take l.length)) true 1))∨
 ((planS kerf l p ns).ok=false∧v= .tuple #[.agg #[.int .i64 0, .int .i64 0, .int .i64 0, .slice none 0 0], .bool false])
theorem WalkQ.gc{kerf:Int}{l:List Kd}{p:Int×Int}{ns:List (Nat×Int)}{h:Heap}(v:Value)(h1:Heap)(hv:noRef v=true)(q:WalkQ kerf l p ns v h1):WalkQ kerf l p ns v h:=by
 rcases q with⟨_,q,rfl,_⟩|q
 ·simp[noRef,flatL,flat,scalL,scal,scal1]at hv
 ·exact .inr q
theorem zip_rep{n:Nat}:∀(us:List Int),n≤us.length→List.zipWith (· + ·) (List.replicate n 0) us=us.take n:=by
 intro us hu
 apply List.ext_getElem
 ·simp
 ·intro i h1 h2
  simp
theorem walk_pan{kerf:Int}{l:List Kd}{p:Int×Int}{ns:List (Nat×Int)}{b0:Nat}{e:Env}{h:Heap}(hf:T 142=some f142)(hno:(planS kerf l p ns).ok=false)(h6:geT e 6=some (.pointer (some ⟨b0+2,0,none⟩)))(h7:geT e 7=some (.pointer (some ⟨b0+3,0,none⟩)))(hl:h.log=[])(hn:b0+8≤h.next)
 (g2:∃vs:List Value,vs.length=4∧h.get (b0+2)=some (.cells vs true 1))(g3:h.get (b0+3)=some (.cells [.bool false] true 1)):endD T b0 [(6,some (some 4)),(7,some none)] (WalkQ kerf l p ns) (.panic badV) e [(.func (.func 142) #[] #[.pointer (some ⟨b0+2,0,none⟩), .pointer (some ⟨b0+3,0,none⟩)],[])] h:=by
 obtain⟨vs,hv,g2⟩:=g2
 obtain⟨q,h',hm,rfl,lg,gO,gK⟩:=defer_pan (h:={h with log:=[]}) hf g2 hv g3 (by omega) (show b0+2<h.next by omega) (show b0+3<h.next by omega)
 refine⟨⟨fun i=>nofun,142,_,_,_,rfl,none,h',hm,rfl,?_,[.agg #[.int .i64 0, .int .i64 0, .int .i64 0, .slice none 0 0], .bool false],?_, .inr ⟨hno,rfl⟩⟩⟩
 ·rw[hl,List.eq_nil_iff_forall_not_mem]
  intro z hz
  rcases merge_mem2 hz with q|⟨q,hb⟩
  ·cases q
  ·rcases lg z q with q|q
   ·cases q
   ·omega
 ·exact res_cells (b:=b0+2) (o:=0) (ws:=zero4) h6 gO rfl rfl (res_cell (b:=b0+3) (o:=0) h7 gK rfl res_nil)
theorem planS_no{kerf:Int}{l:List Kd}{p:Int×Int}{ns:List (Nat×Int)}(h:(treeS kerf l 32 p ns).1.ok=false):(planS kerf l p ns).ok=false:=by
 unfold planS
 rw[if_neg (fun q=>by rw[h]at q;exact Bool.false_ne_true q.1)]
 rfl
theorem planS_no2{kerf:Int}{l:List Kd}{p:Int×Int}{ns:List (Nat×Int)}(h:(treeS kerf l 32 p ns).2≠ns.length):(planS kerf l p ns).ok=false:=by
 unfold planS
 rw[if_neg (fun q=>h q.2)]
 rfl
theorem new_at{base:Nat}{e:Env}{h:Heap}{cs:List Value}{m:Nat}(hn:h.next=m):aop h base e (.new cs)=some (.val (.pointer (some ⟨m,0,none⟩)) (h.push (.cells cs true 1))):=by
 subst hn
 exact a_new
set_option maxHeartbeats 32000000 in
theorem walked109(F:FnsWk T){kerf:Int}{l:List Kd}(hc:chk kerf l=0){h:Heap}(hr:Rdy h){bb c wc:Nat}{sa wa:Option Addr}(gb:h.get bb=some (.cells [.slice sa l.length c, .int .i64 kerf, .slice wa l.length wc] true 1))(hks:SliceOf h 5 (.slice sa l.length c) l.length (kcs l))(hws:SliceOf h 1 (.slice wa l.length wc) l.length (ints (wsP l)))
 {ns:List (Nat×Int)}{qa:Option Addr}{qc:Nat}(hns:SliceOf h 2 (.slice qa ns.length qc) ns.length (ncI ns))(hu:U2 h (.slice qa ns.length qc))(hqc:qc<UNK∨qc=UNK)(hlen:ns.length≤1000)(hk:∀x∈ns,x.1<256){p:Int×Int}(h1:1≤p.1∧p.1≤16)(h2:1≤p.2∧p.2≤16):
 Al T 109 [.pointer (some ⟨bb,0,none⟩),pairV p, .slice qa ns.length qc] h (WalkQ kerf l p ns):=by
 have hp:=F.toFnsC.p
 refine Al.ofD hp F.f109 hr WalkQ.gc ?_
 have hn12:=(chk_iff.1 hc).1
 have kb:=WF.get_lt hr.wf gb
 obtain⟨p1,p2⟩:=p
 dsimp only at h1 h2
 have hpp:1≤p1*p2∧p1*p2≤256:=by
  have a1:=Int.mul_le_mul h1.1 h2.1 (by omega) (by omega)
  have a2:=Int.mul_le_mul h1.2 h2.2 (by omega) (by omega)
  omega
 have hmul:numOp .mul (.int .i64 p1) (.int .i64 p2)=some (.int .i64 (p1*p2)):=by
  simp[numOp,arith,wrapA_i64 (show -9223372036854775808≤p1*p2 by omega) (show p1*p2<9223372036854775808 by omega)]
 have HV:=visit144 F.toFnsVs hc (lo:=h.next) rfl gb kb hks hws 32
 unfold pairV
 refine y4 ?_;refine yB ?_;refine yB ?_;refine wO_val a_new ?_;refine wO_val a_new ?_;refine y3 ?_;refine y4 ?_
 refine wO_val (a_mkFunc (by exact rfl) (by exact rfl)) ?_
 refine wO_dfer (f:= .func (.func 142) #[] #[.pointer (some ⟨h.next+2,0,none⟩), .pointer (some ⟨h.next+3,0,none⟩)]) (args:=[]) rfl ?_
 refine y3 ?_;refine wE_seq ?_;refine wE_draw ?_;refine wD_quiet rfl rfl rfl (by exact rfl) (by exact rfl) (by exact rfl) (a_iaddrA (i:=0) (by exact rfl) (by exact rfl) (by omega)) ?_
 refine qL ?_
 refine wD_quiet rfl rfl rfl (by exact rfl) (by exact rfl) (by exact rfl) (a_iaddrA (i:=1) (by exact rfl) (by exact rfl) (by omega)) ?_
 refine qL ?_
 refine wD_quiet rfl rfl rfl (by exact rfl) (by exact rfl) (by exact rfl) (a_num (by exact rfl) (by exact rfl) (by with_reducible assumption)) ?_
 refine qL ?_
 refine wD_quiet rfl rfl rfl (by exact rfl) (by exact rfl) (by exact rfl) (a_nilchk (by exact rfl)) ?_;refine qF ?_;refine qF ?_
 refine qL ?_
 refine wD_quiet rfl rfl rfl (by exact rfl) (by exact rfl) (by exact rfl) (a_len1 (by exact rfl)) ?_
 refine wD_mkSlice (n:=l.length) rfl rfl rfl (by exact rfl) (by exact rfl) (by exact rfl) (by omega) (by apply ra_dropC rfl;apply ra_dropC rfl;apply ra_dropC rfl;apply ra_dropC rfl;apply ra_dropC rfl;apply ra_dropC rfl;apply ra_keepC rfl (rq_quiet rfl (a_num (by exact rfl) (by exact rfl) (by with_reducible assumption)) (by exact sv_int _ _)) rfl;apply ra_keepC rfl (rq_quiet rfl (a_load (by exact rfl) (by(simp(disch:=first|omega|(simp only[z1,z2];omega)|(simp only[z1,z2];done)|fail)only[z8,z4,z5,z9,z7,z1,z2, *];exact rfl)) (by exact rfl)) (by exact sv_int _ _)) rfl;apply ra_keepC rfl (rq_quiet rfl (a_iaddrA (i:=1) (by exact rfl) (by exact rfl) (by omega)) (by exact sv_ptr _)) rfl;apply ra_keepC rfl (rq_quiet rfl (a_load (by exact rfl) (by(simp(disch:=first|omega|(simp only[z1,z2];omega)|(simp only[z1,z2];done)|fail)only[z8,z4,z5,z9,z7,z1,z2, *];exact rfl)) (by exact rfl)) (by exact sv_int _ _)) rfl;apply ra_keepC rfl (rq_quiet rfl (a_iaddrA (i:=0) (by exact rfl) (by exact rfl) (by omega)) (by exact sv_ptr _)) rfl;exact ra_nil) ?_
 refine wD_quiet rfl rfl rfl (by exact rfl) (by exact rfl) (by exact rfl) (a_build (by exact rfl)) ?_
 refine wD_store rfl rfl rfl (by exact rfl) (by exact rfl) (by exact rfl) (by(simp(disch:=first|omega|(simp only[z1,z2];omega)|(simp only[z1,z2];done)|fail)only[z8,z4,z5,z9,z7,z1,z2, *];exact rfl)) (by exact rfl) (by exact rfl) (by(simp only[z1,z2];omega)) (by(simp only[z1,z2];omega)) (by apply ra_dropC rfl;apply ra_dropC rfl;apply ra_dropC rfl;apply ra_dropC rfl;apply ra_dropC rfl;apply ra_dropC rfl;exact ra_nil) ?_
 refine wD_nil ?_;refine y1 ?_;refine kS_n ?_;refine y4 ?_
 refine WO.gen ?_
 intro hA hAe
 have xA:Ext h hA:=by rw[hAe];exact((((((Ext.refl h).push _).push _).push _).push _).push _).wr (by(simp only[z1,z2];omega)) (by(simp only[z1,z2];omega))
 have A0:hA.get h.next=some (.cells [.pointer (some ⟨bb,0,none⟩)] true 1):=by rw[hAe];(simp(disch:=first|omega|(simp only[z1,z2];omega))only[z3,z4,z5,z6,z7,z1,z2, *];exact rfl)
 have A1:hA.get (h.next+1)=some (.cells [.int .i64 p1, .int .i64 p2] true 1):=by rw[hAe];(simp(disch:=first|omega|(simp only[z1,z2];omega)|(simp only[z1,z2];done)|fail)only[z8,z4,z5,z9,z7,z1,z2, *];exact rfl)
 have A2:hA.get (h.next+2)=some (.cells [.int .i64 0, .int .i64 (p1*p2), .int .i64 0, .slice (some ⟨h.next+4,0,none⟩) l.length l.length] true 1):=by rw[hAe];(simp(disch:=first|omega|(simp only[z1,z2];omega)|(simp only[z1,z2];done)|fail)only[z8,z4,z5,z9,z7,z1,z2, *];exact rfl)
 have A3:hA.get (h.next+3)=some (.cells [.bool false] true 1):=by rw[hAe];(simp(disch:=first|omega|(simp only[z1,z2];omega)|(simp only[z1,z2];done)|fail)only[z8,z4,z5,z9,z7,z1,z2, *];done)
 have A4:hA.get (h.next+4)=some (.cells (ints (List.replicate l.length 0)) true 1):=by rw[hAe];(simp(disch:=first|omega|(simp only[z1,z2];omega)|(simp only[z1,z2];done)|fail)only[z8,z4,z5,z9,z7,z1,z2, *];done)
 have nA:hA.next=h.next+5:=by rw[hAe];rfl
 clear hAe
 refine yC ?_
 refine FW.pu (asks143 F.toFnsNd (.of (xA.wf hr.wf))) ?_
 refine wO_val (new_at (m:=h.next+5) nA) ?_
 refine yS ?_
 refine y3 ?_
 refine y4 ?_
 refine yM ?_
 refine wO_val (new_at (m:=h.next+6) (by(simp only[z1,z2];omega))) ?_
 refine yS ?_
 refine y3 ?_
 refine y4 ?_
 refine wO_val (new_at (m:=h.next+7) (by(simp only[z1,z2];omega))) ?_
 refine y3 ?_
 refine y4 ?_
 refine wO_val (a_mkFunc (by exact rfl) (by exact rfl)) ?_
 refine yS ?_
 refine y3 ?_
 refine y4 ?_
 refine WO.gen ?_
 intro hB hBe
 have xB:Ext h hB:=by rw[hBe];exact(((((xA.push _).wr (by omega) (by omega)).push _).wr (by omega) (by omega)).push _).wr (by omega) (by omega)
 have sB:Vst h.next bb h hB ns 0 (p1*p2) 0 (List.replicate l.length 0):=by
  rw[hBe]
  refine⟨by(simp only[z1,z2];omega),fun z hz=>by rw[←hBe];exact xB.old z hz,⟨.slice qa ns.length qc,by(simp(disch:=first|omega|(simp only[z1,z2];omega)|(simp only[z1,z2];done)|fail)only[z8,z4,z5,z9,z7,z1,z2, *];exact rfl),?_⟩,by(simp(disch:=first|omega|(simp only[z1,z2];omega)|(simp only[z1,z2];done)|fail)only[z8,z4,z5,z9,z7,z1,z2, *];exact rfl),by(simp(disch:=first|omega|(simp only[z1,z2];omega))only[z3,z4,z5,z6,z7,z1,z2, *];done),by rw[List.length_replicate];(simp(disch:=first|omega|(simp only[z1,z2];omega))only[z3,z4,z5,z6,z7,z1,z2, *];done),by(simp(disch:=first|omega|(simp only[z1,z2];omega)|(simp only[z1,z2];done)|fail)only[z8,z4,z5,z9,z7,z1,z2, *];exact rfl),by(simp(disch:=first|omega|(simp only[z1,z2];omega))only[z3,z4,z5,z6,z7,z1,z2, *];done)⟩
  rw[←hBe]
  refine⟨hns.ext xB,fun b o n e=>by
   obtain⟨vs,own,g⟩:=hu b o n e
   exact⟨vs,own,(xB.old _ (WF.get_lt hr.wf g)).trans g⟩,⟨_,_,rfl,hqc⟩,fun b o n c' e=> ?_⟩
  rcases hns.inv with⟨_,e2,_⟩|⟨b2,o2,cap,e2,s2,_⟩
  ·rw[e2]at e;cases e
  ·rw[e2]at e
   cases e
   have:=s2.lt
   exact⟨fun q=>by unfold Sv at q;omega,Nat.lt_of_lt_of_le this xB.next⟩
 have B1:hB.get (h.next+1)=some (.cells [.int .i64 p1, .int .i64 p2] true 1):=by rw[hBe];(simp(disch:=first|omega|(simp only[z1,z2];omega))only[z3,z4,z5,z6,z7,z1,z2, *];done)
 have B3:hB.get (h.next+3)=some (.cells [.bool false] true 1):=by rw[hBe];(simp(disch:=first|omega|(simp only[z1,z2];omega))only[z3,z4,z5,z6,z7,z1,z2, *];done)
 have nB:hB.next=h.next+8:=by rw[hBe];(simp only[z1,z2];omega)
 clear hBe A0 A1 A2 A3 A4 nA
 have gv:=sB.vis
 have lB:=xB.log.trans hr.log
 have C:=HV (p1,p2) ns {hB with log:=[]} 0 0 (p1*p2) 0 (List.replicate l.length 0) h1 h2 (by dsimp only;omega) (by omega) (by omega) hlen hk (.of (xB.wf hr.wf)) (sB.log []) List.length_replicate ⟨by omega,by omega,fun u hu=>by rw[List.eq_of_mem_replicate hu];omega⟩
 have TB1:=tree_bd hc 32 (p1,p2) ns h1 h2
 have hno1:=planS_no (kerf:=kerf) (l:=l) (p:=(p1,p2)) (ns:=ns)
 have hno2:=planS_no2 (kerf:=kerf) (l:=l) (p:=(p1,p2)) (ns:=ns)
 have hyes:(treeS kerf l 32 (p1,p2) ns).1.ok=true→(treeS kerf l 32 (p1,p2) ns).2=ns.length→planS kerf l (p1,p2) ns=(treeS kerf l 32 (p1,p2) ns).1:=fun a b=>by unfold planS;rw[if_pos ⟨a,b⟩]
 generalize treeS kerf l 32 (p1,p2) ns=r at*
 unfold vArgs pairV at C
 clear HV
 refine yL ?_;refine yN ?_
 refine yC ?_
 refine FW.gpb (Gp.mono C (Q':=VQ h.next bb h r ns 0 (p1*p2) 0 0 (List.replicate l.length 0)) fun v h' q=>q.1) (fun z hz=>by unfold Sv at hz;omega) lB (fun v h' m q=>q.log m) (fun v h' m q=>q) ?_ ?_
 ·rintro v h5 w5 l5 ⟨rfl,ok1,V5⟩
  have G3:=(w5.old (h.next+3) (by omega) (by unfold Sv;omega)).trans B3
  have n5:=V5.nx
  obtain⟨v5,g5,r5⟩:=V5.rest
  obtain⟨qa5,qc5,rfl,_⟩:=r5.cap
  have g6:=V5.out
  have g8:=V5.usd
  have wf5:=w5.wf (xB.wf hr.wf)
  have f4:=V5.four
  have ml:(ns.drop r.2).length=ns.length-r.2:=List.length_drop
  have hm:=TB1.2
  have hud:0≤r.1.depth:=TB1.1.depth.1
  have hul:=TB1.1.len
  clear C r5 sB gv B1 B3 V5 w5
  by_cases hmm:r.2=ns.length
  ·have hy:=hyes ok1 hmm
   refine y3 ?_;refine y4 ?_;refine yL ?_;refine yD ?_;refine yt ?_
   refine yC ?_
   refine FW.pu (need_ok F.toFnsNd (.of wf5)) ?_
   refine y3 ?_;refine y4 ?_;refine yN ?_;refine yS ?_
   refine yS ?_;refine y3 ?_;refine wE_ret ?_
   refine⟨⟨fun i=>nofun,142,_,_,_,rfl,?_⟩⟩
   have E2:Heap.get ((h5.wr h.next (h.next+2) (.cells [.int .i64 (0+r.1.worth), .int .i64 (p1*p2-r.1.cells), .int .i64 (mx 0 (0+r.1.depth)), .slice (some ⟨h.next+4,0,none⟩) (List.zipWith (· + ·) (List.replicate l.length 0) r.1.used).length (List.zipWith (· + ·) (List.replicate l.length 0) r.1.used).length] true 1)).wr h.next (h.next+3) (.cells [.bool true] true 1)) (h.next+2)=some (.cells [.int .i64 (0+r.1.worth), .int .i64 (p1*p2-r.1.cells), .int .i64 (mx 0 (0+r.1.depth)), .slice (some ⟨h.next+4,0,none⟩) (List.zipWith (· + ·) (List.replicate l.length 0) r.1.used).length (List.zipWith (· + ·) (List.replicate l.length 0) r.1.used).length] true 1):=(z5 (by omega)).trans (Heap.get_wr_new g6)
   have E3:Heap.get ((h5.wr h.next (h.next+2) (.cells [.int .i64 (0+r.1.worth), .int .i64 (p1*p2-r.1.cells), .int .i64 (mx 0 (0+r.1.depth)), .slice (some ⟨h.next+4,0,none⟩) (List.zipWith (· + ·) (List.replicate l.length 0) r.1.used).length (List.zipWith (· + ·) (List.replicate l.length 0) r.1.used).length] true 1)).wr h.next (h.next+3) (.cells [.bool true] true 1)) (h.next+3)=some (.cells [.bool true] true 1):=Heap.get_wr_new ((z5 (by omega)).trans G3)
   have E4:Heap.get ((h5.wr h.next (h.next+2) (.cells [.int .i64 (0+r.1.worth), .int .i64 (p1*p2-r.1.cells), .int .i64 (mx 0 (0+r.1.depth)), .slice (some ⟨h.next+4,0,none⟩) (List.zipWith (· + ·) (List.replicate l.length 0) r.1.used).length (List.zipWith (· + ·) (List.replicate l.length 0) r.1.used).length] true 1)).wr h.next (h.next+3) (.cells [.bool true] true 1)) (h.next+4)=some (.cells (ints (List.zipWith (· + ·) (List.replicate l.length 0) r.1.used)) true 1):=(z5 (by omega)).trans ((z5 (by omega)).trans g8)
   have EL:Heap.log ((h5.wr h.next (h.next+2) (.cells [.int .i64 (0+r.1.worth), .int .i64 (p1*p2-r.1.cells), .int .i64 (mx 0 (0+r.1.depth)), .slice (some ⟨h.next+4,0,none⟩) (List.zipWith (· + ·) (List.replicate l.length 0) r.1.used).length (List.zipWith (· + ·) (List.replicate l.length 0) r.1.used).length] true 1)).wr h.next (h.next+3) (.cells [.bool true] true 1))=[]:=(Heap.log_wr_new (by omega)).trans ((Heap.log_wr_new (by omega)).trans l5)
   have ez:=zip_rep (n:=l.length) r.1.used (by omega)
   obtain⟨p',h',hm',rfl,rfl⟩:=defer_ok (T:=T) (h:={(((h5.wr h.next (h.next+2) (.cells [.int .i64 (0+r.1.worth), .int .i64 (p1*p2-r.1.cells), .int .i64 (mx 0 (0+r.1.depth)), .slice (some ⟨h.next+4,0,none⟩) (List.zipWith (· + ·) (List.replicate l.length 0) r.1.used).length (List.zipWith (· + ·) (List.replicate l.length 0) r.1.used).length] true 1)).wr h.next (h.next+3) (.cells [.bool true] true 1)))with log:=[]}) F.f142 (O:=h.next+2) (K:=h.next+3)
   refine⟨none,_,hm',rfl,?_,[_,_],res_cells (b:=h.next+2) (o:=0) rfl E2 rfl rfl (res_cell (b:=h.next+3) (o:=0) rfl E3 rfl res_nil), .inl ⟨by rw[hy];exact ok1,h.next+4,?_,?_⟩⟩
   ·exact congrArg (fun x=>mergeLog h.next x []) EL
   ·rw[hy,ez,List.length_take,hul,Nat.min_eq_left (by omega)]
    have e1:mx 0 (0+r.1.depth)=r.1.depth:=by simp only[mx];split<;>omega
    rw[e1,Int.zero_add]
    rfl
   ·rw[hy]
    exact E4.trans (by rw[ez])
  ·have hno:=hno2 hmm
   refine y3 ?_;refine y4 ?_;refine yL ?_;refine yD ?_;refine yf ?_
   refine yC ?_
   refine FW.pan (need_no F.toFnsNd) ?_
   exact kR_p (kS_p (walk_pan F.f142 hno rfl rfl l5 n5 f4 G3))
 ·rintro v h5 w5 l5 ⟨rfl,nok,four⟩
  have n5:=w5.next
  exact kR_p (kS_p (walk_pan F.f142 (hno1 nok) rfl rfl l5 (by omega) four ((w5.old (h.next+3) (by omega) (by unfold Sv;omega)).trans B3)))
end Go.A.Pk
end
section
set_option maxRecDepth 100000
namespace Go.A.Pk
variable {T:Nat→Option AFunc}
def plannedS(kerf:Int)(l:List Kd)(w ht:Int)(ns:List (Nat×Int)):Sm:=if asked kerf l (OnB w ht)=0∧(planS kerf l (w,ht) ns).ok=true then planS kerf l (w,ht) ns else sm0
def plannedE(kerf:Int)(l:List Kd)(w ht:Int)(ns:List (Nat×Int)):Int:=if asked kerf l (OnB w ht)=0 then(if(planS kerf l (w,ht) ns).ok=true then 0 else 50)else asked kerf l (OnB w ht)
theorem TB.mono{s:Sm}{m n:Nat}(h:TB s m)(hm:m≤n):TB s n:=by
 obtain⟨h1,h2,h3,h4,h5⟩:=h
 refine⟨⟨h1.1,by omega⟩,⟨h2.1,by omega⟩,⟨h3.1,by omega⟩,h4,fun u hu=> ?_⟩
 have:=h5 u hu
 omega
theorem plannedE_zero{kerf:Int}{l:List Kd}{w ht:Int}{ns:List (Nat×Int)}(h:plannedE kerf l w ht ns=0):asked kerf l (OnB w ht)=0∧plannedS kerf l w ht ns=planS kerf l (w,ht) ns∧(planS kerf l (w,ht) ns).ok=true:=by
 unfold plannedE at h
 by_cases ha:asked kerf l (OnB w ht)=0
 ·rw[if_pos ha]at h
  by_cases hb:(planS kerf l (w,ht) ns).ok=true
  ·exact⟨ha,by unfold plannedS;rw[if_pos ⟨ha,hb⟩],hb⟩
  ·rw[if_neg hb]at h;cases h
 ·rw[if_neg ha]at h;exact absurd h ha
end Go.A.Pk
end
section
set_option maxRecDepth 100000
namespace Go.A.Pk
variable {T:Nat→Option AFunc}
structure FnsHd (T:Nat→Option AFunc):Prop extends FnsE T,FnsWk T where
 f76:T 76=some f76
 f108:T 108=some f108
theorem WalkQ.log{kerf:Int}{l:List Kd}{p:Int×Int}{ns:List (Nat×Int)}(v:Value)(h:Heap)(m:List Nat)(q:WalkQ kerf l p ns v h):WalkQ kerf l p ns v {h with log:=m}:=q
theorem U2.ext{h h':Heap}{v:Value}(u:U2 h v)(w:WF h)(x:Ext h h'):U2 h' v:=fun b o n e=>by
 obtain⟨vs,own,g⟩:=u b o n e
 exact⟨vs,own,(x.old _ (WF.get_lt w g)).trans g⟩
theorem ints_zero4{xs:List Int}:ints xs≠zero4:=fun e=>by
 have:=congrArg (fun l=>l[3]?) e
 simp only[ints,zero4,List.getElem?_map]at this
 cases h:xs[3]? with
 |none=>rw[h]at this;cases this
 |some z=>rw[h]at this;cases this
def HadQ(kerf:Int)(l:List Kd)(w ht:Int)(ns:List (Nat×Int))(v:Value)(h:Heap):Prop:=
 (plannedE kerf l w ht ns=0∧∃q,v= .tuple #[.agg #[.int .i64 (planS kerf l (w,ht) ns).worth, .int .i64 (w*ht-(planS kerf l (w,ht) ns).cells), .int .i64 (planS kerf l (w,ht) ns).depth, .slice (some ⟨q,0,none⟩) l.length l.length], .int .i64 0]∧h.get q=some (.cells (ints ((planS kerf l (w,ht) ns).used.take l.length)) true 1))∨
 (plannedE kerf l w ht ns≠0∧v= .tuple #[.agg #[.int .i64 0, .int .i64 0, .int .i64 0, .slice none 0 0], .int .i64 (plannedE kerf l w ht ns)])
theorem HadQ.gc{kerf:Int}{l:List Kd}{w ht:Int}{ns:List (Nat×Int)}{h:Heap}(v:Value)(h1:Heap)(hv:noRef v=true)(q:HadQ kerf l w ht ns v h1):HadQ kerf l w ht ns v h:=by
 rcases q with⟨_,q,rfl,_⟩|q
 ·simp[noRef,flatL,flat,scalL,scal,scal1]at hv
 ·exact .inr q
theorem HadQ.log{kerf:Int}{l:List Kd}{w ht:Int}{ns:List (Nat×Int)}(v:Value)(h:Heap)(m:List Nat)(q:HadQ kerf l w ht ns v h):HadQ kerf l w ht ns v {h with log:=m}:=q
set_option maxHeartbeats 16000000 in
theorem had108(F:FnsHd T){h:Heap}(hr:Rdy h){a:Option Addr}{c:Nat}{l:List Kd}(hs:SliceOf h 5 (.slice a l.length c) l.length (kcs l))(kerf:Int)(hn:l.length<1000000)(w ht:Int)
 {ns:List (Nat×Int)}{qa:Option Addr}{qc:Nat}(hns:SliceOf h 2 (.slice qa ns.length qc) ns.length (ncI ns))(hu:U2 h (.slice qa ns.length qc))(hqc:qc<UNK∨qc=UNK)(hlen:ns.length≤1000)(hk:∀x∈ns,x.1<256):
 Al T 108 [.agg #[.slice a l.length c, .int .i64 kerf], .int .i64 w, .int .i64 ht, .slice qa ns.length qc] h (HadQ kerf l w ht ns):=by
 have hp:=F.toFnsE.toFnsA.p
 refine .of hp F.f108 hr HadQ.gc ?_
 have hx:Ext h ((h.push (.cells [.slice a l.length c, .int .i64 kerf] true 1)).push (.cells zero4 true 1)):=((Ext.refl h).push _).push _
 refine y4 ?_;refine yB ?_;refine wO_val a_new ?_;refine yM ?_;refine y3 ?_;refine wE_seq ?_;refine wE_draw ?_
 refine qN ?_
 refine qM ?_;refine qM ?_
 refine qC ?_
 refine FW.puD (board76a hp F.f76 F.toFnsE.toFnsA.f77 (.of (hx.wf hr.wf)) w ht) (by apply ra_dropC rfl;apply ra_dropC rfl;apply ra_keepC rfl (rq_quiet rfl (a_loadN (by exact rfl) (by(simp(disch:=first|omega|(simp only[z1,z2];omega))only[z3,z4,z5,z6,z7,z1,z2, *];exact rfl)) (by exact rfl) (by exact rfl)) (by exact sv_agg (by refine sl_cons (s1_slice _ _ _) ?_;refine sl_cons (s1_int _ _) ?_;exact sl_nil))) rfl;exact ra_nil) ?_
 refine wD_new rfl rfl rfl (by exact rfl) (by exact rfl) (by exact rfl) (a_bslice (by exact rfl) (by exact rfl)) (by refine rs_cons (rq_quiet rfl (a_loadN (by exact rfl) (by(simp(disch:=first|omega|(simp only[z1,z2];omega))only[z3,z4,z5,z6,z7,z1,z2, *];exact rfl)) (by exact rfl) (by exact rfl)) (by exact sv_agg (by refine sl_cons (s1_slice _ _ _) ?_;refine sl_cons (s1_int _ _) ?_;exact sl_nil))) ?_;exact rs_nil) ?_
 refine qC ?_
 have hx2:=hx.push (.cells [.bool (decide (OnB w ht))] true 1)
 refine FW.alD (startedB75 F.toFnsE (.of (hx2.wf hr.wf)) ((hs.ext hx2).log []) kerf hn (bl:=[decide (OnB w ht)]) (m:=1) (.mem ⟨Nat.lt_succ_self _,⟨_,_,_,z3 _ _,rfl⟩,rfl⟩ (Nat.le_refl _)) (by omega)) (fun v h' m q=>StartQ.logs v h' m q) ?_
 rintro _ h1 hx3 ⟨p,rfl,hst⟩
 rw[startE_one]at hst
 rw[startE_one]
 refine⟨_,by apply ra_dropC rfl;apply ra_dropC rfl;exact ra_nil,?_⟩
 have w1:WF h1:=hx3.wf (hx2.wf hr.wf)
 have hx13:Ext h h1:=hx2.trans hx3
 have G8:h1.get (h.next+1)=some (.cells zero4 true 1):=by rw[hx3.old _ (by(simp only[z1,z2];omega))];(simp(disch:=first|omega|(simp only[z1,z2];omega)|(simp only[z1,z2];done)|fail)only[z8,z4,z5,z9,z7,z1,z2, *];exact rfl)
 have l1:=hx13.log.trans hr.log
 have n1:h.next+2≤h1.next:=by have:=hx3.next;simp only[z1,z2]at this;omega
 by_cases ha:asked kerf l (OnB w ht)=0
 ·obtain⟨bb,wa,wc,rfl,gb,hws⟩:=hst ha
  obtain⟨hc,hb⟩:=asked_zero ha
  have C:=walked109 F.toFnsWk hc (.of w1) gb ((hs.ext hx13).log []) (hws.log []) ((hns.ext hx13).log []) (fun b o n e=>hu.ext hr.wf hx13 b o n e) hqc hlen hk (p:=(w,ht)) hb.1 hb.2
  unfold pairV at C
  rw[ha]
  clear hst
  refine qM ?_;refine qE ?_;refine qE ?_
  refine qM ?_;refine qM ?_;refine wD_nil ?_;refine y1 ?_;refine kS_n ?_;refine wE_seq ?_;refine y4 ?_
  refine yM ?_;refine yf ?_;refine y3 ?_;refine yX ?_;refine wE_skip ?_;refine kS_n ?_;refine y4 ?_
  refine yM ?_;refine yM ?_;refine yM ?_;refine wO_val (a_build (by exact rfl)) ?_;refine yM ?_
  refine yC ?_
  refine FW.al C (fun v h' m q=>WalkQ.log v h' m q) ?_
  clear C
  rintro v h2 hx4 (⟨ok,q,rfl,gq⟩|⟨nok,rfl⟩)
  ·have G8':=(hx4.old _ (by omega)).trans G8
   have l2:=hx4.log.trans l1
   have kq:=WF.get_lt (hx4.wf w1) gq
   have n2:=hx4.next
   refine yM ?_;refine yE ?_;refine yE ?_;refine wO_val a_new ?_
   refine yS ?_;refine yM ?_;refine y3 ?_;refine wE_seq ?_;refine y4 ?_;refine yM ?_;refine yA ?_;refine y3 ?_
   refine yX ?_;refine wE_skip ?_;refine kS_n ?_;refine y4 ?_
   refine yN ?_
   refine yS ?_;refine yM ?_;refine y3 ?_;refine wE_ret ?_
   have hq1:q≠h.next+1:=fun e=>by
    subst e
    rw[gq]at G8'
    injection G8' with e1
    injection e1 with e2
    exact ints_zero4 e2
   have pe:plannedE kerf l w ht ns=0:=by unfold plannedE;rw[if_pos ha,if_pos ok]
   refine endA_ret (vs:=[.agg (List.toArray [.int .i64 (planS kerf l (w,ht) ns).worth, .int .i64 (w*ht-(planS kerf l (w,ht) ns).cells), .int .i64 (planS kerf l (w,ht) ns).depth, .slice (some ⟨q,0,none⟩) l.length l.length]), .int .i64 0]) ?_ (res_cells (b:=h.next+1) (o:=0) rfl (by(simp(disch:=first|omega|(simp only[z1,z2];omega))only[z3,z4,z5,z6,z7,z1,z2, *];exact rfl)) rfl rfl (res_slot rfl res_nil)) (.inl ⟨pe,q,rfl,by(simp(disch:=first|omega|(simp only[z1,z2];omega))only[z3,z4,z5,z6,z7,z1,z2, *];done)⟩)
   simp(disch:=first|omega|(simp only[z1,z2];omega))only[Heap.log_wr_new,Heap.log_push]
   exact l2
  ·have G8':=(hx4.old _ (by omega)).trans G8
   have l2:=hx4.log.trans l1
   have n2:=hx4.next
   refine yM ?_;refine yE ?_;refine yE ?_;refine wO_val a_new ?_
   refine yS ?_;refine yM ?_;refine y3 ?_;refine wE_seq ?_;refine y4 ?_;refine yM ?_;refine yA ?_;refine y3 ?_
   refine yY ?_;refine y4 ?_;refine wO_val (a_build (by exact rfl)) ?_
   refine yS ?_;refine yM ?_;refine y3 ?_;refine wE_ret ?_;refine kS_r ?_
   have pe:plannedE kerf l w ht ns=50:=by unfold plannedE;rw[if_pos ha,if_neg (by rw[nok];exact Bool.false_ne_true)]
   refine endA_ret (vs:=[.agg zero4.toArray, .int .i64 50]) ?_ (res_cells (b:=h.next+1) (o:=0) rfl (by(simp(disch:=first|omega|(simp only[z1,z2];omega))only[z3,z4,z5,z6,z7,z1,z2, *];exact rfl)) rfl rfl (res_slot rfl res_nil)) (.inr ⟨by rw[pe];omega,by rw[pe];rfl⟩)
   simp(disch:=first|omega|(simp only[z1,z2];omega))only[Heap.log_wr_new,Heap.log_push]
   exact l2
 ·refine qM ?_;refine qE ?_;refine qE ?_
  refine qM ?_;refine qM ?_;refine wD_nil ?_;refine y1 ?_;refine kS_n ?_;refine wE_seq ?_;refine y4 ?_
  refine yM ?_;refine yt ?_;refine y3 ?_;refine yY ?_;refine y4 ?_;refine wO_val (a_build (by exact rfl)) ?_
  refine yM ?_;refine yS ?_;refine yM ?_;refine y3 ?_;refine wE_ret ?_;refine kS_r ?_
  have pe:plannedE kerf l w ht ns=asked kerf l (OnB w ht):=by unfold plannedE;rw[if_neg ha]
  refine endA_ret (vs:=[.agg zero4.toArray, .int .i64 (asked kerf l (OnB w ht))]) ?_ (res_cells (b:=h.next+1) (o:=0) rfl (by(simp(disch:=first|omega|(simp only[z1,z2];omega))only[z3,z4,z5,z6,z7,z1,z2, *];exact rfl)) rfl rfl (res_slot rfl res_nil)) (.inr ⟨by rw[pe];exact ha,by rw[pe];rfl⟩)
  simp(disch:=first|omega|(simp only[z1,z2];omega))only[Heap.log_wr_new,Heap.log_push]
  exact l1
structure FnsWd (T:Nat→Option AFunc):Prop extends FnsHd T where
 f51:T 51=some f51
set_option maxHeartbeats 16000000 in
theorem waste51(F:FnsWd T){h:Heap}(hr:Rdy h){a:Option Addr}{c:Nat}{l:List Kd}(hs:SliceOf h 5 (.slice a l.length c) l.length (kcs l))(kerf:Int)(hn:l.length<1000000)(w ht:Int)
 {ns:List (Nat×Int)}{qa:Option Addr}{qc:Nat}(hns:SliceOf h 2 (.slice qa ns.length qc) ns.length (ncI ns))(hu:U2 h (.slice qa ns.length qc))(hqc:qc<UNK∨qc=UNK)(hlen:ns.length≤1000)(hk:∀x∈ns,x.1<256):
 Pu T 51 [.agg #[.slice a l.length c, .int .i64 kerf], .int .i64 w, .int .i64 ht, .slice qa ns.length qc] h (.tuple #[.int .i64 (if plannedE kerf l w ht ns=0 then w*ht-(planS kerf l (w,ht) ns).cells else 0), .int .i64 (plannedE kerf l w ht ns)]):=by
 refine .of F.toFnsE.toFnsA.p F.f51 hr rfl ?_
 have hx:Ext h (h.push (.cells [.slice a l.length c, .int .i64 kerf] true 1)):=(Ext.refl h).push _
 have C:=had108 F.toFnsHd (.of (hx.wf hr.wf)) ((hs.ext hx).log []) kerf hn w ht ((hns.ext hx).log []) (fun b o n e=>hu.ext hr.wf hx b o n e) hqc hlen hk
 refine y4 ?_;refine yB ?_;refine yM ?_;refine yM ?_;refine y3 ?_;refine y4 ?_
 refine yN ?_;refine yM ?_;refine yM ?_
 refine yM ?_
 refine yC ?_
 refine FW.al C (fun v h' m q=>HadQ.log v h' m q) ?_
 rintro v h2 hx4 (⟨pe,q,rfl,gq⟩|⟨pe,rfl⟩)
 ·have l2:=(hx.trans hx4).log.trans hr.log
  have n2:=hx4.next
  rw[if_pos pe,pe]
  refine yM ?_;refine yE ?_;refine yE ?_;refine wO_val a_new ?_
  refine yS ?_;refine yM ?_;refine y3 ?_;refine y4 ?_;refine yF ?_
  refine yL ?_;refine yM ?_;refine yM ?_
  refine yM ?_;refine y3 ?_;refine wE_ret ?_
  refine endP_ret ?_ rfl rfl
  simp(disch:=first|omega|(simp only[z1,z2]at n2⊢;omega))only[Heap.log_wr_new,Heap.log_push]
  exact l2
 ·have l2:=(hx.trans hx4).log.trans hr.log
  have n2:=hx4.next
  rw[if_neg pe]
  refine yM ?_;refine yE ?_;refine yE ?_;refine wO_val a_new ?_
  refine yS ?_;refine yM ?_;refine y3 ?_;refine y4 ?_;refine yF ?_
  refine yL ?_;refine yM ?_;refine yM ?_
  refine yM ?_;refine y3 ?_;refine wE_ret ?_
  refine endP_ret ?_ rfl rfl
  simp(disch:=first|omega|(simp only[z1,z2]at n2⊢;omega))only[Heap.log_wr_new,Heap.log_push]
  exact l2
end Go.A.Pk
end
section
namespace Go.A.Pk
def nI(ns:List (Nat×Nat)):List (Nat×Int):=ns.map fun x=>(x.1,(x.2:Int))
theorem leafAt_inv{k:Kd}{i a b:Nat}{x:Nat×Nat}(h:x∈leafAt k i a b):x.2=i∧((x.1=1∧(a:Int)=k.w∧(b:Int)=k.h)∨(x.1=2∧k.turn=true∧(a:Int)=k.h∧(b:Int)=k.w)):=by
 unfold leafAt at h
 rcases List.mem_append.1 h with h|h
 ·split at h
  ·rename_i q
   rw[List.mem_singleton.1 h]
   exact⟨rfl, .inl ⟨rfl,q⟩⟩
  ·cases h
 ·split at h
  ·rename_i q
   rw[List.mem_singleton.1 h]
   exact⟨rfl, .inr ⟨rfl,q⟩⟩
  ·cases h
theorem leaves_inv{a b:Nat}:∀{l:List Kd} {i:Nat} {x:Nat×Nat},x∈leavesL a b l i→∃j k,l[j]? =some k∧x.2=i+j∧((x.1=1∧(a:Int)=k.w∧(b:Int)=k.h)∨(x.1=2∧k.turn=true∧(a:Int)=k.h∧(b:Int)=k.w))
 |[],_,x,h=>by cases h
 |k::l,i,x,h=>by
  simp only[leavesL,List.mem_append]at h
  rcases h with h|h
  ·obtain⟨h1,h2⟩:=leafAt_inv h
   exact⟨0,k,rfl,h1,h2⟩
  ·obtain⟨j,k',h1,h2,h3⟩:=leaves_inv h
   exact⟨j+1,k',h1,by omega,h3⟩
theorem foldM_att{α:Type}{f:α→Int}:∀{xs:List α} {m:Int},foldM f xs m=m∨∃x∈xs,foldM f xs m=f x
 |[],m=> .inl rfl
 |y::xs,m=>by
  show foldM f xs (mx m (f y))=m∨∃x∈y::xs,foldM f xs (mx m (f y))=f x
  rcases foldM_att (f:=f) (xs:=xs) (m:=mx m (f y))with h|⟨x,hx,h⟩
  ·rw[h]
   by_cases hc:f y≤m
   ·left;unfold mx;split<;>omega
   ·right;exact⟨y,List.mem_cons_self ..,by unfold mx;split<;>omega⟩
  ·right;exact⟨x,List.mem_cons_of_mem _ hx,h⟩
theorem plan_nil{kerf:Int}{ws:List Int}{kl:List Kd}{t:Tab}{p:Int×Int}{ns:List (Nat×Nat)}(h:PlanR kerf ws kl t p ns)(hp:¬ (1≤p.1∧1≤p.2)):ns=[]:=by
 cases h with
 |none _=>rfl
 |leaf q1 q2 _ _=>exact absurd ⟨by dsimp only;omega,by dsimp only;omega⟩ hp
 |cut q1 q2 _ _ _ _=>exact absurd ⟨by dsimp only;omega,by dsimp only;omega⟩ hp
 |waste q1 q2 _ _=>exact absurd ⟨by dsimp only;omega,by dsimp only;omega⟩ hp
theorem plan_tree{kerf:Int}{l:List Kd}{t:Tab}{W Hh:Int}(hk:0≤kerf)(hV:∀q:Int×Int,1≤q.1→q.1≤W→1≤q.2→q.2≤Hh→look t q=V kerf (wsP l) l q)(h0:∀q:Int×Int,¬ (1≤q.1∧1≤q.2)→look t q=0){p:Int×Int}{ns:List (Nat×Nat)}(R:PlanR kerf (wsP l) l t p ns):
 1≤p.1→1≤p.2→p.1≤W→p.2≤Hh→∀(f:Nat) (rest:List (Nat×Int)),p.1+p.2≤f→(treeS kerf l f p (nI ns++rest)).1.ok=true∧(treeS kerf l f p (nI ns++rest)).1.worth=look t p∧(treeS kerf l f p (nI ns++rest)).2=ns.length:=by
 induction R with
 |none h=>intro h1 h2;exact absurd ⟨h1,h2⟩ h
 | @leaf a b x ha hb hx hw=>
   intro h1 h2 h3 h4 f rest hf
   obtain⟨j,k,hj,hj2,hk3⟩:=leaves_inv hx
   have ex:x.2=j:=by omega
   have hjl:j<l.length:=(List.getElem?_eq_some_iff.1 hj).1
   have hn34:¬ (x.1=3∨x.1=4):=by rcases hk3 with⟨e,_⟩|⟨e,_⟩<;>omega
   have hwk:(wsP l).getD x.2 0=k.worth:=by rw[wsP,List.getD_eq_getElem?_getD,List.getElem?_map,ex,hj];rfl
   have e1:∀f:Nat,treeS kerf l f ((a:Int),(b:Int)) (nI [x]++rest)=nodeS l (x.1,(x.2:Int)) ((a:Int),(b:Int)):=fun f=>by
    show treeS kerf l f ((a:Int),(b:Int)) ((x.1,(x.2:Int))::rest)=_
    cases f<;>rw[treeS,if_neg hn34]
   have e2:nodeS l (x.1,(x.2:Int)) ((a:Int),(b:Int))=(⟨decide (isP k x.1 ((a:Int),(b:Int))),k.worth,(a:Int)*b,0,z12.set x.2 1⟩,1):=by
    unfold nodeS plankS
    rw[if_neg (show¬x.1=0 by rcases hk3 with⟨e,_⟩|⟨e,_⟩<;>omega),if_pos (show x.1=1∨x.1=2 by rcases hk3 with⟨e,_⟩|⟨e,_⟩<;>omega),if_pos (by omega)]
    simp only[Int.toNat_natCast,ex,hj]
   rw[e1,e2]
   refine⟨decide_eq_true ?_,hwk.symm.trans hw,rfl⟩
   unfold isP
   rcases hk3 with⟨e,e3,e4⟩|⟨e,e3,e4,e5⟩
   ·exact .inl ⟨e,e3.symm,e4.symm⟩
   ·exact .inr ⟨e,e3,e4.symm,e5.symm⟩
 | @cut a b x n1 n2 ha hb hx hw r1 r2 ih1 ih2=>
   intro h1 h2 h3 h4 f rest hf
   dsimp only at h1 h2 h3 h4 hf
   obtain⟨f,rfl⟩:∃f',f=f'+1:=⟨f-1,by omega⟩
   have eo:oneI (x.1,(x.2:Int)) ((a:Int),(b:Int))=oneB x a b:=by unfold oneI oneB;rfl
   have et:twoI kerf (x.1,(x.2:Int)) ((a:Int),(b:Int))=twoB kerf x a b:=by unfold twoI twoB;rfl
   have hx34:x.1=3∨x.1=4:=by rcases cuts_of hx with⟨e,_⟩|⟨e,_⟩<;>omega
   have hat:1≤(x.2:Int)∧(x.2:Int)≤sizeI (x.1,(x.2:Int)) ((a:Int),(b:Int))-1:=by
    unfold sizeI
    rcases cuts_of hx with⟨e,q1,q2⟩|⟨e,q1,q2⟩
    ·rw[if_pos e];dsimp only;omega
    ·rw[if_neg (show¬ (x.1,(x.2:Int)).1=3 by show¬x.1=3;omega)];dsimp only;omega
   have hone:1≤(oneB x a b).1∧1≤(oneB x a b).2∧(oneB x a b).1≤W∧(oneB x a b).2≤Hh∧(oneB x a b).1+(oneB x a b).2≤f:=by
    rcases cuts_of hx with⟨e3,_,_⟩|⟨e4,_,_⟩
    ·simp only[oneB,e3,if_true];omega
    ·have q3:¬x.1=3:=by omega
     simp only[oneB,if_neg q3];omega
   have htwo:((twoB kerf x a b).1≤W∧(twoB kerf x a b).2≤Hh∧(twoB kerf x a b).1+(twoB kerf x a b).2≤f)∧(sizeI (x.1,(x.2:Int)) ((a:Int),(b:Int))-x.2-kerf<1↔ ¬ (1≤(twoB kerf x a b).1∧1≤(twoB kerf x a b).2)):=by
    unfold sizeI
    rcases cuts_of hx with⟨e3,_,_⟩|⟨e4,_,_⟩
    ·simp only[twoB,e3,if_true];omega
    ·have q3:¬x.1=3:=by omega
     simp only[twoB,if_neg q3];omega
   obtain⟨i1,i2,i3⟩:=ih1 hone.1 hone.2.1 hone.2.2.1 hone.2.2.2.1 f (nI n2++rest) hone.2.2.2.2
   have eL:nI (x::(n1++n2))++rest=(x.1,(x.2:Int))::(nI n1++(nI n2++rest)):=by simp[nI]
   have e1:treeS kerf l (f+1) ((a:Int),(b:Int)) (nI (x::(n1++n2))++rest)=joinS kerf (sizeI (x.1,(x.2:Int)) ((a:Int),(b:Int))) x.2 (treeS kerf l f (oneB x a b) (nI n1++(nI n2++rest))) (treeS kerf l f (twoB kerf x a b) ((nI n1++(nI n2++rest)).drop (treeS kerf l f (oneB x a b) (nI n1++(nI n2++rest))).2)):=by
    rw[eL,treeS,if_pos hx34,if_pos hat,eo,et]
   have ed:(nI n1++(nI n2++rest)).drop n1.length=nI n2++rest:=by
    have:n1.length=(nI n1).length:=by simp[nI]
    rw[this,List.drop_left]
   rw[e1,i3,ed]
   generalize treeS kerf l f (oneB x a b) (nI n1++(nI n2++rest))=one at*
   unfold joinS
   rw[if_pos i1]
   by_cases hr:sizeI (x.1,(x.2:Int)) ((a:Int),(b:Int))-x.2-kerf<1
   ·have hnb:=htwo.2.1 hr
    have z2:n2=[]:=plan_nil r2 hnb
    have z3:=h0 _ hnb
    rw[if_pos hr]
    refine⟨i1,?_,?_⟩
    ·show one.1.worth=_
     rw[←hw,z3,i2];omega
    ·rw[z2];simp;omega
   ·have hb2:1≤(twoB kerf x a b).1∧1≤(twoB kerf x a b).2:=Classical.byContradiction fun q=>hr (htwo.2.2 q)
    obtain⟨j1,j2,j3⟩:=ih2 hb2.1 hb2.2 htwo.1.1 htwo.1.2.1 f rest htwo.1.2.2
    rw[if_neg hr,if_pos j1]
    refine⟨rfl,?_,?_⟩
    ·show one.1.worth+(treeS kerf l f (twoB kerf x a b) (nI n2++rest)).1.worth=_
     rw[i2,j2];exact hw
    ·show 1+one.2+(treeS kerf l f (twoB kerf x a b) (nI n2++rest)).2=_
     rw[i3,j3];simp;omega
 | @waste a b ha hb hlf hct=>
   intro h1 h2 h3 h4 f rest hf
   have e1:∀f:Nat,treeS kerf l f ((a:Int),(b:Int)) (nI [(0,0)]++rest)=({sm0 with ok:=true},1):=fun f=>by
    show treeS kerf l f ((a:Int),(b:Int)) ((0,0)::rest)=_
    cases f<;>(rw[treeS,if_neg (by omega)];rfl)
   rw[e1]
   refine⟨rfl,?_,rfl⟩
   show(0:Int)=_
   have hVe:=hV ((a:Int),(b:Int)) h1 h3 h2 h4
   have hV0:=V_nonneg (kerf:=kerf) (ws:=wsP l) (kl:=l) hk ((a:Int),(b:Int))
   rw[V_eq hk ha hb]at hVe
   by_cases hz:look t ((a:Int),(b:Int))=0
   ·exact hz.symm
   ·exfalso
    have hpos:0<look t ((a:Int),(b:Int)):=by rw[hV _ h1 h3 h2 h4]at hz⊢;omega
    have hsub:∀x∈cutsL a b,V kerf (wsP l) l (oneB x a b)+V kerf (wsP l) l (twoB kerf x a b)=look t (oneB x a b)+look t (twoB kerf x a b):=fun x hx=>by
     have q1:∀q:Int×Int,q.1≤W→q.2≤Hh→V kerf (wsP l) l q=look t q:=fun q y1 y2=>by
      by_cases hq:1≤q.1∧1≤q.2
      ·exact(hV q hq.1 y1 hq.2 y2).symm
      ·rw[h0 q hq,V_out hq]
     dsimp only at h3 h4
     rcases cuts_of hx with⟨e3,_,_⟩|⟨e4,_,_⟩
     ·rw[q1 _ (by simp only[oneB,e3,if_true];omega) (by simp only[oneB,e3,if_true];omega),q1 _ (by simp only[twoB,e3,if_true];omega) (by simp only[twoB,e3,if_true];omega)]
     ·have q3:¬x.1=3:=by omega
      rw[q1 _ (by simp only[oneB,if_neg q3];omega) (by simp only[oneB,if_neg q3];omega),q1 _ (by simp only[twoB,if_neg q3];omega) (by simp only[twoB,if_neg q3];omega)]
    rcases foldM_att (f:=fun x=>V kerf (wsP l) l (oneB x a b)+V kerf (wsP l) l (twoB kerf x a b)) (xs:=cutsL a b) (m:=leafM (wsP l) (leavesL a b l 0) 0)with h|⟨x,hx,h⟩
    ·rw[h]at hVe
     rcases foldM_att (f:=fun x:Nat×Nat=>(wsP l).getD x.2 0) (xs:=leavesL a b l 0) (m:=0)with g|⟨x,hx,g⟩
     ·have:leafM (wsP l) (leavesL a b l 0) 0=0:=g
      omega
     ·exact hlf x hx (g.symm.trans hVe.symm)
    ·rw[h]at hVe
     exact hct hpos x hx ((hsub x hx).symm.trans hVe.symm)
end Go.A.Pk
end
section
set_option maxRecDepth 100000
namespace Go.A.Pk
variable {T:Nat→Option AFunc}
theorem nI_len(ns:List (Nat×Nat)):(nI ns).length=ns.length:=by simp[nI]
theorem planS_best{kerf:Int}{l:List Kd}{w ht:Int}(hc:chk kerf l=0)(hb:OnB w ht){ns:List (Nat×Nat)}(R:PlanR kerf (wsP l) l (tabP kerf l w ht) (w,ht) ns):(planS kerf l (w,ht) (nI ns)).ok=true∧(planS kerf l (w,ht) (nI ns)).worth=bestV kerf l w ht:=by
 have hk:=(chk_iff.1 hc).2.1.1
 have hbb:=hb
 obtain⟨⟨h1,h2⟩,h3,h4⟩:=hbb
 have:=plan_tree hk (W:=w) (Hh:=ht) (fun q a1 a2 a3 a4=>by rw[look_tabP hc hb,if_pos ⟨a1,a2,a3,a4⟩,bestV_eq hk a1 a3];rfl) (fun q hq=>by rw[look_tabP hc hb,if_neg (fun q1=>hq ⟨q1.1,q1.2.2.1⟩)]) R h1 h3 (Int.le_refl _) (Int.le_refl _) 32 [] (by simp only;omega)
 rw[List.append_nil]at this
 obtain⟨t1,t2,t3⟩:=this
 have e:planS kerf l (w,ht) (nI ns)=(treeS kerf l 32 (w,ht) (nI ns)).1:=by
  unfold planS
  rw[if_pos ⟨t1,by rw[t3,nI_len]⟩]
 rw[e]
 refine⟨t1,t2.trans ?_⟩
 rw[look_tabP hc hb,if_pos ⟨h1,Int.le_refl _,h3,Int.le_refl _⟩]
end Go.A.Pk
end
section
namespace Go.A.Pk
def clK(k:Kd):Kd:={k with worth:=k.w*k.h}
def cl(l:List Kd):List Kd:=l.map clK
def areas(l:List Kd):List Int:=l.map fun k=>k.w*k.h
theorem cl_len(l:List Kd):(cl l).length=l.length:=by simp[cl]
theorem wsP_cl(l:List Kd):wsP (cl l)=areas l:=by simp[wsP,cl,areas,clK]
theorem leavesL_cl(a b:Nat):∀(l:List Kd) (i:Nat),leavesL a b (cl l) i=leavesL a b l i
 |[],_=>rfl
 |k::l,i=>by
  show leafAt (clK k) i a b++leavesL a b (cl l) (i+1)=leafAt k i a b++leavesL a b l (i+1)
  rw[leavesL_cl a b l]
  rfl
theorem val_cl{kerf:Int}{ws:List Int}{l:List Kd}(t:Tab)(a b:Nat):val kerf ws (cl l) t a b=val kerf ws l t a b:=by
 unfold val
 rw[leavesL_cl]
theorem tabL_cl{kerf:Int}{ws:List Int}{l:List Kd}(xs:List (Nat×Nat)):tabL kerf ws (cl l) xs=tabL kerf ws l xs:=by
 unfold tabL
 congr 1
 funext t x
 rw[val_cl]
theorem tabP_cl{kerf:Int}{l:List Kd}(w ht:Int):tabP kerf (cl l) w ht=tabL kerf (areas l) l (boardsL w.toNat ht.toNat):=by
 unfold tabP
 rw[wsP_cl,tabL_cl]
theorem area_bd{k:Kd}(h:Right k):1≤k.w*k.h∧k.w*k.h≤256:=by
 have h1:1*1≤k.w*k.h:=Int.mul_le_mul h.2.1.1 h.2.2.1.1 (by omega) (by have:=h.2.1;omega)
 have h2:k.w*k.h≤16*16:=Int.mul_le_mul h.2.1.2 h.2.2.1.2 (by have:=h.2.2.1;omega) (by omega)
 omega
theorem chk_cl{kerf:Int}{l:List Kd}(h:chk kerf l=0):chk kerf (cl l)=0:=by
 obtain⟨h1,h2,h3,h4⟩:=chk_iff.1 h
 refine chk_iff.2 ⟨by rw[cl_len];exact h1,h2,fun k hk=> ?_,?_⟩
 ·obtain⟨k0,hk0,rfl⟩:=List.mem_map.1 hk
  have:=h3 k0 hk0
  have ha:=area_bd this
  exact⟨this.1,this.2.1,this.2.2.1,by show 0≤k0.w*k0.h;omega,by show k0.w*k0.h≤1000000;omega⟩
 ·unfold cl
  rw[List.pairwise_map]
  exact h4
theorem PlanR_cl{kerf:Int}{l:List Kd}{t:Tab}{p:Int×Int}{ns:List (Nat×Nat)}(R:PlanR kerf (areas l) l t p ns):PlanR kerf (wsP (cl l)) (cl l) t p ns:=by
 induction R with
 |none h=>exact .none h
 |leaf ha hb hx hw=>exact .leaf ha hb (by rw[leavesL_cl];exact hx) (by rw[wsP_cl];exact hw)
 |cut ha hb hx hw _ _ i1 i2=>exact .cut ha hb hx hw i1 i2
 |waste ha hb h1 h2=>exact .waste ha hb (by rw[leavesL_cl,wsP_cl];exact h1) h2
theorem tree_cl{kerf:Int}{l:List Kd}:∀(f:Nat) (p:Int×Int) (ns:List (Nat×Int)),(treeS kerf (cl l) f p ns).1.ok=(treeS kerf l f p ns).1.ok∧(treeS kerf (cl l) f p ns).2=(treeS kerf l f p ns).2∧((treeS kerf l f p ns).1.ok=true→(treeS kerf (cl l) f p ns).1.worth=(treeS kerf l f p ns).1.cells):=by
 have hnode:∀(x:Nat×Int) (p:Int×Int),(nodeS (cl l) x p).1.ok=(nodeS l x p).1.ok∧(nodeS (cl l) x p).2=(nodeS l x p).2∧((nodeS l x p).1.ok=true→(nodeS (cl l) x p).1.worth=(nodeS l x p).1.cells):=by
  intro x p
  unfold nodeS
  split
  ·exact⟨rfl,rfl,fun _=>rfl⟩
  ·split
   ·unfold plankS
    rw[cl_len]
    split
    ·unfold cl
     rw[List.getElem?_map]
     cases l[x.2.toNat]? with
     |none=>exact⟨rfl,rfl,fun _=>rfl⟩
     |some k=>
      refine⟨rfl,rfl,fun h=> ?_⟩
      have h':isP k x.1 p:=of_decide_eq_true h
      show k.w*k.h=p.1*p.2
      rcases h' with⟨_,e1,e2⟩|⟨_,_,e1,e2⟩
      ·rw[e1,e2]
      ·rw[e1,e2,Int.mul_comm]
    ·exact⟨rfl,rfl,fun _=>rfl⟩
   ·exact⟨rfl,rfl,fun _=>rfl⟩
 intro f
 induction f with
 |zero=>
  intro p ns
  cases ns with
  |nil=>exact⟨rfl,rfl,fun _=>rfl⟩
  |cons x ns=>
   simp only[treeS]
   split
   ·exact⟨rfl,rfl,fun _=>rfl⟩
   ·exact hnode x p
 |succ f ih=>
  intro p ns
  cases ns with
  |nil=>exact⟨rfl,rfl,fun _=>rfl⟩
  |cons x ns=>
   simp only[treeS]
   split
   ·split
    ·obtain⟨a1,a2,a3⟩:=ih (oneI x p) ns
     rw[a2]
     obtain⟨b1,b2,b3⟩:=ih (twoI kerf x p) (ns.drop (treeS kerf l f (oneI x p) ns).2)
     generalize treeS kerf l f (twoI kerf x p) (ns.drop (treeS kerf l f (oneI x p) ns).2)=y at*
     generalize treeS kerf (cl l) f (twoI kerf x p) (ns.drop (treeS kerf l f (oneI x p) ns).2)=y' at*
     generalize treeS kerf l f (oneI x p) ns=z at*
     generalize treeS kerf (cl l) f (oneI x p) ns=z' at*
     unfold joinS
     rw[a1]
     by_cases hz:z.1.ok=true
     ·rw[if_pos hz,if_pos hz]
      split
      ·exact⟨a1,by rw[a2],fun _=>a3 hz⟩
      ·rw[b1]
       by_cases hy:y.1.ok=true
       ·rw[if_pos hy,if_pos hy]
        refine⟨rfl,by rw[a2,b2],fun _=> ?_⟩
        show z'.1.worth+y'.1.worth=z.1.cells+y.1.cells
        rw[a3 hz,b3 hy]
       ·rw[if_neg hy,if_neg hy]
        exact⟨rfl,rfl,fun _=>rfl⟩
     ·rw[if_neg hz,if_neg hz]
      exact⟨rfl,rfl,fun _=>rfl⟩
    ·exact⟨rfl,rfl,fun _=>rfl⟩
   ·exact hnode x p
theorem planS_fill{kerf:Int}{l:List Kd}{w ht:Int}(hc:chk kerf l=0)(hb:OnB w ht){ns:List (Nat×Nat)}(R:PlanR kerf (areas l) l (tabP kerf (cl l) w ht) (w,ht) ns):(planS kerf l (w,ht) (nI ns)).ok=true∧(planS kerf l (w,ht) (nI ns)).cells=bestV kerf (cl l) w ht:=by
 obtain⟨h1,h2⟩:=planS_best (chk_cl hc) hb (PlanR_cl R)
 obtain⟨t1,t2,t3⟩:=tree_cl (kerf:=kerf) (l:=l) 32 (w,ht) (nI ns)
 unfold planS at h1 h2⊢
 rw[t1,t2]at h1 h2
 by_cases hq:(treeS kerf l 32 (w,ht) (nI ns)).1.ok=true∧(treeS kerf l 32 (w,ht) (nI ns)).2=(nI ns).length
 ·rw[if_pos hq]at h1 h2⊢
  exact⟨hq.1,by rw[←h2,t3 hq.1]⟩
 ·rw[if_neg hq]at h1
  cases h1
end Go.A.Pk
end
section
set_option maxRecDepth 100000
namespace Go.A.Pk
variable {T:Nat→Option AFunc}
theorem bestV_wsP{kerf:Int}{l:List Kd}(hc:chk kerf l=0){w ht:Int}(hb:OnB w ht):bestV kerf l w ht=V kerf (wsP l) l (w,ht):=bestV_eq (chk_iff.1 hc).2.1.1 hb.1.1 hb.2.1
def OnD(w ht dp:Int):Prop:=OnB w ht∧(0≤dp∧dp≤40)
instance(w ht dp:Int):Decidable (OnD w ht dp):=by unfold OnD;infer_instance
end Go.A.Pk
end
section
set_option maxRecDepth 100000
namespace Go.A.Pk
variable {T:Nat→Option AFunc}
structure FnsFl (T:Nat→Option AFunc):Prop extends FnsW T,FnsPl T where
 f24:T 24=some f24
def areasF(l:List Kd)(i:Nat):List Int:=areas (l.take i)++wsP (l.drop i)
theorem areasF_len(l:List Kd)(i:Nat):(areasF l i).length=l.length:=by
 simp[areasF,areas,wsP];omega
theorem areasF_zero(l:List Kd):areasF l 0=wsP l:=by simp[areasF,areas]
theorem areasF_all(l:List Kd):areasF l l.length=areas l:=by simp[areasF,areas,wsP]
theorem areasF_set{l:List Kd}{i:Nat}{x:Kd}(h:l[i]? =some x):(areasF l i).set i (x.w*x.h)=areasF l (i+1):=by
 obtain⟨hi,rfl⟩:=List.getElem?_eq_some_iff.1 h
 have h1:l.drop i=l[i]::l.drop (i+1):=List.drop_eq_getElem_cons hi
 have h2:(areas (l.take i)).length=i:=by simp[areas];omega
 unfold areasF
 rw[h1,List.take_add_one,h]
 simp only[areas,wsP,List.map_cons,List.map_append,List.map_nil,Option.toList]at*
 rw[List.set_append_right _ _ (by omega),h2,Nat.sub_self,List.set_cons_zero,List.append_assoc]
 rfl
theorem fill_mul{k:Kd}(h:Right k):numOp .mul (.int .i64 k.w) (.int .i64 k.h)=some (.int .i64 (k.w*k.h)):=by
 have:=area_bd h
 simp[numOp,arith,wrapA_i64 (show -9223372036854775808≤k.w*k.h by omega) (show k.w*k.h<9223372036854775808 by omega)]
theorem WslB.full'{lo:Nat}{h:Heap}{q n:Nat}{xs:List Int}(hn:xs.length=n)(a:lo≤q)(b:q<h.next)(c:h.get q=some (.cells (ints xs) true 1))(d:xs≠[]):WslB lo h (.slice (some ⟨q,0,none⟩) n UNK) xs:=by
 subst hn
 exact .full a b c d
def FillO(kerf:Int)(l:List Kd)(w ht:Int)(v:Value)(h:Heap):Prop:=∃ns a c,v= .tuple #[.int .i64 (if asked kerf l (OnB w ht)=0 then w*ht-bestV kerf (cl l) w ht else 0), .slice a ns.length c, .int .i64 (asked kerf l (OnB w ht))]∧SliceOf h 2 (.slice a ns.length c) ns.length (ncs ns)∧(U2 h (.slice a ns.length c)∧(c=UNK∨c<1000000))∧
 (asked kerf l (OnB w ht)=0→PlanR kerf (areas l) l (tabP kerf (cl l) w ht) (w,ht) ns)∧(asked kerf l (OnB w ht)≠0→ns=[])
theorem FillO.log{kerf:Int}{l:List Kd}{w ht:Int}(v:Value)(h':Heap)(m:List Nat)(q:FillO kerf l w ht v h'):FillO kerf l w ht v {h' with log:=m}:=by
 obtain⟨ns,a,c,h1,h2,h3,h4⟩:=q
 exact⟨ns,a,c,h1,h2.log m,h3,h4⟩
theorem FillO.gc{kerf:Int}{l:List Kd}{w ht:Int}{h:Heap}(v:Value)(h1:Heap)(hv:noRef v=true)(q:FillO kerf l w ht v h1):FillO kerf l w ht v h:=by
 obtain⟨ns,a,c,rfl,s,u,r⟩:=q
 have hu:U2 h (.slice a ns.length c):=fun b o n e=>by cases e;simp[noRef,flatL,flat,scalL,scal,scal1]at hv
 refine⟨ns,a,c,rfl,?_,⟨hu,u.2⟩,r⟩
 clear r u hu
 generalize ns.length=n at*
 generalize ncs ns=cs at*
 cases s with
 |nil=>exact .nil
 |mem s _=>simp[noRef,flatL,flat,scalL,scal,scal1]at hv
theorem areas_bd{kerf:Int}{l:List Kd}(hc:chk kerf l=0):∀x∈areas l,0≤x∧x≤1000000:=fun x hx=>by
 obtain⟨k,hk,rfl⟩:=List.mem_map.1 hx
 have:=area_bd ((chk_iff.1 hc).2.2.1 k hk)
 omega
set_option maxHeartbeats 16000000 in
theorem fill24(F:FnsFl T){h:Heap}(hr:Rdy h){a:Option Addr}{n c:Nat}{l:List Kd}(hs:SliceOf h 5 (.slice a n c) n (kcs l))(kerf:Int)(hn:n<1000000)(w ht:Int):
 Al T 24 [.agg #[.slice a n c, .int .i64 kerf], .int .i64 w, .int .i64 ht] h (FillO kerf l w ht):=by
 refine .of F.toFnsW.toFnsE.toFnsA.p F.f24 hr FillO.gc ?_
 have hx:Ext h (h.push (.cells [.slice a n c, .int .i64 kerf] true 1)):=(Ext.refl h).push _
 obtain rfl:n=l.length:=by have:=hs.len;rw[kcs_length]at this;omega
 refine y4 ?_;refine yB ?_;refine yM ?_;refine yM ?_;refine yM ?_;refine y3 ?_;refine wE_seq ?_;refine wE_draw ?_
 refine qN ?_
 refine qM ?_;refine qM ?_
 refine qC ?_
 refine FW.puD (board76 F.toFnsW (.of (hx.wf hr.wf)) w ht) (by apply ra_dropC rfl;apply ra_dropC rfl;apply ra_keepC rfl (rq_quiet rfl (a_loadN (by exact rfl) (by(simp(disch:=first|omega|(simp only[z1,z2];omega))only[z3,z4,z5,z6,z7,z1,z2, *];exact rfl)) (by exact rfl) (by exact rfl)) (by exact sv_agg (by refine sl_cons (s1_slice _ _ _) ?_;refine sl_cons (s1_int _ _) ?_;exact sl_nil))) rfl;exact ra_nil) ?_
 refine wD_new rfl rfl rfl (by exact rfl) (by exact rfl) (by exact rfl) (a_bslice (by exact rfl) (by exact rfl)) (by refine rs_cons (rq_quiet rfl (a_loadN (by exact rfl) (by(simp(disch:=first|omega|(simp only[z1,z2];omega))only[z3,z4,z5,z6,z7,z1,z2, *];exact rfl)) (by exact rfl) (by exact rfl)) (by exact sv_agg (by refine sl_cons (s1_slice _ _ _) ?_;refine sl_cons (s1_int _ _) ?_;exact sl_nil))) ?_;exact rs_nil) ?_
 refine qC ?_
 have hx2:=hx.push (.cells [.bool (decide (OnB w ht))] true 1)
 refine FW.alD (startedO75 F.toFnsW.toFnsE (.of (hx2.wf hr.wf)) ((hs.ext hx2).log []) kerf hn (bl:=[decide (OnB w ht)]) (m:=1) (.mem ⟨Nat.lt_succ_self _,⟨_,_,_,z3 _ _,rfl⟩,rfl⟩ (Nat.le_refl _)) (by omega)) (fun v h' m q=>StartO.logs v h' m q) ?_
 rintro _ h1 hx3 ⟨p,rfl,hst⟩
 rw[startE_one]at hst
 rw[startE_one]
 refine⟨_,by apply ra_dropC rfl;apply ra_dropC rfl;exact ra_nil,?_⟩
 have w1:WF h1:=hx3.wf (hx2.wf hr.wf)
 have hx13:Ext h h1:=hx2.trans hx3
 by_cases ha:asked kerf l (OnB w ht)=0
 ·obtain⟨wv,rfl,gb,hws⟩:=hst ha
  have hP:=asked_zero ha
  obtain⟨q1,q2,q3,q4⟩:=chk_iff.1 hP.1
  have hb:=hP.2
  obtain⟨⟨e1,e2⟩,e3,e4⟩:=hP.2
  obtain⟨wn,rfl⟩:=Int.eq_ofNat_of_zero_le (show 0≤w by omega)
  obtain⟨hn',rfl⟩:=Int.eq_ofNat_of_zero_le (show 0≤ht by omega)
  rw[ha]
  have b0:((h.push (.cells [.slice a l.length c, .int .i64 kerf] true 1)).push (.cells [.bool (decide (OnB wn hn'))] true 1)).next+1<h1.next:=WF.get_lt w1 gb
  generalize hlo:((h.push (.cells [.slice a l.length c, .int .i64 kerf] true 1)).push (.cells [.bool (decide (OnB wn hn'))] true 1)).next=lo at*
  have hlo2:h.next+2=lo:=hlo
  refine qM ?_;refine qE ?_;refine qE ?_
  refine qM ?_;refine qM ?_;refine wD_nil ?_;refine y1 ?_;refine kS_n ?_;refine wE_seq ?_;refine y4 ?_
  refine yM ?_;refine yf ?_;refine y3 ?_;refine yX ?_;refine wE_skip ?_;refine kS_n ?_;refine wE_seq ?_;refine y4 ?_
  refine yM ?_;refine wO_val (a_nilchk (by exact rfl)) ?_;refine yF ?_;refine yF ?_;refine yL ?_;refine yD ?_;refine yM ?_;refine y3 ?_;refine wE_block ?_
  refine wE_loop (fun k e ds h'=>∃(i:Nat) (xs:List Int),i≤l.length∧k=l.length-i∧e=[(1, .int .i64 wn),(2, .int .i64 hn'),(9, .pointer (some ⟨lo+1,0,none⟩)),(30, .slice a l.length c),(31, .int .i64 l.length),(32, .int .i64 i)]∧ds=[]∧Ext h h'∧
   lo+1<h'.next∧h'.get (lo+1)=some (.cells [.slice a l.length c, .int .i64 kerf,wv] true 1)∧WslB (lo+2) h' wv xs∧Nonempty (PLift (xs=areasF l i)))
   ⟨0,wsP l,Nat.zero_le _,rfl,rfl,rfl,hx13,b0,gb,hws,⟨⟨(areasF_zero l).symm⟩⟩⟩ ?_
  clear hst gb hws b0 hlo hx2 hx3 w1 hx13
  rintro k e ds hi ⟨i,xs,hin,rfl,rfl,rfl,hxi,b0,gb,hws,⟨⟨hxs⟩⟩⟩
  by_cases hlt:i<l.length
  ·obtain⟨x,hxl⟩:∃x,l[i]? =some x:=⟨l[i],List.getElem?_eq_getElem (by omega)⟩
   have hs':=hs.ext hxi
   have hmul:=fill_mul (q3 x (List.mem_of_getElem? hxl))
   have hid:PLift (xs.set i (x.w*x.h)=areasF l (i+1)):=⟨by rw[hxs];exact areasF_set hxl⟩
   have hlt2:i<xs.length:=by rw[hxs,areasF_len];exact hlt
   have hle:xs.length<1000000:=by rw[hxs,areasF_len];exact hn
   clear hxs
   rcases hs'.inv with⟨_,_,h0,_⟩|⟨b,o,cap',hv,s,hcap⟩
   ·omega
   ·cases hv
    obtain⟨vs,own,t,g1,g2⟩:=slice_elem s hxl
    cases hws with
    |nil=>cases hlt2
    | @full q _ u1 u2 u3 u5=>
      refine y4 ?_;refine yt ?_;refine y3 ?_;refine wE_seq ?_;refine yY ?_;refine wE_skip ?_;refine kS_n ?_;refine wE_seq ?_;refine wE_block ?_;refine y4 ?_;refine yM ?_;refine wO_val (a_iaddrS (by exact rfl) (by exact rfl) (by omega)) ?_
      refine wO_val (a_loadN (by exact rfl) g1 g2 (by exact rfl)) ?_
      refine wO_val a_new ?_;refine yM ?_;refine yS ?_;refine y3 ?_;refine wE_draw ?_;refine qM ?_;refine wD_quiet rfl rfl rfl (by exact rfl) (by exact rfl) (by exact rfl) (a_nilchk (by exact rfl)) ?_
      refine qF ?_
      refine qL ?_
      refine qM ?_;refine qF ?_
      refine qL ?_
      refine qF ?_
      refine qL ?_
      refine wD_quiet rfl rfl rfl (by exact rfl) (by exact rfl) (by exact rfl) (a_num (by exact rfl) (by exact rfl) (by with_reducible assumption)) ?_;refine wD_quiet rfl rfl rfl (by exact rfl) (by exact rfl) (by exact rfl) (a_iaddrS (by exact rfl) (by exact rfl) (by omega)) ?_
      refine wD_storeA (ws:=ints (xs.set i (x.w*x.h))) rfl rfl rfl (by exact rfl) (by exact rfl) (by exact rfl) (by(simp(disch:=first|omega|(simp only[z1,z2];omega))only[z3,z4,z5,z6,z7,z1,z2, *];exact rfl)) (st_int (by omega)) puts_int (by(simp only[z1,z2];omega)) (by apply ra_dropC rfl;apply ra_dropC rfl;apply ra_dropC rfl;apply ra_dropC rfl;apply ra_dropC rfl;apply ra_dropC rfl;apply ra_dropC rfl;apply ra_dropC rfl;apply ra_dropC rfl;apply ra_dropC rfl;apply ra_dropC rfl;exact ra_nil) ?_
      refine wD_nil ?_;refine y1 ?_;refine kB_n ?_;refine kS_n ?_;refine wE_region ?_;refine yinc ?_;refine yM ?_;refine y3 ?_
      refine⟨l.length-(i+1),by omega,i+1,xs.set i (x.w*x.h),by omega,rfl,rfl,rfl,?_,?_,?_,?_,?_⟩
      ·exact((hxi.push _).wr hxi.next hxi.next).wr (show h.next≤q by omega) (by omega)
      ·(simp only[z1,z2];omega)
      ·(simp(disch:=first|omega|(simp only[z1,z2];omega))only[z3,z4,z5,z6,z7,z1,z2, *];done)
      ·exact .full' List.length_set (by omega) (by(simp only[z1,z2];omega)) (by(simp(disch:=first|omega|(simp only[z1,z2];omega))only[z3,z4,z5,z6,z7,z1,z2, *];done)) (fun e=>by have:=congrArg List.length e;rw[List.length_set]at this;exact u5 (List.length_eq_zero_iff.1 this))
      ·exact⟨⟨hid.down⟩⟩
  ·obtain rfl:i=l.length:=by omega
   obtain rfl:xs=areas l:=hxs.trans (areasF_all l)
   have hlx:(areas l).length=l.length:=by simp[areas]
   obtain⟨wa,wc,hv,hsl⟩:=hws.slice (by omega)
   rw[hlx]at hv hsl
   subst hv
   have w1:=hxi.wf hr.wf
   have hc:=hP.1
   have hbv:look (tabP kerf (cl l) wn hn') ((wn:Int),(hn':Int))=bestV kerf (cl l) wn hn':=rfl
   have hbb:=bestV_bd (chk_cl hc) hb
   have hT:∀q, -1000000000000≤look (tabP kerf (cl l) wn hn') q∧look (tabP kerf (cl l) wn hn') q≤1000000000000:=fun q=>by
    have:=look_tabP_bd (chk_cl hc) hb q
    omega
   have hsub:∀y,0≤y∧y≤256000000→numOp .sub (.int .i64 ((wn:Int)*hn')) (.int .i64 y)=some (.int .i64 ((wn:Int)*hn'-y)):=fun y hy=>by
    have h1:=Int.mul_nonneg (show(0:Int)≤wn by omega) (show(0:Int)≤hn' by omega)
    have h2:=Int.mul_le_mul e2 e4 (by omega) (by omega)
    exact m_sub (by rw[wrapA_i64]<;>omega)
   have hmul:numOp .mul (.int .i64 (wn:Int)) (.int .i64 (hn':Int))=some (.int .i64 ((wn:Int)*hn')):=by
    have h1:=Int.mul_nonneg (show(0:Int)≤wn by omega) (show(0:Int)≤hn' by omega)
    have h2:=Int.mul_le_mul e2 e4 (by omega) (by omega)
    simp[numOp,arith,wrapA_i64 (show -9223372036854775808≤(wn:Int)*hn' by omega) (show(wn:Int)*hn'<9223372036854775808 by omega)]
   have etab:tabP kerf (cl l) wn hn'=tabL kerf (areas l) l (boardsL wn hn'):=by rw[tabP_cl,Int.toNat_natCast,Int.toNat_natCast]
   clear hxs hws
   refine y4 ?_;refine yf ?_;refine y3 ?_;refine wE_seq ?_;refine yX ?_;refine wE_exit ?_;refine kS_e ?_;refine kS_e ?_;refine kB_e ?_;refine kS_n ?_
   refine y4 ?_;refine yM ?_;refine yM ?_;refine yM ?_
   refine yC ?_
   refine FW.al (best83 F.toFnsW.toFnsV (.of w1) (w:=wn) (ht:=hn') (W:=1000000) (ws:=areas l) (by omega) (by omega) (by omega) ⟨by omega,by omega⟩ (by omega) (areas_bd hc) gb ((hs.ext hxi).log []) (hsl.log [])) (fun _ _ _ q=>q) ?_
   rintro _ h2 hx4 ⟨r,rfl,gr⟩
   have w2:=hx4.wf w1
   have hx14:=hxi.trans hx4
   have gb2:=(hx4.old _ (WF.get_lt w1 gb)).trans gb
   have k2:=WF.get_lt w2 gb2
   have k3:=WF.get_lt w2 gr
   have hs2:=hs.ext hx14
   have hsl2:=hsl.ext hx4
   rw[←etab]at gr
   clear hs hsl gb etab
   have hx15:Ext h ((h2.push (.cells [.int .i64 0, .int .i64 0] true 1)).wr h.next h2.next (.cells [.int .i64 wn, .int .i64 hn'] true 1)):=(hx14.push _).wr hx14.next hx14.next
   have hx25:Ext h2 ((h2.push (.cells [.int .i64 0, .int .i64 0] true 1)).wr h.next h2.next (.cells [.int .i64 wn, .int .i64 hn'] true 1)):=((Ext.refl h2).push _).wr (Nat.le_refl _) hx14.next
   refine yM ?_;refine y3 ?_;refine y4 ?_;refine yM ?_;refine yM ?_;refine wO_val (a_build (by exact rfl)) ?_;refine wO_val a_new ?_
   refine yS ?_;refine y3 ?_;refine wE_seq ?_;refine wE_draw ?_;refine qM ?_;refine qM ?_
   refine wD_quiet rfl rfl rfl (by exact rfl) (by exact rfl) (by exact rfl) (a_num (by exact rfl) (by exact rfl) (by with_reducible assumption)) ?_;refine qM ?_
   refine qN ?_
   refine wD_quiet rfl rfl rfl (by exact rfl) (by exact rfl) (by exact rfl) (a_lookup (x:=((wn:Int),(hn':Int))) (by exact rfl) (by exact rfl) (by(simp(disch:=first|omega|(simp only[z1,z2];omega))only[z3,z4,z5,z6,z7,z1,z2, *];exact rfl))) ?_
   rw[hbv]
   have hsub2:=hsub _ hbb
   refine wD_quiet rfl rfl rfl (by exact rfl) (by exact rfl) (by exact rfl) (a_num (by exact rfl) (by exact rfl) (by with_reducible assumption)) ?_;refine qM ?_;refine qM ?_
   refine qN ?_
   refine qC ?_
   refine FW.alD (plan84 F.toFnsPl (by omega) (by omega) hT _ ((wn:Int),(hn':Int)) _ (Nat.le_refl _) e2 e4 (.of (hx15.wf hr.wf)) ⟨(hx25.old _ k2).trans gb2,(hx25.old _ k3).trans gr,(hs2.ext hx25).log [],(hsl2.ext hx25).log []⟩) (fun v h' m q=>PlanQ.log v h' m q) ?_
   rintro _ h3 hx5 ⟨ns,a3,c3,R,rfl,s3,u3⟩
   have gr3:h3.get r=some (.map (ents (tabP kerf (cl l) wn hn'))):=(hx5.old _ (by(simp only[z1,z2];omega))).trans ((hx25.old _ k3).trans gr)
   have g13:h3.get h2.next=some (.cells [.int .i64 wn, .int .i64 hn'] true 1):=(hx5.old _ (by(simp only[z1,z2];omega))).trans (by(simp(disch:=first|omega|(simp only[z1,z2];omega))only[z3,z4,z5,z6,z7,z1,z2, *];exact rfl))
   clear gb2 gr
   refine⟨_,by apply ra_dropC rfl;apply ra_dropC rfl;apply ra_dropC rfl;apply ra_keepC rfl (rq_quiet rfl (a_num (by exact rfl) (by exact rfl) (by with_reducible assumption)) (by exact sv_int _ _)) rfl;apply ra_keepC rfl (rq_quiet rfl (a_lookup (by exact rfl) (by exact rfl) (by assumption)) (by exact sv_int _ _)) rfl;apply ra_keepC rfl (rq_quiet rfl (a_loadN (by exact rfl) (by assumption) (by exact rfl) (by exact rfl)) (by exact sv_agg (by refine sl_cons (s1_int _ _) ?_;refine sl_cons (s1_int _ _) ?_;exact sl_nil))) rfl;apply ra_keepC rfl (rq_quiet rfl (a_mov (by exact rfl)) (by exact sv_map _)) rfl;apply ra_keepC rfl (rq_quiet rfl (a_num (by exact rfl) (by exact rfl) (by with_reducible assumption)) (by exact sv_int _ _)) rfl;apply ra_keepC rfl (rq_quiet rfl (a_mov (by exact rfl)) (by exact sv_int _ _)) rfl;apply ra_keepC rfl (rq_quiet rfl (a_mov (by exact rfl)) (by exact sv_int _ _)) rfl;exact ra_nil,?_⟩
   refine qM ?_;refine qM ?_;refine qM ?_;refine wD_nil ?_
   refine y1 ?_;refine kS_n ?_;refine wE_ret ?_
   exact endA_ret (vs:=[.int .i64 ((wn:Int)*hn'-bestV kerf (cl l) wn hn'), .slice a3 ns.length c3, .int .i64 0]) ((hx15.trans hx5).log.trans hr.log) rfl ⟨ns,a3,c3,by rw[if_pos ha,ha];rfl,s3,u3,fun _=>R,fun q=>absurd ha q⟩
 ·refine qM ?_;refine qE ?_;refine qE ?_
  refine qM ?_;refine qM ?_;refine wD_nil ?_;refine y1 ?_;refine kS_n ?_;refine wE_seq ?_;refine y4 ?_
  refine yM ?_;refine yt ?_;refine y3 ?_;refine yY ?_;refine y4 ?_;refine yM ?_
  refine yM ?_;refine yM ?_;refine yM ?_;refine y3 ?_;refine wE_ret ?_;refine kS_r ?_
  exact endA_ret (vs:=[.int .i64 0, .slice none 0 0, .int .i64 (asked kerf l (OnB w ht))]) (hx13.log.trans hr.log) rfl ⟨[],none,0,by rw[if_neg ha];rfl, .nil,⟨(fun _ _ _ e=>by cases e), .inr (by omega)⟩,fun q=>absurd q ha,fun _=>rfl⟩
end Go.A.Pk
end
section
namespace Go.A.Pk
def UF(kerf:Int)(ws:List Int)(kl:List Kd)(kind:Nat):Nat→Int×Int→Int
 |0,_=>never
 |n+1,p=>if 1≤p.1∧1≤p.2 then foldM (fun x=>mx (UF kerf ws kl kind n (oneB x p.1.toNat p.2.toNat)+V kerf ws kl (twoB kerf x p.1.toNat p.2.toNat)) (V kerf ws kl (oneB x p.1.toNat p.2.toNat)+UF kerf ws kl kind n (twoB kerf x p.1.toNat p.2.toNat))) (cutsL p.1.toNat p.2.toNat) (foldM (leafW ws kind) (leavesL p.1.toNat p.2.toNat kl 0) never)else never
variable {kerf:Int} {ws ws':List Int} {kl:List Kd} {kind:Nat}
def U(kerf:Int)(ws:List Int)(kl:List Kd)(kind:Nat)(p:Int×Int):Int:=UF kerf ws kl kind (sz p) p
structure More (kind:Nat) (d:Int) (ws ws':List Int):Prop where
 pos:0≤d
 here:ws'.getD kind 0=ws.getD kind 0+d
 other:∀i,i≠kind→ws'.getD i 0=ws.getD i 0
theorem More.set{d:Int}(h0:0≤d)(hk:kind<ws.length):More kind d ws (ws.set kind (ws.getD kind 0+d))where
 pos:=h0
 here:=by simp[List.getD,hk]
 other:=fun i hi=>by simp[List.getD,List.getElem?_set_ne (Ne.symm hi)]
end Go.A.Pk
end
section
namespace Go.A.Pk
def wsOf(l:List Kd):List Int:=l.map (·.worth)
def wsM(l:List Kd)(kind:Nat)(more:Int):List Int:=(wsOf l).set kind ((wsOf l).getD kind 0+more)
def kw(kerf:Int)(l:List Kd)(kind:Nat)(p:Int×Int)(more:Int):Int:=U kerf (wsM l kind more) l kind p
def kb(kerf:Int)(l:List Kd)(kind:Nat)(p:Int×Int)(more:Int):Int:=V kerf (wsM l kind more) l p
end Go.A.Pk
end
section
set_option maxRecDepth 100000
namespace Go.A.Pk
variable {T:Nat→Option AFunc}
def IntsQ(er:Int)(xs:List Int)(v:Value)(h:Heap):Prop:=∃a c,v= .tuple #[.slice a xs.length c, .int .i64 er]∧SliceOf h 1 (.slice a xs.length c) xs.length (ints xs)
theorem IntsQ.log{er:Int}{xs:List Int}(v:Value)(h':Heap)(m:List Nat)(q:IntsQ er xs v h'):IntsQ er xs v {h' with log:=m}:=by
 obtain⟨a,c,h1,h2⟩:=q
 exact⟨a,c,h1,h2.log m⟩
theorem IntsQ.gc{er:Int}{xs:List Int}{h:Heap}(v:Value)(h1:Heap)(hv:noRef v=true)(q:IntsQ er xs v h1):IntsQ er xs v h:=by
 obtain⟨a,c,rfl,h2⟩:=q
 refine⟨a,c,rfl,?_⟩
 generalize xs.length=n at*
 generalize ints xs=cs at*
 cases h2 with
 |nil=>exact .nil
 |mem s _=>simp[noRef,flatL,flat,scalL,scal,scal1]at hv
theorem IntsQ.ret{er:Int}{xs:List Int}{s:Value}{h:Heap}(hs:SliceOf h 1 s xs.length (ints xs)):IntsQ er xs (.tuple #[s, .int .i64 er]) h:=by
 have hi:=hs.inv
 rcases hi with⟨c,rfl,h0,_⟩|⟨b,o,c,rfl,_,_⟩
 ·refine⟨none,c,?_,?_⟩
  ·rw[h0]
  ·rw[h0]at hs⊢;exact hs
 ·exact⟨_,_,rfl,hs⟩
end Go.A.Pk
end
section
set_option maxRecDepth 100000
namespace Go.A.Pk
variable {T:Nat→Option AFunc}
def grid(f:Nat→Nat→Int):List Int:=(List.range 289).map fun i=>f (i / 17) (i % 17)
def updF(f:Nat→Nat→Int)(a b:Nat)(z:Int)(x y:Nat):Int:=if x=a∧y=b then z else f x y
theorem grid_congr{f g:Nat→Nat→Int}(h:∀x y,x<17→y<17→f x y=g x y):grid f=grid g:=by
 unfold grid
 apply List.map_congr_left
 intro i hi
 have:=List.mem_range.1 hi
 exact h _ _ (by omega) (by omega)
end Go.A.Pk
end
section
set_option maxRecDepth 100000
namespace Go.A.Pk
variable {T:Nat→Option AFunc}
structure Vt (q:Nat) (hA h':Heap) (f:Nat→Nat→Int):Prop where
 old:∀z,z<q→h'.get z=hA.get z
 obj:h'.get q=some (.cells (ints (grid f)) true 1)
 log:h'.log=[]
 wf:WF h'
 nx:q<h'.next
theorem Vt.wr{q:Nat}{hA h':Heap}{f:Nat→Nat→Int}(v:Vt q hA h' f){base a b:Nat}(z:Int)(hb:base≤q):Vt q hA (h'.wr base q (.cells (ints (grid (updF f a b z))) true 1)) (updF f a b z):=
 ⟨fun y hy=>(z5 (by omega)).trans (v.old y hy),Heap.get_wr_new v.obj,(Heap.log_wr_new hb).trans v.log,v.wf.as (AS.wr _ _ _ _),v.nx⟩
theorem Vt.congr{q:Nat}{hA h':Heap}{f g:Nat→Nat→Int}(v:Vt q hA h' f)(h:∀x y,x<17→y<17→f x y=g x y):Vt q hA h' g:=
 ⟨v.old,by rw[←grid_congr h];exact v.obj,v.log,v.wf,v.nx⟩
end Go.A.Pk
end
