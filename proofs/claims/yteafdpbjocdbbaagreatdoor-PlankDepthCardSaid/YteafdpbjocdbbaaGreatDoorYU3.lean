/- Walks of functions, plain laws, the table. -/
import Derived.Test.YteafdpbjocdbbaaGreatDoorYU2
import Derived.Test.YteafdpbjocdbbaaGreatDoorYU0
import Derived.Test.YteafdpbjocdbbaaGreatDoorYF
import Derived.Test.YteafdpbjocdbbaaGreatDoorYU1
import Derived.Test.YteafdpbjocdbbaaGreatDoorYD
import Derived.Carry
import Derived.Lib.SmallJoins
import Derived.Deep.Slices
import Derived.Deep.Fields
import Derived.Test.YteafdpbjocdbbaaGreatDoorProg
import Derived.SizedLaws
import Derived.KernelRfl
import Derived.Test.YteafdpbjocdbbaaGreatDoorYH
import Derived.Test.YteafdpbjocdbbaaGreatDoorYT
set_option linter.all false
section
set_option maxRecDepth 100000
namespace Go.A.Pk
variable {T:Nat→Option AFunc}
theorem Vst.cast{lo bb:Nat}{h0 h:Heap}{ns ns':List (Nat×Int)}{wo wst de wo' wst' de':Int}{us us':List Int}(s:Vst lo bb h0 h ns wo wst de us)(e1:ns=ns')(e2:wo=wo')(e3:wst=wst')(e4:de=de')(e5:us=us'):Vst lo bb h0 h ns' wo' wst' de' us':=by
 subst e1 e2 e3 e4 e5
 exact s
theorem zip_assoc:∀(a b c:List Int),List.zipWith (· + ·) a (List.zipWith (· + ·) b c)=List.zipWith (· + ·) (List.zipWith (· + ·) a b) c
 |[],_,_=>by simp
 |_::_,[],_=>by simp
 |_::_,_::_,[]=>by simp
 |x::a,y::b,z::c=>by simp only[List.zipWith_cons_cons,zip_assoc a b c,Int.add_assoc]
theorem oneI_B{k i a b:Nat}:oneI (k,(i:Int)) ((a:Int),(b:Int))=oneB (k,i) a b:=by
 unfold oneI oneB
 dsimp only
theorem twoI_B{kerf:Int}{k i a b:Nat}:twoI kerf (k,(i:Int)) ((a:Int),(b:Int))=twoB kerf (k,i) a b:=by
 unfold twoI twoB
 dsimp only
theorem Vb.next{wo wst:Int}{us:List Int}{ns:List (Nat×Int)}{s:Sm}{m:Nat}(v:Vb wo wst us ns)(t:TB s m)(hm:m≤ns.length):Vb (wo+s.worth) (wst-s.cells) (List.zipWith (· + ·) us s.used) (ns.drop m):=by
 obtain⟨v1,v2,v3⟩:=v
 have hl:(ns.drop m).length=ns.length-m:=List.length_drop
 have t1:=t.worth
 have t2:=t.cells
 refine⟨by rw[hl];omega,by rw[hl];omega,fun u hu=> ?_⟩
 obtain⟨a,ha,b,hb,rfl⟩:=zip_mem hu
 have a1:=v3 a ha
 have b1:=t.used b hb
 rw[hl]
 omega
theorem Gp.mono{f:Nat}{args:List Value}{h:Heap}{S:Nat→Prop}{Q Q' Qp:Value→Heap→Prop}(H:Gp T f args h S Q Qp)(hq:∀v h',Q v h'→Q' v h'):Gp T f args h S Q' Qp:=
 CW.mono H fun r h' ⟨w,q⟩=>⟨w,q.elim (fun⟨v,e,q⟩=> .inl ⟨v,e,hq v h' q⟩) .inr⟩
abbrev visEnd(lo bb:Nat)(h0:Heap)(J:Sm×Nat)(ns:List (Nat×Int))(wo wst de dep:Int)(us:List Int):XQ:=endT [] (Sv lo) (fun v h1=>VQ lo bb h0 J ns wo wst de dep us v h1∧lo+6∈h1.log∧Dirty h1 (lo+6)) (VP lo J)
def vis4:ACode:=match vis2 with
 | .seq _ (.block _ (.seq _ (.cond _ _ (.seq _ (.cond _ (.seq _ c) _)))))=>c
 |c=>c
theorem VQ.log{lo bb:Nat}{h0:Heap}{r:Sm×Nat}{ns:List (Nat×Int)}{wo wst de dep:Int}{us:List Int}{v:Value}{h:Heap}(q:VQ lo bb h0 r ns wo wst de dep us v h)(m:List Nat):VQ lo bb h0 r ns wo wst de dep us v {h with log:=m}:=⟨q.1,q.2.1,q.2.2.log m⟩
theorem join_no{kerf size at1:Int}{one two:Sm×Nat}(h:one.1.ok=false):(joinS kerf size at1 one two).1.ok=false:=by
 unfold joinS
 rw[if_neg (by rw[h];exact Bool.false_ne_true)]
 rfl
theorem join_no2{kerf size at1:Int}{one two:Sm×Nat}(hn:¬size-at1-kerf<1)(h:two.1.ok=false):(joinS kerf size at1 one two).1.ok=false:=by
 unfold joinS
 rw[if_neg hn,if_neg (show¬two.1.ok=true by rw[h];exact Bool.false_ne_true)]
 split<;>rfl
theorem join_one{kerf size at1:Int}{one two:Sm×Nat}(hn:size-at1-kerf<1)(h:one.1.ok=true):joinS kerf size at1 one two=({one.1 with depth:=one.1.depth+1},one.2+1):=by
 unfold joinS
 rw[if_pos h,if_pos hn]
theorem join_two{kerf size at1:Int}{one two:Sm×Nat}(hn:¬size-at1-kerf<1)(h:one.1.ok=true)(h2:two.1.ok=true):joinS kerf size at1 one two=(⟨true,one.1.worth+two.1.worth,one.1.cells+two.1.cells,1+mx one.1.depth two.1.depth,List.zipWith (· + ·) one.1.used two.1.used⟩,1+one.2+two.2):=by
 unfold joinS
 rw[if_pos h,if_neg hn,if_pos h2]
set_option maxHeartbeats 32000000 in
theorem visit_cut2(F:FnsVs T){kerf:Int}{l:List Kd}(hc:chk kerf l=0){lo bb n0 f k1:Nat}{h0 h:Heap}
 {p one two:Int×Int}{x:Nat×Int}{ns:List (Nat×Int)}{dep wo wst de si i:Int}{us:List Int}(o1:1≤one.1∧one.1≤16)(o2:1≤one.2∧one.2≤16)(o3:one.1+one.2≤f)(t2a:two.1≤16∧two.2≤16)(t3:two.1+two.2≤f)(tn:(two.1<1∨two.2<1)↔si-i-kerf<1)
 (hdep:0≤dep∧dep+(f+1)≤1000)(hde:0≤de∧de≤3000)(hlen:ns.length≤1000)(hk:∀x∈ns,x.1<256)(hul:us.length=l.length)(hb:Vb wo wst us ns)(S:Stg lo bb n0 h0 h p x ns wo wst (mx de dep) us)
 (g10:h.get k1=some (.cells [.int .i64 one.1, .int .i64 one.2] true 1))(g11:h.get (k1+1)=some (.cells [.int .i64 two.1, .int .i64 two.2] true 1))(kn:n0+1<k1∧k1+1<h.next)
 (ih:∀(p:Int×Int) (ns:List (Nat×Int)) (h:Heap) (dep wo wst de:Int) (us:List Int),1≤p.1∧p.1≤16→1≤p.2∧p.2≤16→p.1+p.2≤f→(0≤dep∧dep+f≤1000)→(0≤de∧de≤3000)→ns.length≤1000→(∀x∈ns,x.1<256)→Rdy h→Vst lo bb h0 h ns wo wst de us→us.length=l.length→Vb wo wst us ns→
   Gp T 144 (vArgs lo p dep) h (Sv lo) (fun v h1=>VQ lo bb h0 (treeS kerf l f p ns) ns wo wst de dep us v h1∧lo+6∈h1.log∧Dirty h1 (lo+6)) (VP lo (treeS kerf l f p ns))):
 WE T n0 none vis4 (KB 0 (visEnd lo bb h0 (joinS kerf si i (treeS kerf l f one ns) (treeS kerf l f two (ns.drop (treeS kerf l f one ns).2))) (x::ns) wo wst de dep us))
  [(1, .int .i64 dep),(5, .pointer (some ⟨lo+2,0,none⟩)),(6, .pointer (some ⟨lo+7,0,none⟩)),(10, .pointer (some ⟨k1,0,none⟩)),(11, .pointer (some ⟨k1+1,0,none⟩))] [] h:=by
 have hn12:=(chk_iff.1 hc).1
 have T1:=tree_bd hc f one ns o1 o2
 have l8:=S.lo8
 have hde2:0≤mx de dep∧mx de dep≤3000:=by unfold mx;split<;>omega
 have C1:=ih one ns {h with log:=[]} (dep+1) wo wst (mx de dep) us o1 o2 o3 (by omega) hde2 hlen hk (.of S.wf) (S.st.log []) hul hb
 have gv:=S.st.vis
 generalize hr1:treeS kerf l f one ns=r1 at*
 obtain⟨one1,one2⟩:=one
 obtain⟨two1,two2⟩:=two
 dsimp only at g10 g11 T1
 unfold vArgs pairV at C1
 unfold vis4
 refine y4 ?_;refine yL ?_;refine yN ?_;refine yM ?_;refine yadd ?_
 refine yC ?_
 refine FW.gpk (Gp.mono C1 (Q':=fun v h'=>VQ lo bb h0 r1 ns wo wst (mx de dep) (dep+1) us v h'∧Dirty h' (lo+6)) fun v h' q=>⟨q.1,q.2.2⟩) (fun v h' m q=>⟨q.1.log m,q.2⟩) (fun v h' m q=>q) ?_ ?_
 ·rintro v h5 w5 l5 ⟨⟨rfl,ok1,V5⟩,d5⟩
  have S5:=S.call w5 l5 V5 d5
  have g11':=(w5.old (k1+1) kn.2 (by unfold Sv;omega)).trans g11
  have n5:=w5.next
  have C3:=nothing125n F.toFnsNd (h:={h5 with log:=[]}) (.of S5.wf) (two1,two2)
  have g6:=S5.st.out
  have gv5:=S5.st.vis
  have ml:(ns.drop r1.2).length=ns.length-r1.2:=List.length_drop
  have ul:(List.zipWith (· + ·) us r1.1.used).length=l.length:=by rw[List.length_zipWith,hul,T1.1.len];omega
  have hb5:=hb.next T1.1 T1.2
  have dp:=T1.1.depth
  have hde5:0≤mx (mx de dep) (dep+1+r1.1.depth)∧mx (mx de dep) (dep+1+r1.1.depth)≤3000:=by simp only[mx];(repeat' split)<;>omega
  unfold pairV at C3
  clear C1 g10 g11 gv V5 d5 w5 l5
  refine y3 ?_;refine wE_seq ?_;refine y4 ?_;refine yN ?_
  refine yC ?_
  refine FW.pu C3 ?_
  clear C3
  by_cases hn:two1<1∨two2<1
  ·have S6:=S5.setOut (wo+r1.1.worth) (wst-r1.1.cells) (mx (mx (mx de dep) (dep+1+r1.1.depth)) (dep+1))
   rw[decide_eq_true hn,join_one (tn.1 hn) ok1]
   refine y3 ?_;refine yY ?_;refine y4 ?_;refine yF ?_;refine yL ?_;refine yM ?_
   refine yadd ?_;refine wO_val (a_max (by exact rfl) (by exact rfl)) ?_;refine yF ?_;refine yS ?_;refine y3 ?_;refine wE_ret ?_;refine kS_r ?_;refine kB_r ?_
   exact endT_ret S6.lg1 rfl ⟨⟨rfl,ok1,S6.st.cast rfl rfl rfl (by simp only[mx];(repeat' split)<;>omega) rfl⟩,S6.lg2,S6.dty⟩
  ·have C2:=ih (two1,two2) (ns.drop r1.2) {h5 with log:=[]} (dep+1) _ _ _ _ ⟨by dsimp only;omega,t2a.1⟩ ⟨by dsimp only;omega,t2a.2⟩ t3 (by omega) hde5 (by omega) (fun x hx=>hk x (List.mem_of_mem_drop hx)) (.of S5.wf) (S5.st.log []) ul hb5
   rw[decide_eq_false hn]
   generalize hr2:treeS kerf l f (two1,two2) (ns.drop r1.2)=r2 at*
   unfold vArgs pairV at C2
   refine y3 ?_;refine yX ?_;refine wE_skip ?_;refine kS_n ?_;refine wE_region ?_;refine yL ?_;refine yN ?_
   refine yM ?_;refine yadd ?_
   refine yC ?_
   refine FW.gpk (Gp.mono C2 (Q':=fun v h'=>VQ lo bb h0 r2 (ns.drop r1.2) (wo+r1.1.worth) (wst-r1.1.cells) (mx (mx de dep) (dep+1+r1.1.depth)) (dep+1) (List.zipWith (· + ·) us r1.1.used) v h'∧Dirty h' (lo+6)) fun v h' q=>⟨q.1,q.2.2⟩) (fun v h' m q=>⟨q.1.log m,q.2⟩) (fun v h' m q=>q) ?_ ?_
   ·rintro v h7 w7 l7 ⟨⟨rfl,ok2,V7⟩,d7⟩
    have S7:=S5.call w7 l7 V7 d7
    rw[join_two (fun q=>hn (tn.2 q)) ok1 ok2]
    refine wO_nil ?_;refine y1 ?_;refine kB_n ?_
    refine endT_end S7.lg1 rfl ⟨⟨rfl,rfl,S7.st.cast ?_ (Int.add_assoc ..) (by dsimp only;omega) (by simp only[mx];(repeat' split)<;>omega) (zip_assoc ..).symm⟩,S7.lg2,S7.dty⟩
    rw[List.drop_drop,show 1+r1.2+r2.2=(r1.2+r2.2)+1 by omega]
    rfl
   ·rintro v h7 w7 ⟨rfl,nok,four⟩
    exact kR_p (kB_p (endT_pan (fun z hz=>(w7.log z hz).elim (S5.lg1 z) id) ⟨rfl,join_no2 (fun q=>hn (tn.2 q)) nok,four⟩))
 ·rintro v h5 w5 ⟨rfl,nok,four⟩
  exact kR_p (kS_p (kB_p (endT_pan (fun z hz=>(w5.log z hz).elim (S.lg1 z) id) ⟨rfl,join_no nok,four⟩)))
set_option maxHeartbeats 32000000 in
theorem visit_cut(F:FnsVs T){kerf:Int}{l:List Kd}(hc:chk kerf l=0){lo bb c wc n0 f:Nat}{sa wa:Option Addr}{h0 h:Heap}(hben:h0.get bb=some (.cells [.slice sa l.length c, .int .i64 kerf, .slice wa l.length wc] true 1))(hbb:bb<lo)
 {p:Int×Int}{x:Nat×Int}{ns:List (Nat×Int)}{dep wo wst de:Int}{us:List Int}(h1:1≤p.1∧p.1≤16)(h2:1≤p.2∧p.2≤16)(hf:p.1+p.2≤f+1)(hdep:0≤dep∧dep+(f+1)≤1000)(hde:0≤de∧de≤3000)(hlen:ns.length≤1000)(hk:∀x∈ns,x.1<256)(hul:us.length=l.length)(hb:Vb wo wst us ns)
 (hx1:x.1=3∨x.1=4)(hat:1≤x.2∧x.2≤sizeI x p-1)(S:Stg lo bb n0 h0 h p x ns wo wst (mx de dep) us)
 (ih:∀(p:Int×Int) (ns:List (Nat×Int)) (h:Heap) (dep wo wst de:Int) (us:List Int),1≤p.1∧p.1≤16→1≤p.2∧p.2≤16→p.1+p.2≤f→(0≤dep∧dep+f≤1000)→(0≤de∧de≤3000)→ns.length≤1000→(∀x∈ns,x.1<256)→Rdy h→Vst lo bb h0 h ns wo wst de us→us.length=l.length→Vb wo wst us ns→
   Gp T 144 (vArgs lo p dep) h (Sv lo) (fun v h1=>VQ lo bb h0 (treeS kerf l f p ns) ns wo wst de dep us v h1∧lo+6∈h1.log∧Dirty h1 (lo+6)) (VP lo (treeS kerf l f p ns))):
 WE T n0 none vis2 (visEnd lo bb h0 (joinS kerf (sizeI x p) x.2 (treeS kerf l f (oneI x p) ns) (treeS kerf l f (twoI kerf x p) (ns.drop (treeS kerf l f (oneI x p) ns).2))) (x::ns) wo wst de dep us) (vEnv lo n0 dep) [] h:=by
 obtain⟨hc1,hc2,hc3,hc4⟩:=chk_iff.1 hc
 obtain⟨p1,p2⟩:=p
 obtain⟨k,i⟩:=x
 dsimp only at h1 h2 hf hx1 hat⊢
 obtain⟨a,rfl⟩:=Int.eq_ofNat_of_zero_le (show 0≤p1 by omega)
 obtain⟨b,rfl⟩:=Int.eq_ofNat_of_zero_le (show 0≤p2 by omega)
 obtain⟨i,rfl⟩:=Int.eq_ofNat_of_zero_le (show 0≤i by omega)
 have hsz:sizeI (k,(i:Int)) ((a:Int),(b:Int))=if k=3 then(a:Int)else b:=rfl
 have h1s:sizeI (k,(i:Int)) ((a:Int),(b:Int))≤16:=by rw[hsz];split<;>omega
 have o1:1≤(oneI (k,(i:Int)) ((a:Int),(b:Int))).1∧(oneI (k,(i:Int)) ((a:Int),(b:Int))).1≤16:=by unfold oneI;split<;>dsimp only<;>omega
 have o2:1≤(oneI (k,(i:Int)) ((a:Int),(b:Int))).2∧(oneI (k,(i:Int)) ((a:Int),(b:Int))).2≤16:=by unfold oneI;split<;>dsimp only<;>omega
 have o3:(oneI (k,(i:Int)) ((a:Int),(b:Int))).1+(oneI (k,(i:Int)) ((a:Int),(b:Int))).2≤f:=by
  rw[hsz]at hat
  unfold oneI
  split<;>rename_i q<;>dsimp only at q⊢
  ·rw[if_pos q]at hat;omega
  ·rw[if_neg q]at hat;omega
 have t2a:(twoI kerf (k,(i:Int)) ((a:Int),(b:Int))).1≤16∧(twoI kerf (k,(i:Int)) ((a:Int),(b:Int))).2≤16:=by
  unfold twoI;split<;>dsimp only<;>omega
 have t3:(twoI kerf (k,(i:Int)) ((a:Int),(b:Int))).1+(twoI kerf (k,(i:Int)) ((a:Int),(b:Int))).2≤f:=by
  unfold twoI;split<;>dsimp only<;>omega
 have tn:((twoI kerf (k,(i:Int)) ((a:Int),(b:Int))).1<1∨(twoI kerf (k,(i:Int)) ((a:Int),(b:Int))).2<1)↔sizeI (k,(i:Int)) ((a:Int),(b:Int))-i-kerf<1:=by
  rw[hsz]
  unfold twoI
  split<;>dsimp only<;>omega
 have CS:=split106 F.toFnsC.p F.f106 (h:={h with log:=[]}) (.of S.wf) (bb:=bb) ((S.st.old bb hbb).trans hben) (by have:=S.nx;have:=S.lo8;show bb<h.next;omega) (kerf:=kerf) ⟨hc2.1,by omega⟩ (x:=(k,i)) (a:=a) (b:=b) hx1 (by dsimp only;omega) (by omega) (by omega)
 have TB1:=tree_bd hc f (oneI (k,(i:Int)) ((a:Int),(b:Int))) ns o1 o2
 rw[←oneI_B,←twoI_B]at CS
 generalize hone:oneI (k,(i:Int)) ((a:Int),(b:Int))=one at*
 generalize htwo:twoI kerf (k,(i:Int)) ((a:Int),(b:Int))=two at*
 generalize hsi:sizeI (k,(i:Int)) ((a:Int),(b:Int))=si at*
 obtain⟨one1,one2⟩:=one
 obtain⟨two1,two2⟩:=two
 have nx:=S.nx
 have l8:=S.lo8
 have g9:=S.gn
 have g7:=S.gx
 have g4:=S.st.bx
 dsimp only at g9 g7
 unfold boardV nodeV pairV at CS
 clear hone htwo hsi hsz hben
 unfold vis2 vEnv
 rcases hx1 with rfl|rfl
 ·refine y4 ?_;refine yF ?_;refine yL ?_;refine y3 ?_;refine wE_block ?_;refine wE_seq ?_;refine y4 ?_
  refine yf ?_;refine yM ?_;refine y3 ?_;refine yX ?_;refine wE_region ?_;refine yf ?_
  refine yM ?_;refine y3 ?_;refine yX ?_;refine wE_seq ?_;refine y4 ?_;refine yt ?_;refine yM ?_
  refine y3 ?_;refine yY ?_;refine wE_skip ?_;refine kS_n ?_;refine yY ?_;refine y4 ?_;refine yL ?_
  refine yN ?_;refine yN ?_
  refine yC ?_
  refine FW.pu CS ?_
  clear CS
  refine yM ?_
  refine yE ?_
  refine yE ?_
  refine wO_val a_new ?_
  refine wO_val a_new ?_
  refine yS ?_
  refine yS ?_
  refine y3 ?_
  exact visit_cut2 F hc o1 o2 o3 t2a t3 tn hdep hde hlen hk hul hb (S.ext ((((Ext.refl h).push _).push _).wr (Nat.le_refl _) (by omega)|>.wr (Nat.le_succ _) (by(simp only[z1,z2];omega)))) (by(simp(disch:=first|omega|(simp only[z1,z2];omega))only[z3,z4,z5,z6,z7,z1,z2, *];exact rfl)) (by(simp(disch:=first|omega|(simp only[z1,z2];omega)|(simp only[z1,z2];done)|fail)only[z8,z4,z5,z9,z7,z1,z2, *];exact rfl)) ⟨nx,by(simp only[z1,z2];omega)⟩ ih
 ·refine y4 ?_;refine yF ?_;refine yL ?_;refine y3 ?_;refine wE_block ?_;refine wE_seq ?_;refine y4 ?_
  refine yf ?_;refine yM ?_;refine y3 ?_;refine yX ?_;refine wE_region ?_;refine yf ?_
  refine yM ?_;refine y3 ?_;refine yX ?_;refine wE_seq ?_;refine y4 ?_;refine yf ?_;refine yM ?_
  refine y3 ?_;refine yX ?_;refine wE_region ?_;refine yt ?_;refine yM ?_;refine y3 ?_;refine yY ?_;refine y4 ?_;refine yL ?_;refine yN ?_
  refine yN ?_
  refine yC ?_
  refine FW.pu CS ?_
  clear CS
  refine yM ?_
  refine yE ?_
  refine yE ?_
  refine wO_val a_new ?_
  refine wO_val a_new ?_
  refine yS ?_
  refine yS ?_
  refine y3 ?_
  exact visit_cut2 F hc o1 o2 o3 t2a t3 tn hdep hde hlen hk hul hb (S.ext ((((Ext.refl h).push _).push _).wr (Nat.le_refl _) (by omega)|>.wr (Nat.le_succ _) (by(simp only[z1,z2];omega)))) (by(simp(disch:=first|omega|(simp only[z1,z2];omega))only[z3,z4,z5,z6,z7,z1,z2, *];exact rfl)) (by(simp(disch:=first|omega|(simp only[z1,z2];omega)|(simp only[z1,z2];done)|fail)only[z8,z4,z5,z9,z7,z1,z2, *];exact rfl)) ⟨nx,by(simp only[z1,z2];omega)⟩ ih
end Go.A.Pk
end
section
set_option maxRecDepth 100000
namespace Go.A.Pk
variable {T:Nat→Option AFunc}
theorem z12_rep:z12=List.replicate 12 0:=rfl
theorem zip_zero{us:List Int}(h:us.length≤12):List.zipWith (· + ·) us z12=us:=by
 rw[z12_rep]
 apply List.ext_getElem
 ·simp;omega
 ·intro i h1 h2
  simp only[List.getElem_zipWith,List.getElem_replicate]
  omega
theorem zip_one{us:List Int}{i:Nat}(h:us.length≤12)(hi:i<us.length):List.zipWith (· + ·) us (z12.set i 1)=us.set i (us.getD i 0+1):=by
 rw[z12_rep]
 apply List.ext_getElem
 ·simp;omega
 ·intro j h1 h2
  simp only[List.getElem_zipWith,List.getElem_set,List.getElem_replicate]
  split
  ·rename_i e
   subst e
   rw[List.getD_eq_getElem?_getD,List.getElem?_eq_getElem hi]
   rfl
  ·omega
theorem tree_no{kerf:Int}{l:List Kd}{f:Nat}{p:Int×Int}{x:Nat×Int}{ns:List (Nat×Int)}(k4:x.1≤4)(h:okN l p x=false):(treeS kerf l (f+1) p (x::ns)).1.ok=false:=by
 rw[treeS]
 unfold okN at h
 by_cases h3:x.1=3∨x.1=4
 ·rw[if_neg (by omega),if_neg (by omega)]at h
  rw[if_pos h3,if_neg (of_decide_eq_false h)]
  rfl
 ·rw[if_neg h3,nodeS]
  by_cases h0:x.1=0
  ·rw[if_pos h0]at h⊢
   exact h
  ·rw[if_neg h0]at h⊢
   by_cases h1:x.1=1∨x.1=2
   ·rw[if_pos h1]at h⊢
    exact h
   ·omega
theorem tree_zero{kerf:Int}{l:List Kd}{f:Nat}{p:Int×Int}{x:Nat×Int}{ns:List (Nat×Int)}(h0:x.1=0)(h:okN l p x=true):treeS kerf l (f+1) p (x::ns)=({sm0 with ok:=true},1):=by
 unfold okN at h
 rw[if_pos h0]at h
 rw[treeS,if_neg (by omega),nodeS,if_pos h0,h]
theorem tree_cutE{kerf:Int}{l:List Kd}{f:Nat}{p:Int×Int}{x:Nat×Int}{ns:List (Nat×Int)}(h3:x.1=3∨x.1=4)(h:okN l p x=true):(1≤x.2∧x.2≤sizeI x p-1)∧treeS kerf l (f+1) p (x::ns)=joinS kerf (sizeI x p) x.2 (treeS kerf l f (oneI x p) ns) (treeS kerf l f (twoI kerf x p) (ns.drop (treeS kerf l f (oneI x p) ns).2)):=by
 unfold okN at h
 rw[if_neg (by omega),if_neg (by omega)]at h
 have h:=of_decide_eq_true h
 exact⟨h,by rw[treeS,if_pos h3,if_pos h]⟩
theorem tree_plankE{kerf:Int}{l:List Kd}{f:Nat}{p:Int×Int}{x:Nat×Int}{ns:List (Nat×Int)}(h1:x.1=1∨x.1=2)(h:okN l p x=true):∃i k,x.2=((i:Nat):Int)∧l[i]? =some k∧treeS kerf l (f+1) p (x::ns)=(⟨true,k.worth,p.1*p.2,0,z12.set i 1⟩,1):=by
 unfold okN at h
 rw[if_neg (by omega),if_pos h1]at h
 obtain⟨x1,x2⟩:=x
 by_cases hk:0≤x2∧x2<(l.length:Int)
 ·obtain⟨i,rfl⟩:=Int.eq_ofNat_of_zero_le hk.1
  have hi:i<l.length:=by omega
  have hkl:l[i]? =some l[i]:=List.getElem?_eq_getElem hi
  refine⟨i,l[i],rfl,hkl,?_⟩
  rw[plank_at hkl]at h
  dsimp only at h1
  rw[treeS,if_neg (by dsimp only;omega),nodeS,if_neg (by dsimp only;omega),if_pos h1,plankS,if_pos (by dsimp only;omega)]
  dsimp only
  rw[Int.toNat_natCast,hkl]
  dsimp only
  rw[h]
 ·rw[plank_no hk]at h
  cases h
set_option maxHeartbeats 64000000 in
theorem visit144(F:FnsVs T){kerf:Int}{l:List Kd}(hc:chk kerf l=0){lo bb c wc:Nat}{sa wa:Option Addr}{h0:Heap}(hlo:h0.next=lo)(hben:h0.get bb=some (.cells [.slice sa l.length c, .int .i64 kerf, .slice wa l.length wc] true 1))(hbb:bb<lo)
 (hks:SliceOf h0 5 (.slice sa l.length c) l.length (kcs l))(hws:SliceOf h0 1 (.slice wa l.length wc) l.length (ints (wsP l))):∀(f:Nat) (p:Int×Int) (ns:List (Nat×Int)) (h:Heap) (dep wo wst de:Int) (us:List Int),
 1≤p.1∧p.1≤16→1≤p.2∧p.2≤16→p.1+p.2≤f→(0≤dep∧dep+f≤1000)→(0≤de∧de≤3000)→ns.length≤1000→(∀x∈ns,x.1<256)→Rdy h→Vst lo bb h0 h ns wo wst de us→us.length=l.length→Vb wo wst us ns→
 Gp T 144 (vArgs lo p dep) h (Sv lo) (fun v h1=>VQ lo bb h0 (treeS kerf l f p ns) ns wo wst de dep us v h1∧lo+6∈h1.log∧Dirty h1 (lo+6)) (VP lo (treeS kerf l f p ns)):=by
 intro f
 induction f with
 |zero=>intro p ns h dep wo wst de us h1 h2 hf;omega
 |succ f ih=>
  intro p ns h dep wo wst de us h1 h2 hf hdep hde hlen hk hr s hul hb
  have hp:=F.toFnsC.p
  have nx:=s.nx
  refine Gp.ofK hp F.f144 (show lo+6<h.next by omega) ?_
  have s1:Vst lo bb h0 (h.push (.cells [.int .i64 p.1, .int .i64 p.2] true 1)) ns wo wst de us:=s.ext ((Ext.refl h).push _)
  obtain⟨v,hR,r⟩:=s.rest
  obtain⟨p1,p2⟩:=p
  cases ns with
  |nil=>
   obtain⟨qa,qc,rfl,hcap⟩:=r.cap
   unfold vArgs pairV
   refine y4 ?_;refine yB ?_;refine y3 ?_;refine y4 ?_
   refine yL ?_;refine yD ?_;refine wO_val (a_num (by exact rfl) (by exact rfl) (by exact m_geq)) ?_
   refine yM ?_;refine yP ?_;refine yP ?_;refine yP ?_;refine yP ?_;refine yP ?_;refine yP ?_;refine yU ?_
   refine yC ?_
   refine FW.pan (need_no F.toFnsNd) ?_
   refine kR_p (kS_p (endT_pan (by rw[Heap.log_push,hr.log];simp) ⟨rfl,rfl,s1.four⟩))
  |cons x ns=>
   rcases r.sl.inv with⟨_,_,hz,_⟩|⟨b,o,cap,hv,sl,hc2⟩
   ·simp at hz
   have r':=r
   subst hv
   obtain⟨vs,own,t,g1,g2⟩:=first_node sl
   obtain⟨n1,n2⟩:=node_get g2
   have n1':lget vs (o+0*2+0)=some (.int .u8 x.1):=n1
   have kb:=sl.lt
   have hx256:=hk x (List.mem_cons_self ..)
   simp only[List.length_cons]at hR hlen
   by_cases k4:x.1≤4
   ·unfold vArgs pairV
    refine y4 ?_;refine yB ?_;refine y3 ?_;refine y4 ?_
    refine yL ?_;refine yD ?_
    refine yt ?_;refine yM ?_;refine yO ?_
    refine yL ?_;refine yO ?_
    refine wO_val (a_iaddrS (i:=0) (by exact rfl) (by exact rfl) (by omega)) ?_
    refine yO ?_;refine yF ?_;refine yO ?_;refine wO_val (a_load (by exact rfl) (by(simp(disch:=first|omega|(simp only[z1,z2];omega))only[z3,z4,z5,z6,z7,z1,z2, *];exact rfl)) (by assumption)) ?_
    refine yO ?_;refine wO_val (a_conv (by exact rfl) (by exact wrapA_i64 (by omega) (by omega))) ?_;refine yO ?_;refine yt ?_;refine yT ?_
    refine yC ?_
    refine FW.pu (need_ok F.toFnsNd (.of ((hr.wf).push _))) ?_
    refine y3 ?_;refine y4 ?_
    refine yL ?_
    refine wO_val (a_iaddrS (i:=0) (by exact rfl) (by exact rfl) (by omega)) ?_
    refine wO_val (a_loadN (by exact rfl) (by(simp(disch:=first|omega|(simp only[z1,z2];omega))only[z3,z4,z5,z6,z7,z1,z2, *];exact rfl)) g2 (by exact rfl)) ?_
    refine wO_val a_new ?_;refine yS ?_
    refine y3 ?_;refine y4 ?_
    refine yL ?_
    refine WO.gen ?_
    intro hA hAe
    have xA:Ext h hA:=by rw[hAe];exact(((Ext.refl h).push _).push _).wr (by(simp only[z1,z2];omega)) (by(simp only[z1,z2];omega))
    have gx:hA.get h.next=some (.cells [.int .i64 p1, .int .i64 p2] true 1):=by rw[hAe];(simp(disch:=first|omega|(simp only[z1,z2];omega))only[z3,z4,z5,z6,z7,z1,z2, *];exact rfl)
    have gn:hA.get (h.next+1)=some (.cells [.int .u8 x.1, .int .i64 x.2] true 1):=by rw[hAe];(simp(disch:=first|omega|(simp only[z1,z2];omega)|(simp only[z1,z2];done)|fail)only[z8,z4,z5,z9,z7,z1,z2, *];exact rfl)
    have nA:h.next+1<hA.next:=by rw[hAe];(simp only[z1,z2];omega)
    have wA:=xA.wf hr.wf
    have lA:=xA.log.trans hr.log
    have sA:=s.ext xA
    have rA:=r'.ext xA
    clear hAe s1 g1 g2 n1 n1' n2 kb hR r r' sl xA
    refine wO_slice1 rA (by omega) (by exact rfl) (by exact rfl) (fun z hz=>by unfold Sv at hz;omega) ?_
    rintro _ hB xB ⟨b',o',n',c',rfl⟩ rB
    have hR2:∃v,hB.get (lo+6)=some (.cells [v] true 1):=(sA.ext xB).rest.imp fun _ q=>q.1
    obtain⟨v,hR2⟩:=hR2
    have nB:=xB.next
    refine yS ?_
    refine y3 ?_
    refine WE.genT ?_
    intro hC hCe
    have S1:Stg lo bb h.next h0 hC (p1,p2) x ns wo wst de us:=by
     rw[hCe]
     exact .start (sA.ext xB) (xB.wf wA) rB (xB.log.trans lA) ((xB.old _ (by omega)).trans gx) ((xB.old _ (by omega)).trans gn) (by omega) nx
    clear hCe sA rA rB xB hR2 v gx gn nA wA lA
    have hn12:=(chk_iff.1 hc).1
    have hx0:=hb.wo
    have hx1:=hb.wst
    have hx2:=hb.us
    simp only[List.length_cons]at hx0 hx1 hx2
    refine visit_draw F hc hlo hben hbb hks h1 h2 k4 S1 (fun hok=> ?_) (fun hno=> ?_)
    ·refine visit_depth S1 fun hD S2=> ?_
     by_cases h3:x.1=3∨x.1=4
     ·obtain⟨hat,hT⟩:=tree_cutE (kerf:=kerf) (f:=f) (ns:=ns) h3 hok
      rw[hT]
      exact visit_cut F hc hben hbb h1 h2 (by omega) (by omega) hde (by omega) (fun y hy=>hk y (List.mem_cons_of_mem _ hy)) hul ⟨by omega,by omega,fun u hu=>by have:=hx2 u hu;omega⟩ h3 hat S2 ih
     ·by_cases h12:x.1=1∨x.1=2
      ·obtain⟨i,k,hxi,hkl,hT⟩:=tree_plankE (kerf:=kerf) (f:=f) (ns:=ns) h12 hok
       rw[hT]
       have hi:i<l.length:=(List.getElem?_eq_some_iff.1 hkl).1
       refine visit_plank hc hlo hben hbb hws h1 h2 h12 hxi hkl hul (by omega) (by omega) (fun u hu=>by have:=hx2 u hu;omega) S2 fun h' S3=> ?_
       exact endT_end S3.lg1 rfl ⟨⟨rfl,rfl,S3.st.cast rfl rfl rfl (by dsimp only;rw[Int.add_zero]) (zip_one (by omega) (by omega)).symm⟩,S3.lg2,S3.dty⟩
      ·have h00:x.1=0:=by omega
       rw[tree_zero h00 hok]
       have gn:=S2.gn
       obtain⟨x1,x2⟩:=x
       dsimp only at h00
       subst h00
       unfold vis2 vEnv
       refine y4 ?_;refine yF ?_;refine yL ?_;refine y3 ?_;refine wE_block ?_;refine wE_seq ?_;refine y4 ?_
       refine yf ?_;refine yM ?_;refine y3 ?_;refine yX ?_;refine wE_region ?_;refine yf ?_
       refine yM ?_;refine y3 ?_;refine yX ?_;refine wE_seq ?_;refine y4 ?_;refine yf ?_;refine yM ?_
       refine y3 ?_;refine yX ?_;refine wE_region ?_;refine yf ?_;refine yM ?_;refine y3 ?_;refine yX ?_;refine wE_skip ?_;refine kB_n ?_
       exact endT_end S2.lg1 rfl ⟨⟨rfl,rfl,S2.st.cast rfl (Int.add_zero _).symm (Int.sub_zero _).symm (by show _=mx de (dep+0);rw[Int.add_zero]) (zip_zero (by omega)).symm⟩,S2.lg2,S2.dty⟩
    ·exact endT_pan S1.lg1 ⟨rfl,tree_no k4 hno,S1.st.four⟩
   ·unfold vArgs pairV
    have hT:(treeS kerf l (f+1) (p1,p2) (x::ns)).1.ok=false:=by
     rw[treeS,if_neg (by omega),nodeS,if_neg (by omega),if_neg (by omega)]
     rfl
    refine y4 ?_;refine yB ?_;refine y3 ?_;refine y4 ?_
    refine yL ?_;refine yD ?_
    refine yt ?_;refine yM ?_;refine yO ?_
    refine yL ?_;refine yO ?_
    refine wO_val (a_iaddrS (i:=0) (by exact rfl) (by exact rfl) (by omega)) ?_
    refine yO ?_;refine yF ?_;refine yO ?_;refine wO_val (a_load (by exact rfl) (by(simp(disch:=first|omega|(simp only[z1,z2];omega))only[z3,z4,z5,z6,z7,z1,z2, *];exact rfl)) (by assumption)) ?_
    refine yO ?_;refine wO_val (a_conv (by exact rfl) (by exact wrapA_i64 (by omega) (by omega))) ?_;refine yO ?_;refine yf ?_;refine yT ?_
    refine yC ?_
    refine FW.pan (need_no F.toFnsNd) ?_
    refine kR_p (kS_p (endT_pan (by rw[Heap.log_push,hr.log];simp) ⟨rfl,hT,s1.four⟩))
end Go.A.Pk
end
section
set_option maxRecDepth 100000
namespace Go.A.Pk
variable {T:Nat→Option AFunc} {base:Nat} {rnd:Option Nat} {Q:XQ} {e:Env} {ds:Dfs} {h:Heap}
theorem wO_dfer{dst:Option Nat}{op:AOp}{os:List AOper}{f:Value}{args:List Value}(ho:aop h base e op=some (.dfer f args))(H:WO T base none Q os (dstE e dst (.tuple #[])) ((f,args)::ds) h):WO T base none Q (⟨dst,op,none⟩::os) e ds h:=by
 obtain⟨x,e',ds',h',⟨m,h1⟩,h2⟩:=H.ok
 exact⟨x,e',ds',h',⟨m+1,fun n hn=>by
  obtain⟨k,rfl⟩:∃k,n=k+1:=⟨n-1,by omega⟩
  simp only[aops,wantedA,ho];exact h1 k (by omega)⟩,h2⟩
theorem merge_mem2{base z:Nat}:∀{m l:List Nat},z∈mergeLog base l m→z∈l∨(z∈m∧z<base)
 |[],l,h=> .inl h
 |b::m,l,h=>by
  simp only[mergeLog]at h
  rcases merge_mem2 (m:=m) h with h|⟨h,hb⟩
  ·revert h
   cases hc:Nat.blt b base with
   |true=>
    have hb:b<base:=by rw[blt_eq]at hc;simpa using hc
    simp only[cond_true]
    cases hl:lhas l b with
    |true=>simp only[cond_true];exact .inl
    |false=>
     simp only[cond_false]
     intro h
     rcases List.mem_cons.1 h with rfl|h
     ·exact .inr ⟨List.mem_cons_self ..,hb⟩
     ·exact .inl h
   |false=>simp only[cond_false];exact .inl
  ·exact .inr ⟨List.mem_cons_of_mem _ h,hb⟩
theorem FW.gpb{f:Nat}{args:List Value}{S:Nat→Prop}{Q' Qp:Value→Heap→Prop}{K:Env→Dfs→Heap→Prop}{dst:Option Nat}(H:Gp T f args {h with log:=[]} S Q' Qp)(hS:∀z,S z→base≤z)(hl:h.log=[])(hlog:∀v (h':Heap) l,Q' v h'→Q' v {h' with log:=l})(hlogp:∀v (h':Heap) l,Qp v h'→Qp v {h' with log:=l})
 (hK:∀v h',Ws S h h'→h'.log=[]→Q' v h'→K (dstE e dst v) ds h')(hP:∀v h',Ws S h h'→h'.log=[]→Qp v h'→Q (.panic v) e ds h'):FW T (.func f) args {h with log:=[]} (KO K Q base dst e ds h.log):=by
 refine .func (CW.mono H ?_)
 rintro r h2 ⟨hx,hq⟩
 have hlz:mergeLog base h.log h2.log=[]:=by
  rw[List.eq_nil_iff_forall_not_mem]
  intro z hz
  rcases merge_mem2 hz with q|⟨q,hb⟩
  ·rw[hl]at q;cases q
  ·rcases hx.log z q with q|q
   ·cases q
   ·have:=hS z q;omega
 rcases hq with⟨v,rfl,hq⟩|⟨v,rfl,hq⟩
 ·exact⟨hK v _ hx.call hlz (hlog v h2 _ hq)⟩
 ·exact⟨hP v _ hx.call hlz (hlogp v h2 _ hq)⟩
theorem lrow_zero:∀n,lrow n [.int .i64 0]=ints (List.replicate n 0)
 |0=>rfl
 |n+1=>by
  have ih:=lrow_zero n
  rw[List.replicate_succ]
  show lrow (n+1) [.int .i64 0]= .int .i64 0::ints (List.replicate n 0)
  rw[←ih]
  rfl
theorem wD_mkSlice{ops:List AOper}{bf:List Nat}{rs rs':List Rec}{Q:Env→Heap→Prop}{i mask n:Nat}{is:List Nat}{dst:Option Nat}{g:Option (Nat×Bool)}{er:Env}{x y:Operand}(ho:lget ops i=some ⟨dst, .mkSlice [.int .i64 0] 8 x y,g⟩)(hm:lget bf i=some mask)(he:keepE e (slotsA ⟨dst, .mkSlice [.int .i64 0] 8 x y,g⟩)=er)(hw:wantedA er g=some true)
 (hx:ev {h with log:=[]} er x=some (.int .i64 (n:Nat)))(hy:ev {h with log:=[]} er y=some (.int .i64 (n:Nat)))(hn:n<1000)(hrs:recsAfter (h.push (.cells (ints (List.replicate n 0)) true 1)) base [] mask rs=some rs')
 (H:WD T base ops bf Q is rs' (dstE e dst (.slice (some ⟨h.next,0,none⟩) n n)) (h.push (.cells (ints (List.replicate n 0)) true 1))):WD T base ops bf Q (i::is) rs e h:=by
 rw[←lrow_zero]at hrs H
 exact wD_actH ho hm he hw rfl (a_mkSlice (h:={h with log:=[]}) hx hy (Nat.le_refl _) (by omega) (by omega) rfl) (eq_push _) (lg_push _) hrs H
def zero4:List Value:=[.int .i64 0, .int .i64 0, .int .i64 0, .slice none 0 0]
theorem defer_ok(hf:T 142=some f142){O K:Nat}:DW T 142 [.pointer (some ⟨O,0,none⟩), .pointer (some ⟨K,0,none⟩)] none h fun p h'=>p=none∧h'=h:=by
 refine .of hf ?_
 refine sE_seq (sE_region (sO_recN (sO_val (a_mov (by exact rfl)) (sO_nil ⟨rfl,?_⟩))))
 refine sE_seq (sE_region (sO_val (a_mov (by exact rfl)) (sO_val (show aop h h.next _ (.bin (.nil .iface true) (.tmp 6) (.const .nilIface))=some (.val (.bool false) h)from rfl) (sO_nil ⟨rfl,?_⟩))))
 exact sE_false rfl (sE_skip ⟨.inl rfl,rfl,rfl⟩)
theorem defer_pan(hf:T 142=some f142){O K:Nat}{vs:List Value}{b:Bool}(gO:h.get O=some (.cells vs true 1))(hv:vs.length=4)(gK:h.get K=some (.cells [.bool b] true 1))(hOK:O≠K)(hO:O<h.next)(hK:K<h.next):
 DW T 142 [.pointer (some ⟨O,0,none⟩), .pointer (some ⟨K,0,none⟩)] (some badV) h fun p h'=>p=none∧(∀z∈h'.log,z∈h.log∨z=O∨z=K)∧h'.get O=some (.cells zero4 true 1)∧h'.get K=some (.cells [.bool false] true 1):=by
 refine .of hf ?_
 refine sE_seq (sE_region (sO_recS (sO_val (a_mov (by exact rfl)) (sO_nil ⟨rfl,?_⟩))))
 refine sE_seq (sE_region (sO_val (a_mov (by exact rfl)) (sO_val (show aop h h.next _ (.bin (.nil .iface true) (.tmp 6) (.const .nilIface))=some (.val (.bool true) h)from rfl) (sO_nil ⟨rfl,?_⟩))))
 refine sE_true rfl ?_
 refine sE_seq (sE_seq (sE_region (sO_val (a_mov (by exact rfl)) (sO_val (show aop h h.next _ (.tassert 182 true (.agg #[]) (.tmp 9))=some (.val (.tuple #[.agg #[], .bool true]) h)from rfl) (sO_val (a_mov (by exact rfl)) (sO_val (a_extract (by exact rfl) (by exact rfl)) (sO_val (a_extract (by exact rfl) (by exact rfl)) (sO_val a_new
  (sO_val (a_store (b:=h.next) (o:=0) (vs:=[]) (ws:=[]) (by exact rfl) (by exact rfl) (z3 _ _) (by exact rfl) (by exact rfl)) (sO_val (a_mov (by exact rfl)) (sO_nil ⟨rfl,?_⟩)))))))))))
 have kO:O≠h.next:=by omega
 have kK:K≠h.next:=by omega
 have g1:((h.push (.cells [] true 1)).wr h.next h.next (.cells [] true 1)).get O=some (.cells vs true 1):=(z5 kO).trans ((z4 hO).trans gO)
 have g2:((h.push (.cells [] true 1)).wr h.next h.next (.cells [] true 1)).get K=some (.cells [.bool b] true 1):=(z5 kK).trans ((z4 hK).trans gK)
 have lg:((h.push (.cells [] true 1)).wr h.next h.next (.cells [] true 1)).log=h.log:=Heap.log_wr_new (Nat.le_refl _)
 refine sE_seq (sE_region (sO_val (a_mov (by exact rfl)) (sO_val (a_not (by exact rfl)) (sO_nil ⟨rfl,?_⟩))))
 refine sE_false rfl (sE_skip ⟨rfl,?_⟩)
 generalize((h.push (.cells [] true 1)).wr h.next h.next (.cells [] true 1))=H at*
 have g3:(H.wr h.next O (.cells zero4 true 1)).get K=some (.cells [.bool b] true 1):=(z5 (fun q=>hOK q.symm)).trans g2
 refine sE_region (sO_val (a_build (by exact rfl)) (sO_val (a_storeAll (cs:=zero4) (vs:=vs) (by exact rfl) (by exact rfl) g1 rfl hv rfl) (sO_val (a_store (ws:=[.bool false]) (by exact rfl) (by exact rfl) g3 (by exact rfl) (by exact rfl)) (sO_nil ⟨.inl rfl,rfl,?_,?_,?_⟩))))
 ·refine wr_log (S:=fun z=>z∈h.log∨z=O∨z=K) (wr_log (fun z hz=> .inl (lg▸hz)) (.inr (.inl rfl))) (.inr (.inr rfl))
 ·exact(z5 hOK).trans (Heap.get_wr_new g1)
 ·exact Heap.get_wr_new g3
end Go.A.Pk
end
section
set_option maxRecDepth 100000
namespace Go.A.Pk
variable {T:Nat→Option AFunc}
structure FnsWk (T:Nat→Option AFunc):Prop extends FnsVs T where
 f109:T 109=some f109
 f142:T 142=some f142
def WalkQ(kerf:Int)(l:List Kd)(p:Int×Int)(ns:List (Nat×Int))(v:Value)(h:Heap):Prop:=
 ((planS kerf l p ns).ok=true∧∃q,v= .tuple #[.agg #[.int .i64 (planS kerf l p ns).worth, .int .i64 (p.1*p.2-(planS kerf l p ns).cells), .int .i64 (planS kerf l p ns).depth, .slice (some ⟨q,0,none⟩) l.length l.length], .bool true]∧h.get q=some (.cells (ints ((planS kerf l p ns).used.take l.length)) true 1))∨
 ((planS kerf l p ns).ok=false∧v= .tuple #[.agg #[.int .i64 0, .int .i64 0, .int .i64 0, .slice none 0 0], .bool false])
theorem WalkQ.gc{kerf:Int}{l:List Kd}{p:Int×Int}{ns:List (Nat×Int)}{h:Heap}(v:Value)(h1:Heap)(hv:noRef v=true)(q:WalkQ kerf l p ns v h1):WalkQ kerf l p ns v h:=by
 rcases q with⟨_,q,rfl,_⟩|q
 ·simp[noRef,flatL,flat,scalL,scal,scal1]at hv
 ·exact .inr q
theorem zip_rep{n:Nat}:∀(us:List Int),n≤us.length→List.zipWith (· + ·) (List.replicate n 0) us=us.take n:=by
 intro us hu
 apply List.ext_getElem
 ·simp
 ·intro i h1 h2
  simp
theorem walk_pan{kerf:Int}{l:List Kd}{p:Int×Int}{ns:List (Nat×Int)}{b0:Nat}{e:Env}{h:Heap}(hf:T 142=some f142)(hno:(planS kerf l p ns).ok=false)(h6:geT e 6=some (.pointer (some ⟨b0+2,0,none⟩)))(h7:geT e 7=some (.pointer (some ⟨b0+3,0,none⟩)))(hl:h.log=[])(hn:b0+8≤h.next)
 (g2:∃vs:List Value,vs.length=4∧h.get (b0+2)=some (.cells vs true 1))(g3:h.get (b0+3)=some (.cells [.bool false] true 1)):endD T b0 [(6,some (some 4)),(7,some none)] (WalkQ kerf l p ns) (.panic badV) e [(.func (.func 142) #[] #[.pointer (some ⟨b0+2,0,none⟩), .pointer (some ⟨b0+3,0,none⟩)],[])] h:=by
 obtain⟨vs,hv,g2⟩:=g2
 obtain⟨q,h',hm,rfl,lg,gO,gK⟩:=defer_pan (h:={h with log:=[]}) hf g2 hv g3 (by omega) (show b0+2<h.next by omega) (show b0+3<h.next by omega)
 refine⟨⟨fun i=>nofun,142,_,_,_,rfl,none,h',hm,rfl,?_,[.agg #[.int .i64 0, .int .i64 0, .int .i64 0, .slice none 0 0], .bool false],?_, .inr ⟨hno,rfl⟩⟩⟩
 ·rw[hl,List.eq_nil_iff_forall_not_mem]
  intro z hz
  rcases merge_mem2 hz with q|⟨q,hb⟩
  ·cases q
  ·rcases lg z q with q|q
   ·cases q
   ·omega
 ·exact res_cells (b:=b0+2) (o:=0) (ws:=zero4) h6 gO rfl rfl (res_cell (b:=b0+3) (o:=0) h7 gK rfl res_nil)
theorem planS_no{kerf:Int}{l:List Kd}{p:Int×Int}{ns:List (Nat×Int)}(h:(treeS kerf l 32 p ns).1.ok=false):(planS kerf l p ns).ok=false:=by
 unfold planS
 rw[if_neg (fun q=>by rw[h]at q;exact Bool.false_ne_true q.1)]
 rfl
theorem planS_no2{kerf:Int}{l:List Kd}{p:Int×Int}{ns:List (Nat×Int)}(h:(treeS kerf l 32 p ns).2≠ns.length):(planS kerf l p ns).ok=false:=by
 unfold planS
 rw[if_neg (fun q=>h q.2)]
 rfl
theorem new_at{base:Nat}{e:Env}{h:Heap}{cs:List Value}{m:Nat}(hn:h.next=m):aop h base e (.new cs)=some (.val (.pointer (some ⟨m,0,none⟩)) (h.push (.cells cs true 1))):=by
 subst hn
 exact a_new
set_option maxHeartbeats 32000000 in
theorem walked109(F:FnsWk T){kerf:Int}{l:List Kd}(hc:chk kerf l=0){h:Heap}(hr:Rdy h){bb c wc:Nat}{sa wa:Option Addr}(gb:h.get bb=some (.cells [.slice sa l.length c, .int .i64 kerf, .slice wa l.length wc] true 1))(hks:SliceOf h 5 (.slice sa l.length c) l.length (kcs l))(hws:SliceOf h 1 (.slice wa l.length wc) l.length (ints (wsP l)))
 {ns:List (Nat×Int)}{qa:Option Addr}{qc:Nat}(hns:SliceOf h 2 (.slice qa ns.length qc) ns.length (ncI ns))(hu:U2 h (.slice qa ns.length qc))(hqc:qc<UNK∨qc=UNK)(hlen:ns.length≤1000)(hk:∀x∈ns,x.1<256){p:Int×Int}(h1:1≤p.1∧p.1≤16)(h2:1≤p.2∧p.2≤16):
 Al T 109 [.pointer (some ⟨bb,0,none⟩),pairV p, .slice qa ns.length qc] h (WalkQ kerf l p ns):=by
 have hp:=F.toFnsC.p
 refine Al.ofD hp F.f109 hr WalkQ.gc ?_
 have hn12:=(chk_iff.1 hc).1
 have kb:=WF.get_lt hr.wf gb
 obtain⟨p1,p2⟩:=p
 dsimp only at h1 h2
 have hpp:1≤p1*p2∧p1*p2≤256:=by
  have a1:=Int.mul_le_mul h1.1 h2.1 (by omega) (by omega)
  have a2:=Int.mul_le_mul h1.2 h2.2 (by omega) (by omega)
  omega
 have hmul:numOp .mul (.int .i64 p1) (.int .i64 p2)=some (.int .i64 (p1*p2)):=by
  simp[numOp,arith,wrapA_i64 (show -9223372036854775808≤p1*p2 by omega) (show p1*p2<9223372036854775808 by omega)]
 have HV:=visit144 F.toFnsVs hc (lo:=h.next) rfl gb kb hks hws 32
 unfold pairV
 refine y4 ?_;refine yB ?_;refine yB ?_;refine wO_val a_new ?_;refine wO_val a_new ?_;refine y3 ?_;refine y4 ?_
 refine wO_val (a_mkFunc (by exact rfl) (by exact rfl)) ?_
 refine wO_dfer (f:= .func (.func 142) #[] #[.pointer (some ⟨h.next+2,0,none⟩), .pointer (some ⟨h.next+3,0,none⟩)]) (args:=[]) rfl ?_
 refine y3 ?_;refine wE_seq ?_;refine wE_draw ?_;refine wD_quiet rfl rfl rfl (by exact rfl) (by exact rfl) (by exact rfl) (a_iaddrA (i:=0) (by exact rfl) (by exact rfl) (by omega)) ?_
 refine qL ?_
 refine wD_quiet rfl rfl rfl (by exact rfl) (by exact rfl) (by exact rfl) (a_iaddrA (i:=1) (by exact rfl) (by exact rfl) (by omega)) ?_
 refine qL ?_
 refine wD_quiet rfl rfl rfl (by exact rfl) (by exact rfl) (by exact rfl) (a_num (by exact rfl) (by exact rfl) (by with_reducible assumption)) ?_
 refine qL ?_
 refine wD_quiet rfl rfl rfl (by exact rfl) (by exact rfl) (by exact rfl) (a_nilchk (by exact rfl)) ?_;refine qF ?_;refine qF ?_
 refine qL ?_
 refine wD_quiet rfl rfl rfl (by exact rfl) (by exact rfl) (by exact rfl) (a_len1 (by exact rfl)) ?_
 refine wD_mkSlice (n:=l.length) rfl rfl rfl (by exact rfl) (by exact rfl) (by exact rfl) (by omega) (by apply ra_dropC rfl;apply ra_dropC rfl;apply ra_dropC rfl;apply ra_dropC rfl;apply ra_dropC rfl;apply ra_dropC rfl;apply ra_keepC rfl (rq_quiet rfl (a_num (by exact rfl) (by exact rfl) (by with_reducible assumption)) (by exact sv_int _ _)) rfl;apply ra_keepC rfl (rq_quiet rfl (a_load (by exact rfl) (by(simp(disch:=first|omega|(simp only[z1,z2];omega)|(simp only[z1,z2];done)|fail)only[z8,z4,z5,z9,z7,z1,z2, *];exact rfl)) (by exact rfl)) (by exact sv_int _ _)) rfl;apply ra_keepC rfl (rq_quiet rfl (a_iaddrA (i:=1) (by exact rfl) (by exact rfl) (by omega)) (by exact sv_ptr _)) rfl;apply ra_keepC rfl (rq_quiet rfl (a_load (by exact rfl) (by(simp(disch:=first|omega|(simp only[z1,z2];omega)|(simp only[z1,z2];done)|fail)only[z8,z4,z5,z9,z7,z1,z2, *];exact rfl)) (by exact rfl)) (by exact sv_int _ _)) rfl;apply ra_keepC rfl (rq_quiet rfl (a_iaddrA (i:=0) (by exact rfl) (by exact rfl) (by omega)) (by exact sv_ptr _)) rfl;exact ra_nil) ?_
 refine wD_quiet rfl rfl rfl (by exact rfl) (by exact rfl) (by exact rfl) (a_build (by exact rfl)) ?_
 refine wD_store rfl rfl rfl (by exact rfl) (by exact rfl) (by exact rfl) (by(simp(disch:=first|omega|(simp only[z1,z2];omega)|(simp only[z1,z2];done)|fail)only[z8,z4,z5,z9,z7,z1,z2, *];exact rfl)) (by exact rfl) (by exact rfl) (by(simp only[z1,z2];omega)) (by(simp only[z1,z2];omega)) (by apply ra_dropC rfl;apply ra_dropC rfl;apply ra_dropC rfl;apply ra_dropC rfl;apply ra_dropC rfl;apply ra_dropC rfl;exact ra_nil) ?_
 refine wD_nil ?_;refine y1 ?_;refine kS_n ?_;refine y4 ?_
 refine WO.gen ?_
 intro hA hAe
 have xA:Ext h hA:=by rw[hAe];exact((((((Ext.refl h).push _).push _).push _).push _).push _).wr (by(simp only[z1,z2];omega)) (by(simp only[z1,z2];omega))
 have A0:hA.get h.next=some (.cells [.pointer (some ⟨bb,0,none⟩)] true 1):=by rw[hAe];(simp(disch:=first|omega|(simp only[z1,z2];omega))only[z3,z4,z5,z6,z7,z1,z2, *];exact rfl)
 have A1:hA.get (h.next+1)=some (.cells [.int .i64 p1, .int .i64 p2] true 1):=by rw[hAe];(simp(disch:=first|omega|(simp only[z1,z2];omega)|(simp only[z1,z2];done)|fail)only[z8,z4,z5,z9,z7,z1,z2, *];exact rfl)
 have A2:hA.get (h.next+2)=some (.cells [.int .i64 0, .int .i64 (p1*p2), .int .i64 0, .slice (some ⟨h.next+4,0,none⟩) l.length l.length] true 1):=by rw[hAe];(simp(disch:=first|omega|(simp only[z1,z2];omega)|(simp only[z1,z2];done)|fail)only[z8,z4,z5,z9,z7,z1,z2, *];exact rfl)
 have A3:hA.get (h.next+3)=some (.cells [.bool false] true 1):=by rw[hAe];(simp(disch:=first|omega|(simp only[z1,z2];omega)|(simp only[z1,z2];done)|fail)only[z8,z4,z5,z9,z7,z1,z2, *];done)
 have A4:hA.get (h.next+4)=some (.cells (ints (List.replicate l.length 0)) true 1):=by rw[hAe];(simp(disch:=first|omega|(simp only[z1,z2];omega)|(simp only[z1,z2];done)|fail)only[z8,z4,z5,z9,z7,z1,z2, *];done)
 have nA:hA.next=h.next+5:=by rw[hAe];rfl
 clear hAe
 refine yC ?_
 refine FW.pu (asks143 F.toFnsNd (.of (xA.wf hr.wf))) ?_
 refine wO_val (new_at (m:=h.next+5) nA) ?_
 refine yS ?_
 refine y3 ?_
 refine y4 ?_
 refine yM ?_
 refine wO_val (new_at (m:=h.next+6) (by(simp only[z1,z2];omega))) ?_
 refine yS ?_
 refine y3 ?_
 refine y4 ?_
 refine wO_val (new_at (m:=h.next+7) (by(simp only[z1,z2];omega))) ?_
 refine y3 ?_
 refine y4 ?_
 refine wO_val (a_mkFunc (by exact rfl) (by exact rfl)) ?_
 refine yS ?_
 refine y3 ?_
 refine y4 ?_
 refine WO.gen ?_
 intro hB hBe
 have xB:Ext h hB:=by rw[hBe];exact(((((xA.push _).wr (by omega) (by omega)).push _).wr (by omega) (by omega)).push _).wr (by omega) (by omega)
 have sB:Vst h.next bb h hB ns 0 (p1*p2) 0 (List.replicate l.length 0):=by
  rw[hBe]
  refine⟨by(simp only[z1,z2];omega),fun z hz=>by rw[←hBe];exact xB.old z hz,⟨.slice qa ns.length qc,by(simp(disch:=first|omega|(simp only[z1,z2];omega)|(simp only[z1,z2];done)|fail)only[z8,z4,z5,z9,z7,z1,z2, *];exact rfl),?_⟩,by(simp(disch:=first|omega|(simp only[z1,z2];omega)|(simp only[z1,z2];done)|fail)only[z8,z4,z5,z9,z7,z1,z2, *];exact rfl),by(simp(disch:=first|omega|(simp only[z1,z2];omega))only[z3,z4,z5,z6,z7,z1,z2, *];done),by rw[List.length_replicate];(simp(disch:=first|omega|(simp only[z1,z2];omega))only[z3,z4,z5,z6,z7,z1,z2, *];done),by(simp(disch:=first|omega|(simp only[z1,z2];omega)|(simp only[z1,z2];done)|fail)only[z8,z4,z5,z9,z7,z1,z2, *];exact rfl),by(simp(disch:=first|omega|(simp only[z1,z2];omega))only[z3,z4,z5,z6,z7,z1,z2, *];done)⟩
  rw[←hBe]
  refine⟨hns.ext xB,fun b o n e=>by
   obtain⟨vs,own,g⟩:=hu b o n e
   exact⟨vs,own,(xB.old _ (WF.get_lt hr.wf g)).trans g⟩,⟨_,_,rfl,hqc⟩,fun b o n c' e=> ?_⟩
  rcases hns.inv with⟨_,e2,_⟩|⟨b2,o2,cap,e2,s2,_⟩
  ·rw[e2]at e;cases e
  ·rw[e2]at e
   cases e
   have:=s2.lt
   exact⟨fun q=>by unfold Sv at q;omega,Nat.lt_of_lt_of_le this xB.next⟩
 have B1:hB.get (h.next+1)=some (.cells [.int .i64 p1, .int .i64 p2] true 1):=by rw[hBe];(simp(disch:=first|omega|(simp only[z1,z2];omega))only[z3,z4,z5,z6,z7,z1,z2, *];done)
 have B3:hB.get (h.next+3)=some (.cells [.bool false] true 1):=by rw[hBe];(simp(disch:=first|omega|(simp only[z1,z2];omega))only[z3,z4,z5,z6,z7,z1,z2, *];done)
 have nB:hB.next=h.next+8:=by rw[hBe];(simp only[z1,z2];omega)
 clear hBe A0 A1 A2 A3 A4 nA
 have gv:=sB.vis
 have lB:=xB.log.trans hr.log
 have C:=HV (p1,p2) ns {hB with log:=[]} 0 0 (p1*p2) 0 (List.replicate l.length 0) h1 h2 (by dsimp only;omega) (by omega) (by omega) hlen hk (.of (xB.wf hr.wf)) (sB.log []) List.length_replicate ⟨by omega,by omega,fun u hu=>by rw[List.eq_of_mem_replicate hu];omega⟩
 have TB1:=tree_bd hc 32 (p1,p2) ns h1 h2
 have hno1:=planS_no (kerf:=kerf) (l:=l) (p:=(p1,p2)) (ns:=ns)
 have hno2:=planS_no2 (kerf:=kerf) (l:=l) (p:=(p1,p2)) (ns:=ns)
 have hyes:(treeS kerf l 32 (p1,p2) ns).1.ok=true→(treeS kerf l 32 (p1,p2) ns).2=ns.length→planS kerf l (p1,p2) ns=(treeS kerf l 32 (p1,p2) ns).1:=fun a b=>by unfold planS;rw[if_pos ⟨a,b⟩]
 generalize treeS kerf l 32 (p1,p2) ns=r at*
 unfold vArgs pairV at C
 clear HV
 refine yL ?_;refine yN ?_
 refine yC ?_
 refine FW.gpb (Gp.mono C (Q':=VQ h.next bb h r ns 0 (p1*p2) 0 0 (List.replicate l.length 0)) fun v h' q=>q.1) (fun z hz=>by unfold Sv at hz;omega) lB (fun v h' m q=>q.log m) (fun v h' m q=>q) ?_ ?_
 ·rintro v h5 w5 l5 ⟨rfl,ok1,V5⟩
  have G3:=(w5.old (h.next+3) (by omega) (by unfold Sv;omega)).trans B3
  have n5:=V5.nx
  obtain⟨v5,g5,r5⟩:=V5.rest
  obtain⟨qa5,qc5,rfl,_⟩:=r5.cap
  have g6:=V5.out
  have g8:=V5.usd
  have wf5:=w5.wf (xB.wf hr.wf)
  have f4:=V5.four
  have ml:(ns.drop r.2).length=ns.length-r.2:=List.length_drop
  have hm:=TB1.2
  have hud:0≤r.1.depth:=TB1.1.depth.1
  have hul:=TB1.1.len
  clear C r5 sB gv B1 B3 V5 w5
  by_cases hmm:r.2=ns.length
  ·have hy:=hyes ok1 hmm
   refine y3 ?_;refine y4 ?_;refine yL ?_;refine yD ?_;refine yt ?_
   refine yC ?_
   refine FW.pu (need_ok F.toFnsNd (.of wf5)) ?_
   refine y3 ?_;refine y4 ?_;refine yN ?_;refine yS ?_
   refine yS ?_;refine y3 ?_;refine wE_ret ?_
   refine⟨⟨fun i=>nofun,142,_,_,_,rfl,?_⟩⟩
   have E2:Heap.get ((h5.wr h.next (h.next+2) (.cells [.int .i64 (0+r.1.worth), .int .i64 (p1*p2-r.1.cells), .int .i64 (mx 0 (0+r.1.depth)), .slice (some ⟨h.next+4,0,none⟩) (List.zipWith (· + ·) (List.replicate l.length 0) r.1.used).length (List.zipWith (· + ·) (List.replicate l.length 0) r.1.used).length] true 1)).wr h.next (h.next+3) (.cells [.bool true] true 1)) (h.next+2)=some (.cells [.int .i64 (0+r.1.worth), .int .i64 (p1*p2-r.1.cells), .int .i64 (mx 0 (0+r.1.depth)), .slice (some ⟨h.next+4,0,none⟩) (List.zipWith (· + ·) (List.replicate l.length 0) r.1.used).length (List.zipWith (· + ·) (List.replicate l.length 0) r.1.used).length] true 1):=(z5 (by omega)).trans (Heap.get_wr_new g6)
   have E3:Heap.get ((h5.wr h.next (h.next+2) (.cells [.int .i64 (0+r.1.worth), .int .i64 (p1*p2-r.1.cells), .int .i64 (mx 0 (0+r.1.depth)), .slice (some ⟨h.next+4,0,none⟩) (List.zipWith (· + ·) (List.replicate l.length 0) r.1.used).length (List.zipWith (· + ·) (List.replicate l.length 0) r.1.used).length] true 1)).wr h.next (h.next+3) (.cells [.bool true] true 1)) (h.next+3)=some (.cells [.bool true] true 1):=Heap.get_wr_new ((z5 (by omega)).trans G3)
   have E4:Heap.get ((h5.wr h.next (h.next+2) (.cells [.int .i64 (0+r.1.worth), .int .i64 (p1*p2-r.1.cells), .int .i64 (mx 0 (0+r.1.depth)), .slice (some ⟨h.next+4,0,none⟩) (List.zipWith (· + ·) (List.replicate l.length 0) r.1.used).length (List.zipWith (· + ·) (List.replicate l.length 0) r.1.used).length] true 1)).wr h.next (h.next+3) (.cells [.bool true] true 1)) (h.next+4)=some (.cells (ints (List.zipWith (· + ·) (List.replicate l.length 0) r.1.used)) true 1):=(z5 (by omega)).trans ((z5 (by omega)).trans g8)
   have EL:Heap.log ((h5.wr h.next (h.next+2) (.cells [.int .i64 (0+r.1.worth), .int .i64 (p1*p2-r.1.cells), .int .i64 (mx 0 (0+r.1.depth)), .slice (some ⟨h.next+4,0,none⟩) (List.zipWith (· + ·) (List.replicate l.length 0) r.1.used).length (List.zipWith (· + ·) (List.replicate l.length 0) r.1.used).length] true 1)).wr h.next (h.next+3) (.cells [.bool true] true 1))=[]:=(Heap.log_wr_new (by omega)).trans ((Heap.log_wr_new (by omega)).trans l5)
   have ez:=zip_rep (n:=l.length) r.1.used (by omega)
   obtain⟨p',h',hm',rfl,rfl⟩:=defer_ok (T:=T) (h:={(((h5.wr h.next (h.next+2) (.cells [.int .i64 (0+r.1.worth), .int .i64 (p1*p2-r.1.cells), .int .i64 (mx 0 (0+r.1.depth)), .slice (some ⟨h.next+4,0,none⟩) (List.zipWith (· + ·) (List.replicate l.length 0) r.1.used).length (List.zipWith (· + ·) (List.replicate l.length 0) r.1.used).length] true 1)).wr h.next (h.next+3) (.cells [.bool true] true 1)))with log:=[]}) F.f142 (O:=h.next+2) (K:=h.next+3)
   refine⟨none,_,hm',rfl,?_,[_,_],res_cells (b:=h.next+2) (o:=0) rfl E2 rfl rfl (res_cell (b:=h.next+3) (o:=0) rfl E3 rfl res_nil), .inl ⟨by rw[hy];exact ok1,h.next+4,?_,?_⟩⟩
   ·exact congrArg (fun x=>mergeLog h.next x []) EL
   ·rw[hy,ez,List.length_take,hul,Nat.min_eq_left (by omega)]
    have e1:mx 0 (0+r.1.depth)=r.1.depth:=by simp only[mx];split<;>omega
    rw[e1,Int.zero_add]
    rfl
   ·rw[hy]
    exact E4.trans (by rw[ez])
  ·have hno:=hno2 hmm
   refine y3 ?_;refine y4 ?_;refine yL ?_;refine yD ?_;refine yf ?_
   refine yC ?_
   refine FW.pan (need_no F.toFnsNd) ?_
   exact kR_p (kS_p (walk_pan F.f142 hno rfl rfl l5 n5 f4 G3))
 ·rintro v h5 w5 l5 ⟨rfl,nok,four⟩
  have n5:=w5.next
  exact kR_p (kS_p (walk_pan F.f142 (hno1 nok) rfl rfl l5 (by omega) four ((w5.old (h.next+3) (by omega) (by unfold Sv;omega)).trans B3)))
end Go.A.Pk
end
section
set_option maxRecDepth 100000
namespace Go.A.Pk
variable {T:Nat→Option AFunc}
def plannedS(kerf:Int)(l:List Kd)(w ht:Int)(ns:List (Nat×Int)):Sm:=if asked kerf l (OnB w ht)=0∧(planS kerf l (w,ht) ns).ok=true then planS kerf l (w,ht) ns else sm0
def plannedE(kerf:Int)(l:List Kd)(w ht:Int)(ns:List (Nat×Int)):Int:=if asked kerf l (OnB w ht)=0 then(if(planS kerf l (w,ht) ns).ok=true then 0 else 50)else asked kerf l (OnB w ht)
theorem TB.mono{s:Sm}{m n:Nat}(h:TB s m)(hm:m≤n):TB s n:=by
 obtain⟨h1,h2,h3,h4,h5⟩:=h
 refine⟨⟨h1.1,by omega⟩,⟨h2.1,by omega⟩,⟨h3.1,by omega⟩,h4,fun u hu=> ?_⟩
 have:=h5 u hu
 omega
theorem plannedE_zero{kerf:Int}{l:List Kd}{w ht:Int}{ns:List (Nat×Int)}(h:plannedE kerf l w ht ns=0):asked kerf l (OnB w ht)=0∧plannedS kerf l w ht ns=planS kerf l (w,ht) ns∧(planS kerf l (w,ht) ns).ok=true:=by
 unfold plannedE at h
 by_cases ha:asked kerf l (OnB w ht)=0
 ·rw[if_pos ha]at h
  by_cases hb:(planS kerf l (w,ht) ns).ok=true
  ·exact⟨ha,by unfold plannedS;rw[if_pos ⟨ha,hb⟩],hb⟩
  ·rw[if_neg hb]at h;cases h
 ·rw[if_neg ha]at h;exact absurd h ha
end Go.A.Pk
end
section
set_option maxRecDepth 100000
namespace Go.A.Pk
variable {T:Nat→Option AFunc}
structure FnsHd (T:Nat→Option AFunc):Prop extends FnsE T,FnsWk T where
 f76:T 76=some f76
 f108:T 108=some f108
structure FnsCp (T:Nat→Option AFunc):Prop extends FnsE T,FnsWk T where
 f76:T 76=some f76
 f50:T 50=some f50
theorem planS_sm0{kerf:Int}{l:List Kd}{p:Int×Int}{ns:List (Nat×Int)}(h:(planS kerf l p ns).ok=false):planS kerf l p ns=sm0:=by
 unfold planS at h⊢
 split
 ·rename_i q
  rw[if_pos q,q.1]at h
  cases h
 ·rfl
theorem WalkQ.log{kerf:Int}{l:List Kd}{p:Int×Int}{ns:List (Nat×Int)}(v:Value)(h:Heap)(m:List Nat)(q:WalkQ kerf l p ns v h):WalkQ kerf l p ns v {h with log:=m}:=q
theorem U2.ext{h h':Heap}{v:Value}(u:U2 h v)(w:WF h)(x:Ext h h'):U2 h' v:=fun b o n e=>by
 obtain⟨vs,own,g⟩:=u b o n e
 exact⟨vs,own,(x.old _ (WF.get_lt w g)).trans g⟩
theorem ints_zero4{xs:List Int}:ints xs≠zero4:=fun e=>by
 have:=congrArg (fun l=>l[3]?) e
 simp only[ints,zero4,List.getElem?_map]at this
 cases h:xs[3]? with
 |none=>rw[h]at this;cases this
 |some z=>rw[h]at this;cases this
def HadQ(kerf:Int)(l:List Kd)(w ht:Int)(ns:List (Nat×Int))(v:Value)(h:Heap):Prop:=
 (plannedE kerf l w ht ns=0∧∃q,v= .tuple #[.agg #[.int .i64 (planS kerf l (w,ht) ns).worth, .int .i64 (w*ht-(planS kerf l (w,ht) ns).cells), .int .i64 (planS kerf l (w,ht) ns).depth, .slice (some ⟨q,0,none⟩) l.length l.length], .int .i64 0]∧h.get q=some (.cells (ints ((planS kerf l (w,ht) ns).used.take l.length)) true 1))∨
 (plannedE kerf l w ht ns≠0∧v= .tuple #[.agg #[.int .i64 0, .int .i64 0, .int .i64 0, .slice none 0 0], .int .i64 (plannedE kerf l w ht ns)])
theorem HadQ.gc{kerf:Int}{l:List Kd}{w ht:Int}{ns:List (Nat×Int)}{h:Heap}(v:Value)(h1:Heap)(hv:noRef v=true)(q:HadQ kerf l w ht ns v h1):HadQ kerf l w ht ns v h:=by
 rcases q with⟨_,q,rfl,_⟩|q
 ·simp[noRef,flatL,flat,scalL,scal,scal1]at hv
 ·exact .inr q
theorem HadQ.log{kerf:Int}{l:List Kd}{w ht:Int}{ns:List (Nat×Int)}(v:Value)(h:Heap)(m:List Nat)(q:HadQ kerf l w ht ns v h):HadQ kerf l w ht ns v {h with log:=m}:=q
set_option maxHeartbeats 16000000 in
theorem had108(F:FnsHd T){h:Heap}(hr:Rdy h){a:Option Addr}{c:Nat}{l:List Kd}(hs:SliceOf h 5 (.slice a l.length c) l.length (kcs l))(kerf:Int)(hn:l.length<1000000)(w ht:Int)
 {ns:List (Nat×Int)}{qa:Option Addr}{qc:Nat}(hns:SliceOf h 2 (.slice qa ns.length qc) ns.length (ncI ns))(hu:U2 h (.slice qa ns.length qc))(hqc:qc<UNK∨qc=UNK)(hlen:ns.length≤1000)(hk:∀x∈ns,x.1<256):
 Al T 108 [.agg #[.slice a l.length c, .int .i64 kerf], .int .i64 w, .int .i64 ht, .slice qa ns.length qc] h (HadQ kerf l w ht ns):=by
 have hp:=F.toFnsE.toFnsA.p
 refine .of hp F.f108 hr HadQ.gc ?_
 have hx:Ext h ((h.push (.cells [.slice a l.length c, .int .i64 kerf] true 1)).push (.cells zero4 true 1)):=((Ext.refl h).push _).push _
 refine y4 ?_;refine yB ?_;refine wO_val a_new ?_;refine yM ?_;refine y3 ?_;refine wE_seq ?_;refine wE_draw ?_
 refine qN ?_
 refine qM ?_;refine qM ?_
 refine qC ?_
 refine FW.puD (board76a hp F.f76 F.toFnsE.toFnsA.f77 (.of (hx.wf hr.wf)) w ht) (by apply ra_dropC rfl;apply ra_dropC rfl;apply ra_keepC rfl (rq_quiet rfl (a_loadN (by exact rfl) (by(simp(disch:=first|omega|(simp only[z1,z2];omega))only[z3,z4,z5,z6,z7,z1,z2, *];exact rfl)) (by exact rfl) (by exact rfl)) (by exact sv_agg (by refine sl_cons (s1_slice _ _ _) ?_;refine sl_cons (s1_int _ _) ?_;exact sl_nil))) rfl;exact ra_nil) ?_
 refine wD_new rfl rfl rfl (by exact rfl) (by exact rfl) (by exact rfl) (a_bslice (by exact rfl) (by exact rfl)) (by refine rs_cons (rq_quiet rfl (a_loadN (by exact rfl) (by(simp(disch:=first|omega|(simp only[z1,z2];omega))only[z3,z4,z5,z6,z7,z1,z2, *];exact rfl)) (by exact rfl) (by exact rfl)) (by exact sv_agg (by refine sl_cons (s1_slice _ _ _) ?_;refine sl_cons (s1_int _ _) ?_;exact sl_nil))) ?_;exact rs_nil) ?_
 refine qC ?_
 have hx2:=hx.push (.cells [.bool (decide (OnB w ht))] true 1)
 refine FW.alD (startedB75 F.toFnsE (.of (hx2.wf hr.wf)) ((hs.ext hx2).log []) kerf hn (bl:=[decide (OnB w ht)]) (m:=1) (.mem ⟨Nat.lt_succ_self _,⟨_,_,_,z3 _ _,rfl⟩,rfl⟩ (Nat.le_refl _)) (by omega)) (fun v h' m q=>StartQ.logs v h' m q) ?_
 rintro _ h1 hx3 ⟨p,rfl,hst⟩
 rw[startE_one]at hst
 rw[startE_one]
 refine⟨_,by apply ra_dropC rfl;apply ra_dropC rfl;exact ra_nil,?_⟩
 have w1:WF h1:=hx3.wf (hx2.wf hr.wf)
 have hx13:Ext h h1:=hx2.trans hx3
 have G8:h1.get (h.next+1)=some (.cells zero4 true 1):=by rw[hx3.old _ (by(simp only[z1,z2];omega))];(simp(disch:=first|omega|(simp only[z1,z2];omega)|(simp only[z1,z2];done)|fail)only[z8,z4,z5,z9,z7,z1,z2, *];exact rfl)
 have l1:=hx13.log.trans hr.log
 have n1:h.next+2≤h1.next:=by have:=hx3.next;simp only[z1,z2]at this;omega
 by_cases ha:asked kerf l (OnB w ht)=0
 ·obtain⟨bb,wa,wc,rfl,gb,hws⟩:=hst ha
  obtain⟨hc,hb⟩:=asked_zero ha
  have C:=walked109 F.toFnsWk hc (.of w1) gb ((hs.ext hx13).log []) (hws.log []) ((hns.ext hx13).log []) (fun b o n e=>hu.ext hr.wf hx13 b o n e) hqc hlen hk (p:=(w,ht)) hb.1 hb.2
  unfold pairV at C
  rw[ha]
  clear hst
  refine qM ?_;refine qE ?_;refine qE ?_
  refine qM ?_;refine qM ?_;refine wD_nil ?_;refine y1 ?_;refine kS_n ?_;refine wE_seq ?_;refine y4 ?_
  refine yM ?_;refine yf ?_;refine y3 ?_;refine yX ?_;refine wE_skip ?_;refine kS_n ?_;refine y4 ?_
  refine yM ?_;refine yM ?_;refine yM ?_;refine wO_val (a_build (by exact rfl)) ?_;refine yM ?_
  refine yC ?_
  refine FW.al C (fun v h' m q=>WalkQ.log v h' m q) ?_
  clear C
  rintro v h2 hx4 (⟨ok,q,rfl,gq⟩|⟨nok,rfl⟩)
  ·have G8':=(hx4.old _ (by omega)).trans G8
   have l2:=hx4.log.trans l1
   have kq:=WF.get_lt (hx4.wf w1) gq
   have n2:=hx4.next
   refine yM ?_;refine yE ?_;refine yE ?_;refine wO_val a_new ?_
   refine yS ?_;refine yM ?_;refine y3 ?_;refine wE_seq ?_;refine y4 ?_;refine yM ?_;refine yA ?_;refine y3 ?_
   refine yX ?_;refine wE_skip ?_;refine kS_n ?_;refine y4 ?_
   refine yN ?_
   refine yS ?_;refine yM ?_;refine y3 ?_;refine wE_ret ?_
   have hq1:q≠h.next+1:=fun e=>by
    subst e
    rw[gq]at G8'
    injection G8' with e1
    injection e1 with e2
    exact ints_zero4 e2
   have pe:plannedE kerf l w ht ns=0:=by unfold plannedE;rw[if_pos ha,if_pos ok]
   refine endA_ret (vs:=[.agg (List.toArray [.int .i64 (planS kerf l (w,ht) ns).worth, .int .i64 (w*ht-(planS kerf l (w,ht) ns).cells), .int .i64 (planS kerf l (w,ht) ns).depth, .slice (some ⟨q,0,none⟩) l.length l.length]), .int .i64 0]) ?_ (res_cells (b:=h.next+1) (o:=0) rfl (by(simp(disch:=first|omega|(simp only[z1,z2];omega))only[z3,z4,z5,z6,z7,z1,z2, *];exact rfl)) rfl rfl (res_slot rfl res_nil)) (.inl ⟨pe,q,rfl,by(simp(disch:=first|omega|(simp only[z1,z2];omega))only[z3,z4,z5,z6,z7,z1,z2, *];done)⟩)
   simp(disch:=first|omega|(simp only[z1,z2];omega))only[Heap.log_wr_new,Heap.log_push]
   exact l2
  ·have G8':=(hx4.old _ (by omega)).trans G8
   have l2:=hx4.log.trans l1
   have n2:=hx4.next
   refine yM ?_;refine yE ?_;refine yE ?_;refine wO_val a_new ?_
   refine yS ?_;refine yM ?_;refine y3 ?_;refine wE_seq ?_;refine y4 ?_;refine yM ?_;refine yA ?_;refine y3 ?_
   refine yY ?_;refine y4 ?_;refine wO_val (a_build (by exact rfl)) ?_
   refine yS ?_;refine yM ?_;refine y3 ?_;refine wE_ret ?_;refine kS_r ?_
   have pe:plannedE kerf l w ht ns=50:=by unfold plannedE;rw[if_pos ha,if_neg (by rw[nok];exact Bool.false_ne_true)]
   refine endA_ret (vs:=[.agg zero4.toArray, .int .i64 50]) ?_ (res_cells (b:=h.next+1) (o:=0) rfl (by(simp(disch:=first|omega|(simp only[z1,z2];omega))only[z3,z4,z5,z6,z7,z1,z2, *];exact rfl)) rfl rfl (res_slot rfl res_nil)) (.inr ⟨by rw[pe];omega,by rw[pe];rfl⟩)
   simp(disch:=first|omega|(simp only[z1,z2];omega))only[Heap.log_wr_new,Heap.log_push]
   exact l2
 ·refine qM ?_;refine qE ?_;refine qE ?_
  refine qM ?_;refine qM ?_;refine wD_nil ?_;refine y1 ?_;refine kS_n ?_;refine wE_seq ?_;refine y4 ?_
  refine yM ?_;refine yt ?_;refine y3 ?_;refine yY ?_;refine y4 ?_;refine wO_val (a_build (by exact rfl)) ?_
  refine yM ?_;refine yS ?_;refine yM ?_;refine y3 ?_;refine wE_ret ?_;refine kS_r ?_
  have pe:plannedE kerf l w ht ns=asked kerf l (OnB w ht):=by unfold plannedE;rw[if_neg ha]
  refine endA_ret (vs:=[.agg zero4.toArray, .int .i64 (asked kerf l (OnB w ht))]) ?_ (res_cells (b:=h.next+1) (o:=0) rfl (by(simp(disch:=first|omega|(simp only[z1,z2];omega))only[z3,z4,z5,z6,z7,z1,z2, *];exact rfl)) rfl rfl (res_slot rfl res_nil)) (.inr ⟨by rw[pe];exact ha,by rw[pe];rfl⟩)
  simp(disch:=first|omega|(simp only[z1,z2];omega))only[Heap.log_wr_new,Heap.log_push]
  exact l1
set_option maxHeartbeats 16000000 in
theorem checkPlan50(F:FnsCp T){h:Heap}(hr:Rdy h){a:Option Addr}{c:Nat}{l:List Kd}(hs:SliceOf h 5 (.slice a l.length c) l.length (kcs l))(kerf:Int)(hn:l.length<1000000)(w ht:Int)
 {ns:List (Nat×Int)}{qa:Option Addr}{qc:Nat}(hns:SliceOf h 2 (.slice qa ns.length qc) ns.length (ncI ns))(hu:U2 h (.slice qa ns.length qc))(hqc:qc<UNK∨qc=UNK)(hlen:ns.length≤1000)(hk:∀x∈ns,x.1<256):
 Pu T 50 [.agg #[.slice a l.length c, .int .i64 kerf], .int .i64 w, .int .i64 ht, .slice qa ns.length qc] h (checkR kerf l w ht ns):=by
 have hp:=F.toFnsE.toFnsA.p
 refine .of hp F.f50 hr (by unfold checkR;split<;>rfl) ?_
 have hx:Ext h (h.push (.cells [.slice a l.length c, .int .i64 kerf] true 1)):=(Ext.refl h).push _
 refine y4 ?_;refine yB ?_;refine yM ?_;refine yM ?_;refine yM ?_;refine y3 ?_;refine wE_seq ?_;refine wE_draw ?_
 refine qN ?_
 refine qM ?_;refine qM ?_
 refine qC ?_
 refine FW.puD (board76a hp F.f76 F.toFnsE.toFnsA.f77 (.of (hx.wf hr.wf)) w ht) (by apply ra_dropC rfl;apply ra_dropC rfl;apply ra_keepC rfl (rq_quiet rfl (a_loadN (by exact rfl) (by(simp(disch:=first|omega|(simp only[z1,z2];omega))only[z3,z4,z5,z6,z7,z1,z2, *];exact rfl)) (by exact rfl) (by exact rfl)) (by exact sv_agg (by refine sl_cons (s1_slice _ _ _) ?_;refine sl_cons (s1_int _ _) ?_;exact sl_nil))) rfl;exact ra_nil) ?_
 refine wD_new rfl rfl rfl (by exact rfl) (by exact rfl) (by exact rfl) (a_bslice (by exact rfl) (by exact rfl)) (by refine rs_cons (rq_quiet rfl (a_loadN (by exact rfl) (by(simp(disch:=first|omega|(simp only[z1,z2];omega))only[z3,z4,z5,z6,z7,z1,z2, *];exact rfl)) (by exact rfl) (by exact rfl)) (by exact sv_agg (by refine sl_cons (s1_slice _ _ _) ?_;refine sl_cons (s1_int _ _) ?_;exact sl_nil))) ?_;exact rs_nil) ?_
 refine qC ?_
 have hx2:=hx.push (.cells [.bool (decide (OnB w ht))] true 1)
 refine FW.alD (startedB75 F.toFnsE (.of (hx2.wf hr.wf)) ((hs.ext hx2).log []) kerf hn (bl:=[decide (OnB w ht)]) (m:=1) (.mem ⟨Nat.lt_succ_self _,⟨_,_,_,z3 _ _,rfl⟩,rfl⟩ (Nat.le_refl _)) (by omega)) (fun v h' m q=>StartQ.logs v h' m q) ?_
 rintro _ h1 hx3 ⟨p,rfl,hst⟩
 rw[startE_one]at hst
 rw[startE_one]
 refine⟨_,by apply ra_dropC rfl;apply ra_dropC rfl;exact ra_nil,?_⟩
 have w1:WF h1:=hx3.wf (hx2.wf hr.wf)
 have hx13:Ext h h1:=hx2.trans hx3
 have l1:=hx13.log.trans hr.log
 have n1:h.next+1≤h1.next:=by have:=hx3.next;simp only[z1,z2]at this;omega
 unfold checkR
 by_cases ha:asked kerf l (OnB w ht)=0
 ·obtain⟨bb,wa,wc,rfl,gb,hws⟩:=hst ha
  obtain⟨hc,hb⟩:=asked_zero ha
  have C:=walked109 F.toFnsWk hc (.of w1) gb ((hs.ext hx13).log []) (hws.log []) ((hns.ext hx13).log []) (fun b o n e=>hu.ext hr.wf hx13 b o n e) hqc hlen hk (p:=(w,ht)) hb.1 hb.2
  unfold pairV at C
  rw[if_pos ha,ha]
  clear hst
  refine qM ?_;refine qE ?_;refine qE ?_
  refine qM ?_;refine qM ?_;refine wD_nil ?_;refine y1 ?_;refine kS_n ?_;refine wE_seq ?_;refine y4 ?_
  refine yM ?_;refine yf ?_;refine y3 ?_;refine yX ?_;refine wE_skip ?_;refine kS_n ?_;refine y4 ?_
  refine yM ?_;refine yM ?_;refine yM ?_;refine wO_val (a_build (by exact rfl)) ?_;refine yM ?_
  refine yC ?_
  refine FW.al C (fun v h' m q=>WalkQ.log v h' m q) ?_
  clear C
  rintro v h2 hx4 (⟨ok,q,rfl,gq⟩|⟨nok,rfl⟩)
  ·have l2:=hx4.log.trans l1
   have n2:=hx4.next
   rw[ok]
   refine yM ?_;refine yE ?_;refine yE ?_;refine wO_val a_new ?_
   refine yS ?_;refine yM ?_;refine y3 ?_;refine y4 ?_;refine yF ?_
   refine yL ?_;refine yM ?_;refine yM ?_
   refine yM ?_;refine yM ?_;refine y3 ?_;refine wE_ret ?_
   refine endP_ret ?_ rfl rfl
   simp(disch:=first|omega|(simp only[z1,z2];omega))only[Heap.log_wr_new,Heap.log_push]
   exact l2
  ·have l2:=hx4.log.trans l1
   have n2:=hx4.next
   rw[planS_sm0 nok]
   refine yM ?_;refine yE ?_;refine yE ?_;refine wO_val a_new ?_
   refine yS ?_;refine yM ?_;refine y3 ?_;refine y4 ?_;refine yF ?_
   refine yL ?_;refine yM ?_;refine yM ?_
   refine yM ?_;refine yM ?_;refine y3 ?_;refine wE_ret ?_
   refine endP_ret ?_ rfl rfl
   simp(disch:=first|omega|(simp only[z1,z2];omega))only[Heap.log_wr_new,Heap.log_push]
   exact l2
 ·rw[if_neg ha]
  refine qM ?_;refine qE ?_;refine qE ?_
  refine qM ?_;refine qM ?_;refine wD_nil ?_;refine y1 ?_;refine kS_n ?_;refine wE_seq ?_;refine y4 ?_
  refine yM ?_;refine yt ?_;refine y3 ?_;refine yY ?_;refine y4 ?_;refine yM ?_
  refine yM ?_;refine yM ?_;refine yM ?_;refine y3 ?_;refine wE_ret ?_;refine kS_r ?_
  exact endP_ret l1 rfl rfl
structure FnsDp (T:Nat→Option AFunc):Prop extends FnsHd T where
 f49:T 49=some f49
set_option maxHeartbeats 16000000 in
theorem depth49(F:FnsDp T){h:Heap}(hr:Rdy h){a:Option Addr}{c:Nat}{l:List Kd}(hs:SliceOf h 5 (.slice a l.length c) l.length (kcs l))(kerf:Int)(hn:l.length<1000000)(w ht:Int)
 {ns:List (Nat×Int)}{qa:Option Addr}{qc:Nat}(hns:SliceOf h 2 (.slice qa ns.length qc) ns.length (ncI ns))(hu:U2 h (.slice qa ns.length qc))(hqc:qc<UNK∨qc=UNK)(hlen:ns.length≤1000)(hk:∀x∈ns,x.1<256):
 Pu T 49 [.agg #[.slice a l.length c, .int .i64 kerf], .int .i64 w, .int .i64 ht, .slice qa ns.length qc] h (.tuple #[.int .i64 (if plannedE kerf l w ht ns=0 then(planS kerf l (w,ht) ns).depth else 0), .int .i64 (plannedE kerf l w ht ns)]):=by
 refine .of F.toFnsE.toFnsA.p F.f49 hr rfl ?_
 have hx:Ext h (h.push (.cells [.slice a l.length c, .int .i64 kerf] true 1)):=(Ext.refl h).push _
 have C:=had108 F.toFnsHd (.of (hx.wf hr.wf)) ((hs.ext hx).log []) kerf hn w ht ((hns.ext hx).log []) (fun b o n e=>hu.ext hr.wf hx b o n e) hqc hlen hk
 refine y4 ?_;refine yB ?_;refine yM ?_;refine yM ?_;refine y3 ?_;refine y4 ?_
 refine yN ?_;refine yM ?_;refine yM ?_
 refine yM ?_
 refine yC ?_
 refine FW.al C (fun v h' m q=>HadQ.log v h' m q) ?_
 rintro v h2 hx4 (⟨pe,q,rfl,gq⟩|⟨pe,rfl⟩)
 ·have l2:=(hx.trans hx4).log.trans hr.log
  have n2:=hx4.next
  rw[if_pos pe,pe]
  refine yM ?_;refine yE ?_;refine yE ?_;refine wO_val a_new ?_
  refine yS ?_;refine yM ?_;refine y3 ?_;refine y4 ?_;refine yF ?_
  refine yL ?_;refine yM ?_;refine yM ?_
  refine yM ?_;refine y3 ?_;refine wE_ret ?_
  refine endP_ret ?_ rfl rfl
  simp(disch:=first|omega|(simp only[z1,z2]at n2⊢;omega))only[Heap.log_wr_new,Heap.log_push]
  exact l2
 ·have l2:=(hx.trans hx4).log.trans hr.log
  have n2:=hx4.next
  rw[if_neg pe]
  refine yM ?_;refine yE ?_;refine yE ?_;refine wO_val a_new ?_
  refine yS ?_;refine yM ?_;refine y3 ?_;refine y4 ?_;refine yF ?_
  refine yL ?_;refine yM ?_;refine yM ?_
  refine yM ?_;refine y3 ?_;refine wE_ret ?_
  refine endP_ret ?_ rfl rfl
  simp(disch:=first|omega|(simp only[z1,z2]at n2⊢;omega))only[Heap.log_wr_new,Heap.log_push]
  exact l2
end Go.A.Pk
end
section
set_option maxRecDepth 100000
namespace Go.A.Pk
variable {T:Nat→Option AFunc}
structure FnsSh (T:Nat→Option AFunc):Prop extends FnsW T where
 f78:T 78=some f78
 f20:T 20=some f20
 f82:T 82=some f82
 f22:T 22=some f22
theorem startE_2(kerf:Int)(l:List Kd)(p q:Prop)[Decidable p][Decidable q]:startE kerf l [decide p,decide q]=asked kerf l (p∧q):=by
 unfold startE asked
 by_cases hp:p<;>by_cases hq:q<;>simp[hp,hq]
theorem in77D(hp:primAS T)(hf:T 77=some f77){h:Heap}(hr:Rdy h){n a b:Int}:Pu T 77 [.int .i64 n, .int .i64 a, .int .i64 b] h (.bool (decide (a≤n∧n≤b))):=by
 by_cases q:a≤n∧n≤b
 ·rw[decide_eq_true q];exact in77T hp hf hr q
 ·rw[decide_eq_false q];exact in77F hp hf hr q
theorem bestV_wsP{kerf:Int}{l:List Kd}(hc:chk kerf l=0){w ht:Int}(hb:OnB w ht):bestV kerf l w ht=V kerf (wsP l) l (w,ht):=bestV_eq (chk_iff.1 hc).2.1.1 hb.1.1 hb.2.1
theorem index82(hp:primAS T)(hf:T 82=some f82){h:Heap}(hr:Rdy h){a:Option Addr}{n c:Nat}{xs:List Int}(hs:SliceOf h 1 (.slice a n c) n (ints xs))(hn:n<1000000){k:Int}{d:Nat}(hd:xs[d]? =some k)(hne:∀j,j<d→xs[j]? ≠some k):Pu T 82 [.slice a n c, .int .i64 k] h (.int .i64 d):=by
 have hlen:xs.length=n:=by have:=hs.len;simp[ints]at this;omega
 have hdn:d<n:=by have:=(List.getElem?_eq_some_iff.1 hd).1;omega
 refine .of hp hf hr rfl ?_
 refine y4 ?_;refine yM ?_;refine y3 ?_;refine wE_seq ?_;refine y4 ?_;refine yM ?_;refine yD ?_;refine yM ?_
 refine y3 ?_;refine wE_block ?_
 refine wE_loop (fun m e ds h'=>∃i:Nat,i≤d∧m=n-i∧e=[(0, .slice a n c),(1, .int .i64 k),(7, .int .i64 n),(8, .int .i64 i)]∧ds=[]∧h'=h)
  ⟨0,Nat.zero_le _,rfl,rfl,rfl,rfl⟩ ?_
 rintro m e ds h' ⟨i,hin,rfl,rfl,rfl,rfl⟩
 rcases hs.inv with⟨_,hv,h0,hl⟩|⟨b,o,cap,hv,s,hc⟩
 ·omega
 ·cases hv
  obtain⟨vs,own,t,g1,g2⟩:=slice_elem1 s (ints_get (l:=xs) (i:=i) (by omega))
  have hx:xs[i]? =some (xs.getD i 0):=by rw[List.getElem?_eq_getElem (by omega)];simp[List.getD,List.getElem?_eq_getElem (show i<xs.length by omega)]
  clear s hs
  have hlt:i<n:=by omega
  by_cases hk:i=d
  ·subst hk
   rw[hd]at hx
   have hk2:k=xs.getD i 0:=Option.some.inj hx
   refine y4 ?_;refine yt ?_;refine y3 ?_;refine wE_seq ?_;refine yY ?_;refine wE_skip ?_;refine kS_n ?_;refine wE_seq ?_;refine wE_block ?_;refine y4 ?_;refine yM ?_;refine yM ?_;refine y3 ?_;refine y4 ?_;refine yM ?_;refine yM ?_;refine yM ?_
   refine wO_val (a_iaddrS (by exact rfl) (by exact rfl) (by omega)) ?_;refine wO_val (a_load (by exact rfl) (by assumption) (by assumption)) ?_;refine yt ?_;refine y3 ?_;refine yY ?_
   refine y4 ?_;refine yM ?_;refine yM ?_;refine y3 ?_;refine wE_ret ?_;refine kB_r ?_;refine kS_r ?_;refine kS_r ?_;refine kB_r ?_;refine kS_r ?_
   exact endP_ret hr.log rfl rfl
  ·have hk2:¬k=xs.getD i 0:=fun e=>hne i (by omega) (by rw[hx,e])
   refine y4 ?_;refine yt ?_;refine y3 ?_;refine wE_seq ?_;refine yY ?_;refine wE_skip ?_;refine kS_n ?_;refine wE_seq ?_;refine wE_block ?_;refine y4 ?_;refine yM ?_;refine yM ?_;refine y3 ?_;refine y4 ?_;refine yM ?_;refine yM ?_;refine yM ?_
   refine wO_val (a_iaddrS (by exact rfl) (by exact rfl) (by omega)) ?_;refine wO_val (a_load (by exact rfl) (by assumption) (by assumption)) ?_;refine yf ?_;refine y3 ?_;refine yX ?_
   refine wE_skip ?_;refine kB_n ?_;refine kS_n ?_;refine wE_region ?_;refine yinc ?_;refine yM ?_;refine y3 ?_
   exact⟨n-(i+1),by omega,i+1,by omega,rfl,rfl,rfl,rfl⟩
theorem least_of{P:Nat→Prop}[DecidablePred P]:∀n,P n→∃d,d≤n∧P d∧∀j,j<d→¬P j:=by
 intro n
 induction n using Nat.strongRecOn with
 |ind n ih=>
  intro hn
  by_cases h:∃j,j<n∧P j
  ·obtain⟨j,hj,hP⟩:=h
   obtain⟨d,h1,h2,h3⟩:=ih j hj hP
   exact⟨d,by omega,h2,h3⟩
  ·exact⟨n,Nat.le_refl _,hn,fun j hj hP=>h ⟨j,hj,hP⟩⟩
theorem enough_ex{kerf:Int}{l:List Kd}(hc:chk kerf l=0){w ht:Nat}(hb:OnB w ht):∃d,d≤w+ht∧ShF kerf (wsP l) l d ((w:Int),(ht:Int))=bestV kerf l w ht∧(∀j,j<d→ShF kerf (wsP l) l j ((w:Int),(ht:Int))≠bestV kerf l w ht)∧enoughD (fun d=>ShF kerf (wsP l) l d ((w:Int),(ht:Int))) (bestV kerf l w ht)=d:=by
 obtain⟨d,h1,h2,h3⟩:=least_of (P:=fun d=>ShF kerf (wsP l) l d ((w:Int),(ht:Int))=bestV kerf l w ht) (w+ht) (by rw[bestV_wsP hc hb];exact ShF_V (chk_iff.1 hc).2.1.1 _ _ (by simp[sz]))
 obtain⟨⟨_,q1⟩,_,q2⟩:=hb
 exact⟨d,h1,h2,h3,enough_of (by omega) h2 h3⟩
def OnD(w ht dp:Int):Prop:=OnB w ht∧(0≤dp∧dp≤40)
instance(w ht dp:Int):Decidable (OnD w ht dp):=by unfold OnD;infer_instance
def shalR(kerf:Int)(l:List Kd)(w ht dp:Int):Value:= .tuple #[.int .i64 (if asked kerf l (OnD w ht dp)=0 then ShF kerf (wsP l) l dp.toNat (w,ht)else 0), .int .i64 (asked kerf l (OnD w ht dp))]
def enR(kerf:Int)(l:List Kd)(w ht:Int):Value:= .tuple #[.int .i64 (if asked kerf l (OnB w ht)=0 then(enoughD (fun d=>ShF kerf (wsP l) l d (w,ht)) (bestV kerf l w ht):Nat)else 0), .int .i64 (asked kerf l (OnB w ht))]
theorem wsP_bd{kerf:Int}{l:List Kd}(hc:chk kerf l=0):∀x∈wsP l,0≤x∧x≤1000000:=fun x hx=>by
 obtain⟨k,hk,rfl⟩:=List.mem_map.1 hx
 exact((chk_iff.1 hc).2.2.1 k hk).2.2.2
set_option maxHeartbeats 8000000 in
theorem shallow20(F:FnsSh T){h:Heap}(hr:Rdy h){a:Option Addr}{n c:Nat}{l:List Kd}(hs:SliceOf h 5 (.slice a n c) n (kcs l))(kerf:Int)(hn:n<1000000)(w ht dp:Int):Pu T 20 [.agg #[.slice a n c, .int .i64 kerf], .int .i64 w, .int .i64 ht, .int .i64 dp] h (shalR kerf l w ht dp):=by
 have hp:=F.toFnsW.toFnsV.p
 refine .of hp F.f20 hr rfl ?_
 have hx:Ext h (h.push (.cells [.slice a n c, .int .i64 kerf] true 1)):=(Ext.refl h).push _
 obtain rfl:n=l.length:=by have:=hs.len;rw[kcs_length]at this;omega
 refine y4 ?_;refine yB ?_;refine yM ?_;refine yM ?_;refine y3 ?_;refine wE_seq ?_;refine wE_draw ?_
 refine qN ?_
 refine qM ?_;refine qM ?_;refine qM ?_
 refine qC ?_
 refine FW.puD (board76 F.toFnsW (.of (hx.wf hr.wf)) w ht) (by apply ra_keepC rfl (rq_quiet rfl (a_mov (by exact rfl)) (by exact sv_int _ _)) rfl;apply ra_dropC rfl;apply ra_dropC rfl;apply ra_keepC rfl (rq_quiet rfl (a_loadN (by exact rfl) (by(simp(disch:=first|omega|(simp only[z1,z2];omega))only[z3,z4,z5,z6,z7,z1,z2, *];exact rfl)) (by exact rfl) (by exact rfl)) (by exact sv_agg (by refine sl_cons (s1_slice _ _ _) ?_;refine sl_cons (s1_int _ _) ?_;exact sl_nil))) rfl;exact ra_nil) ?_
 skip
 refine qC ?_
 refine FW.puD (in77D hp F.toFnsW.toFnsE.toFnsA.f77 (.of (hx.wf hr.wf))) (by apply ra_dropC rfl;apply ra_keepC rfl (rq_quiet rfl (a_loadN (by exact rfl) (by(simp(disch:=first|omega|(simp only[z1,z2];omega))only[z3,z4,z5,z6,z7,z1,z2, *];exact rfl)) (by exact rfl) (by exact rfl)) (by exact sv_agg (by refine sl_cons (s1_slice _ _ _) ?_;refine sl_cons (s1_int _ _) ?_;exact sl_nil))) rfl;exact ra_nil) ?_
 refine wD_new rfl rfl rfl (by exact rfl) (by exact rfl) (by exact rfl) (a_bslice (by exact rfl) (by exact rfl)) (by refine rs_cons (rq_quiet rfl (a_loadN (by exact rfl) (by(simp(disch:=first|omega|(simp only[z1,z2];omega))only[z3,z4,z5,z6,z7,z1,z2, *];exact rfl)) (by exact rfl) (by exact rfl)) (by exact sv_agg (by refine sl_cons (s1_slice _ _ _) ?_;refine sl_cons (s1_int _ _) ?_;exact sl_nil))) ?_;exact rs_nil) ?_
 refine qC ?_
 have hx2:=hx.push (.cells [.bool (decide (OnB w ht)), .bool (decide (0≤dp∧dp≤40))] true 1)
 refine FW.alD (startedB75 F.toFnsW.toFnsE (.of (hx2.wf hr.wf)) ((hs.ext hx2).log []) kerf hn (bl:=[decide (OnB w ht),decide (0≤dp∧dp≤40)]) (m:=2) (.mem ⟨Nat.lt_succ_self _,⟨_,_,_,z3 _ _,rfl⟩,rfl⟩ (Nat.le_refl _)) (by omega)) (fun v h' m q=>StartQ.logs v h' m q) ?_
 rintro _ h1 hx3 ⟨p,rfl,hst⟩
 have e0:startE kerf l [decide (OnB w ht),decide (0≤dp∧dp≤40)]=asked kerf l (OnD w ht dp):=startE_2 ..
 rw[e0]at hst
 rw[e0]
 refine⟨_,by apply ra_dropC rfl;apply ra_dropC rfl;exact ra_nil,?_⟩
 have w1:WF h1:=hx3.wf (hx2.wf hr.wf)
 have hx13:Ext h h1:=hx2.trans hx3
 have hl1:h1.log=[]:=hx13.log.trans hr.log
 unfold shalR
 by_cases ha:asked kerf l (OnD w ht dp)=0
 ·obtain⟨bb,wa,wc,rfl,gb,hws⟩:=hst ha
  obtain⟨hc,hb,hd⟩:=asked_zero ha
  obtain⟨q1,q2,q3,q4⟩:=chk_iff.1 hc
  obtain⟨⟨e1,e2⟩,e3,e4⟩:=hb
  obtain⟨wn,rfl⟩:=Int.eq_ofNat_of_zero_le (show 0≤w by omega)
  obtain⟨hn',rfl⟩:=Int.eq_ofNat_of_zero_le (show 0≤ht by omega)
  obtain⟨dn,rfl⟩:=Int.eq_ofNat_of_zero_le (show 0≤dp by omega)
  rw[if_pos ha,ha,Int.toNat_natCast]
  clear hst e0 hx3
  refine qM ?_;refine qE ?_;refine qE ?_
  refine qM ?_;refine qM ?_;refine wD_nil ?_;refine y1 ?_;refine kS_n ?_;refine wE_seq ?_;refine y4 ?_
  refine yM ?_;refine yf ?_;refine y3 ?_;refine yX ?_;refine wE_skip ?_;refine kS_n ?_;refine y4 ?_
  refine yM ?_;refine yM ?_;refine yM ?_;refine yM ?_
  refine yC ?_
  refine FW.al (shallow78 F.toFnsW.toFnsV F.f78 (.of w1) (w:=wn) (ht:=hn') (dp:=dn) (W:=1000000) (ws:=wsP l) (by omega) (by omega) (by omega) (by omega) ⟨by omega,by omega⟩ (by omega) (wsP_bd hc) gb ((hs.ext hx13).log []) (hws.log [])) (fun v h' m q=>q.keep (h':={h' with log:=m}) (Nat.le_refl _) fun _ _ _=>rfl) ?_
  rintro _ h2 hx4 own
  obtain⟨q,cc,rfl,o1,o2,o3,o4,o5⟩:=own.ex
  have hget:lget (ints (shL kerf (wsP l) l wn hn' (dn+1))) (0+dn*1)=some (.int .i64 (ShF kerf (wsP l) l dn ((wn:Int),(hn':Int)))):=by
   rw[lget_eq,Nat.zero_add,Nat.mul_one]
   unfold ints shL
   rw[List.getElem?_map,List.getElem?_map,List.getElem?_range (Nat.lt_succ_self _)]
   simp only[z7]
   rw[tabS_look q2.1,if_pos (by dsimp only;omega)]
  have hsub:numOp .sub (.int .i64 ((dn+1:Nat):Int)) (.int .i64 1)=some (.int .i64 (dn:Nat)):=m_sub (by rw[wrapA_i64]<;>omega)
  have hlg:h2.log=[]:=hx4.log.trans hl1
  clear own hx4
  refine yM ?_;refine y3 ?_;refine y4 ?_;refine yM ?_;refine yM ?_;refine yD ?_
  refine wO_val (a_num (by exact rfl) (by exact rfl) (by with_reducible assumption)) ?_;refine wO_val (a_iaddrS (by exact rfl) (by exact rfl) (by omega)) ?_;refine wO_val (a_load (by exact rfl) (by assumption) (by assumption)) ?_;refine yM ?_;refine yM ?_;refine y3 ?_;refine wE_ret ?_
  exact endP_ret hlg rfl rfl
 ·rw[if_neg ha]
  refine qM ?_;refine qE ?_;refine qE ?_
  refine qM ?_;refine qM ?_;refine wD_nil ?_;refine y1 ?_;refine kS_n ?_;refine wE_seq ?_;refine y4 ?_
  refine yM ?_;refine yt ?_;refine y3 ?_;refine yY ?_;refine y4 ?_;refine yM ?_
  refine yM ?_;refine yM ?_;refine y3 ?_;refine wE_ret ?_;refine kS_r ?_
  exact endP_ret hl1 rfl rfl
set_option maxHeartbeats 8000000 in
theorem enough22(F:FnsSh T){h:Heap}(hr:Rdy h){a:Option Addr}{n c:Nat}{l:List Kd}(hs:SliceOf h 5 (.slice a n c) n (kcs l))(kerf:Int)(hn:n<1000000)(w ht:Int):Pu T 22 [.agg #[.slice a n c, .int .i64 kerf], .int .i64 w, .int .i64 ht] h (enR kerf l w ht):=by
 have hp:=F.toFnsW.toFnsV.p
 refine .of hp F.f22 hr rfl ?_
 have hx:Ext h (h.push (.cells [.slice a n c, .int .i64 kerf] true 1)):=(Ext.refl h).push _
 obtain rfl:n=l.length:=by have:=hs.len;rw[kcs_length]at this;omega
 refine y4 ?_;refine yB ?_;refine yM ?_;refine yM ?_;refine y3 ?_;refine wE_seq ?_;refine wE_draw ?_
 refine qN ?_
 refine qM ?_;refine qM ?_
 refine qC ?_
 refine FW.puD (board76 F.toFnsW (.of (hx.wf hr.wf)) w ht) (by apply ra_dropC rfl;apply ra_dropC rfl;apply ra_keepC rfl (rq_quiet rfl (a_loadN (by exact rfl) (by(simp(disch:=first|omega|(simp only[z1,z2];omega))only[z3,z4,z5,z6,z7,z1,z2, *];exact rfl)) (by exact rfl) (by exact rfl)) (by exact sv_agg (by refine sl_cons (s1_slice _ _ _) ?_;refine sl_cons (s1_int _ _) ?_;exact sl_nil))) rfl;exact ra_nil) ?_
 refine wD_new rfl rfl rfl (by exact rfl) (by exact rfl) (by exact rfl) (a_bslice (by exact rfl) (by exact rfl)) (by refine rs_cons (rq_quiet rfl (a_loadN (by exact rfl) (by(simp(disch:=first|omega|(simp only[z1,z2];omega))only[z3,z4,z5,z6,z7,z1,z2, *];exact rfl)) (by exact rfl) (by exact rfl)) (by exact sv_agg (by refine sl_cons (s1_slice _ _ _) ?_;refine sl_cons (s1_int _ _) ?_;exact sl_nil))) ?_;exact rs_nil) ?_
 refine qC ?_
 have hx2:=hx.push (.cells [.bool (decide (OnB w ht))] true 1)
 refine FW.alD (startedB75 F.toFnsW.toFnsE (.of (hx2.wf hr.wf)) ((hs.ext hx2).log []) kerf hn (bl:=[decide (OnB w ht)]) (m:=1) (.mem ⟨Nat.lt_succ_self _,⟨_,_,_,z3 _ _,rfl⟩,rfl⟩ (Nat.le_refl _)) (by omega)) (fun v h' m q=>StartQ.logs v h' m q) ?_
 rintro _ h1 hx3 ⟨p,rfl,hst⟩
 rw[startE_one]at hst
 rw[startE_one]
 refine⟨_,by apply ra_dropC rfl;apply ra_dropC rfl;exact ra_nil,?_⟩
 have w1:WF h1:=hx3.wf (hx2.wf hr.wf)
 have hx13:Ext h h1:=hx2.trans hx3
 have hl1:h1.log=[]:=hx13.log.trans hr.log
 unfold enR
 by_cases ha:asked kerf l (OnB w ht)=0
 ·obtain⟨bb,wa,wc,rfl,gb,hws⟩:=hst ha
  obtain⟨hc,hb⟩:=asked_zero ha
  obtain⟨q1,q2,q3,q4⟩:=chk_iff.1 hc
  have hbb:=hb
  obtain⟨⟨e1,e2⟩,e3,e4⟩:=hbb
  obtain⟨wn,rfl⟩:=Int.eq_ofNat_of_zero_le (show 0≤w by omega)
  obtain⟨hn',rfl⟩:=Int.eq_ofNat_of_zero_le (show 0≤ht by omega)
  obtain⟨d,d1,d2,d3,d4⟩:=enough_ex hc hb
  have hbv:bestV kerf l wn hn'=look (tabL kerf (wsP l) l (boardsL wn hn')) ((wn:Int),(hn':Int)):=rfl
  rw[if_pos ha,ha,d4]
  have hadd:numOp .add (.int .i64 (wn:Int)) (.int .i64 (hn':Int))=some (.int .i64 ((wn+hn':Nat):Int)):=m_add (by rw[wrapA_i64]<;>omega)
  clear hst hx3 d4
  refine qM ?_;refine qE ?_;refine qE ?_
  refine qM ?_;refine qM ?_;refine wD_nil ?_;refine y1 ?_;refine kS_n ?_;refine wE_seq ?_;refine y4 ?_
  refine yM ?_;refine yf ?_;refine y3 ?_;refine yX ?_;refine wE_skip ?_;refine kS_n ?_;refine y4 ?_
  refine yM ?_;refine yM ?_;refine yM ?_;refine yM ?_;refine yM ?_;refine wO_val (a_num (by exact rfl) (by exact rfl) (by with_reducible assumption)) ?_
  refine yC ?_
  refine FW.al (shallow78 F.toFnsW.toFnsV F.f78 (.of w1) (w:=wn) (ht:=hn') (dp:=wn+hn') (W:=1000000) (ws:=wsP l) (by omega) (by omega) (by omega) (by omega) ⟨by omega,by omega⟩ (by omega) (wsP_bd hc) gb ((hs.ext hx13).log []) (hws.log [])) (fun v h' m q=>q.keep (h':={h' with log:=m}) (Nat.le_refl _) fun _ _ _=>rfl) ?_
  rintro _ h2 hx4 own
  have w2:WF h2:=hx4.wf w1
  have gb2:=(hx4.old _ (WF.get_lt w1 gb)).trans gb
  have hx24:=hx13.trans hx4
  refine yM ?_;refine yM ?_;refine yM ?_
  refine yC ?_
  refine FW.al (best83 F.toFnsW.toFnsV (.of w2) (w:=wn) (ht:=hn') (W:=1000000) (ws:=wsP l) (by omega) (by omega) (by omega) ⟨by omega,by omega⟩ (by omega) (wsP_bd hc) gb2 ((hs.ext hx24).log []) ((hws.ext hx4).log [])) (fun _ _ _ q=>q) ?_
  rintro _ h3 hx5 ⟨r,rfl,gr⟩
  have w3:WF h3:=hx5.wf w2
  have hlg:h3.log=[]:=(hx24.trans hx5).log.trans hr.log
  have own3:=own.keep (h':=h3) hx5.next fun z _ hz=>hx5.old z hz
  obtain⟨q,cc,rfl,o1,o2,o3,o4,o5⟩:=own3.ex
  have hsl:=own3.slice (by omega)
  have hget:∀j,j≤wn+hn'→(shL kerf (wsP l) l wn hn' (wn+hn'+1))[j]? =some (ShF kerf (wsP l) l j ((wn:Int),(hn':Int))):=fun j hj=>by
   unfold shL
   rw[List.getElem?_map,List.getElem?_range (by omega)]
   simp only[z7]
   rw[tabS_look q2.1,if_pos (by dsimp only;omega)]
  clear own own3 hx4 hx5 gb2 o1 o2 o3 o4
  refine yM ?_;refine yM ?_;refine wO_val (a_build (by exact rfl)) ?_
  refine wO_val (a_lookup (x:=((wn:Int),(hn':Int))) (by exact rfl) (by exact rfl) gr) ?_
  skip
  refine yC ?_
  rw[←hbv]
  refine FW.pu (index82 hp F.f82 (.of w3) (hsl.log []) (by omega) (d:=d) (by rw[hget d d1,d2]) (fun j hj=>by rw[hget j (by omega)];exact fun e=>d3 j hj (Option.some.inj e))) ?_
  refine yM ?_;refine yM ?_;refine y3 ?_;refine wE_ret ?_
  exact endP_ret hlg rfl rfl
 ·rw[if_neg ha]
  refine qM ?_;refine qE ?_;refine qE ?_
  refine qM ?_;refine qM ?_;refine wD_nil ?_;refine y1 ?_;refine kS_n ?_;refine wE_seq ?_;refine y4 ?_
  refine yM ?_;refine yt ?_;refine y3 ?_;refine yY ?_;refine y4 ?_;refine yM ?_
  refine yM ?_;refine yM ?_;refine y3 ?_;refine wE_ret ?_;refine kS_r ?_
  exact endP_ret hl1 rfl rfl
end Go.A.Pk
end
section
namespace Go.A.Pk
theorem ShF_zero_le{kerf:Int}{ws:List Int}{kl:List Kd}(d:Nat)(p:Int×Int):ShF kerf ws kl 0 p≤ShF kerf ws kl d p:=ShF_monos (Nat.zero_le d) p
theorem node_sh{kerf:Int}{l:List Kd}{p:Int×Int}{x:Nat×Int}(h1:1≤p.1)(h2:1≤p.2)(h:(nodeS l x p).1.ok=true):(nodeS l x p).1.depth=0∧∀d,(nodeS l x p).1.worth≤ShF kerf (wsP l) l d p:=by
 unfold nodeS at h⊢
 split
 ·exact⟨rfl,fun d=>ShF_nonneg d p⟩
 ·rename_i h0
  rw[if_neg h0]at h
  split
  ·rename_i h12
   rw[if_pos h12]at h
   unfold plankS at h⊢
   split
   ·rename_i hr
    rw[if_pos hr]at h
    cases hk:l[x.2.toNat]? with
    |none=>rw[hk]at h;cases h
    |some k=>
     rw[hk]at h
     dsimp only at h⊢
     refine⟨rfl,fun d=> ?_⟩
     have hP:=of_decide_eq_true h
     obtain⟨p1,p2⟩:=p
     dsimp only at h1 h2
     obtain⟨a,rfl⟩:=Int.eq_ofNat_of_zero_le (show 0≤p1 by omega)
     obtain⟨b,rfl⟩:=Int.eq_ofNat_of_zero_le (show 0≤p2 by omega)
     refine Int.le_trans ?_ (ShF_zero_le d _)
     rw[ShF_zero (by omega) (by omega)]
     have hm:∃y∈leavesL a b l 0,y.2=x.2.toNat:=by
      rcases hP with⟨_,e1,e2⟩|⟨_,e0,e1,e2⟩
      ·refine⟨(1,x.2.toNat),leaves_mem hk _ ?_,rfl⟩
       unfold leafAt
       rw[if_pos ⟨e1.symm,e2.symm⟩]
       exact List.mem_append_left _ (List.mem_singleton.2 rfl)
      ·refine⟨(2,x.2.toNat),leaves_mem hk _ ?_,rfl⟩
       unfold leafAt
       rw[if_pos (show k.turn=true∧(a:Int)=k.h∧(b:Int)=k.w from⟨e0,e1.symm,e2.symm⟩)]
       exact List.mem_append_right _ (List.mem_singleton.2 rfl)
     obtain⟨y,hy,ey⟩:=hm
     have:=(leafM_ge (ws:=wsP l) (m:=0)).2 y hy
     rw[ey]at this
     have hg:(wsP l).getD x.2.toNat 0=k.worth:=by
      unfold wsP
      rw[List.getD_eq_getElem?_getD,List.getElem?_map,hk]
      rfl
     rw[hg]at this
     exact this
   ·rename_i hr
    rw[if_neg hr]at h
    cases h
  ·rename_i h12
   rw[if_neg h12]at h
   cases h
theorem join_sh{kerf:Int}{l:List Kd}{a b k i:Nat}{f:Nat}{r1 r2:Sm×Nat}(hk:k=3∨k=4)(hi:1≤(i:Int)∧(i:Int)≤sizeI (k,(i:Int)) ((a:Int),(b:Int))-1)(h1:1≤a)(h2:1≤b)(hb1:0≤r1.1.depth)(hb2:0≤r2.1.depth)
 (i1:r1.1.ok=true→r1.1.depth≤f∧∀d:Nat,r1.1.depth≤d→r1.1.worth≤ShF kerf (wsP l) l d (oneI (k,(i:Int)) ((a:Int),(b:Int))))(i2:¬sizeI (k,(i:Int)) ((a:Int),(b:Int))-i-kerf<1→r2.1.ok=true→r2.1.depth≤f∧∀d:Nat,r2.1.depth≤d→r2.1.worth≤ShF kerf (wsP l) l d (twoI kerf (k,(i:Int)) ((a:Int),(b:Int))))
 (h:(joinS kerf (sizeI (k,(i:Int)) ((a:Int),(b:Int))) i r1 r2).1.ok=true):(joinS kerf (sizeI (k,(i:Int)) ((a:Int),(b:Int))) i r1 r2).1.depth≤f+1∧∀d:Nat,(joinS kerf (sizeI (k,(i:Int)) ((a:Int),(b:Int))) i r1 r2).1.depth≤d→(joinS kerf (sizeI (k,(i:Int)) ((a:Int),(b:Int))) i r1 r2).1.worth≤ShF kerf (wsP l) l d ((a:Int),(b:Int)):=by
 have hmem:(k,i)∈cutsL a b:=by
  have hs:sizeI (k,(i:Int)) ((a:Int),(b:Int))=if k=3 then(a:Int)else b:=rfl
  rw[hs]at hi
  obtain⟨j,rfl⟩:∃j,i=j+1:=⟨i-1,by omega⟩
  rcases hk with rfl|rfl
  ·rw[if_pos rfl]at hi;exact cuts_mem3 (by omega)
  ·rw[if_neg (by omega)]at hi;exact cuts_mem4 (by omega)
 have e1:oneI (k,(i:Int)) ((a:Int),(b:Int))=oneB (k,i) a b:=rfl
 have e2:twoI kerf (k,(i:Int)) ((a:Int),(b:Int))=twoB kerf (k,i) a b:=rfl
 have key:∀d':Nat,ShF kerf (wsP l) l d' (oneI (k,(i:Int)) ((a:Int),(b:Int)))+ShF kerf (wsP l) l d' (twoI kerf (k,(i:Int)) ((a:Int),(b:Int)))≤ShF kerf (wsP l) l (d'+1) ((a:Int),(b:Int)):=fun d'=>by
  rw[ShF_succ h1 h2,e1,e2]
  exact(foldM_ge (f:=fun x=>ShF kerf (wsP l) l d' (oneB x a b)+ShF kerf (wsP l) l d' (twoB kerf x a b))).2 (k,i) hmem
 unfold joinS at h⊢
 split
 ·rename_i ok1
  rw[if_pos ok1]at h
  obtain⟨d1,w1⟩:=i1 ok1
  split
  ·refine⟨by dsimp only;omega,fun d hd=> ?_⟩
   dsimp only at hd⊢
   obtain⟨d',rfl⟩:∃d',d=d'+1:=⟨d-1,by omega⟩
   have:=w1 d' (by omega)
   have hn:=ShF_nonneg (kerf:=kerf) (ws:=wsP l) (kl:=l) d' (twoI kerf (k,(i:Int)) ((a:Int),(b:Int)))
   have:=key d'
   omega
  ·rename_i hn
   rw[if_neg hn]at h
   split
   ·rename_i ok2
    obtain⟨d2,w2⟩:=i2 hn ok2
    refine⟨by dsimp only;unfold mx;split<;>omega,fun d hd=> ?_⟩
    dsimp only at hd⊢
    obtain⟨d',rfl⟩:∃d',d=d'+1:=⟨d-1,by unfold mx at hd;split at hd<;>omega⟩
    have a1:=w1 d' (by unfold mx at hd;split at hd<;>omega)
    have a2:=w2 d' (by unfold mx at hd;split at hd<;>omega)
    have:=key d'
    omega
   ·rename_i nok
    rw[if_neg nok]at h
    cases h
 ·rename_i nok
  rw[if_neg nok]at h
  cases h
theorem tree_sh{kerf:Int}{l:List Kd}(hc:chk kerf l=0):∀(f:Nat) (p:Int×Int) (ns:List (Nat×Int)),1≤p.1∧p.1≤16→1≤p.2∧p.2≤16→(treeS kerf l f p ns).1.ok=true→(treeS kerf l f p ns).1.depth≤f∧∀d:Nat,(treeS kerf l f p ns).1.depth≤d→(treeS kerf l f p ns).1.worth≤ShF kerf (wsP l) l d p
 |f,p,[],_,_,h=>by cases f<;>cases h
 |0,p,x::ns,h1,h2,h=>by
  rw[treeS]at h⊢
  split
  ·rename_i h3;rw[if_pos h3]at h;cases h
  ·rename_i h3
   rw[if_neg h3]at h
   obtain⟨q1,q2⟩:=node_sh (kerf:=kerf) h1.1 h2.1 h
   exact⟨by rw[q1];omega,fun d _=>q2 d⟩
 |f+1,p,x::ns,h1,h2,h=>by
  rw[treeS]at h⊢
  split
  ·rename_i h3
   rw[if_pos h3]at h
   split
   ·rename_i hat
    rw[if_pos hat]at h
    have hk:=(chk_iff.1 hc).2.1
    obtain⟨p1,p2⟩:=p
    obtain⟨k,i⟩:=x
    dsimp only at h1 h2 h3 hat h⊢
    obtain⟨a,rfl⟩:=Int.eq_ofNat_of_zero_le (show 0≤p1 by omega)
    obtain⟨b,rfl⟩:=Int.eq_ofNat_of_zero_le (show 0≤p2 by omega)
    obtain⟨i,rfl⟩:=Int.eq_ofNat_of_zero_le (show 0≤i by omega)
    have hs:sizeI (k,(i:Int)) ((a:Int),(b:Int))=if k=3 then(a:Int)else b:=rfl
    have h1s:sizeI (k,(i:Int)) ((a:Int),(b:Int))≤16:=by rw[hs];split<;>omega
    have o1:1≤(oneI (k,(i:Int)) ((a:Int),(b:Int))).1∧(oneI (k,(i:Int)) ((a:Int),(b:Int))).1≤16:=by unfold oneI;split<;>dsimp only<;>omega
    have o2:1≤(oneI (k,(i:Int)) ((a:Int),(b:Int))).2∧(oneI (k,(i:Int)) ((a:Int),(b:Int))).2≤16:=by unfold oneI;split<;>dsimp only<;>omega
    have b1:=(tree_bd hc f (oneI (k,(i:Int)) ((a:Int),(b:Int))) ns o1 o2).1.depth.1
    by_cases hn:sizeI (k,(i:Int)) ((a:Int),(b:Int))-i-kerf<1
    ·have hj:∀r2,joinS kerf (sizeI (k,(i:Int)) ((a:Int),(b:Int))) i (treeS kerf l f (oneI (k,(i:Int)) ((a:Int),(b:Int))) ns) r2=joinS kerf (sizeI (k,(i:Int)) ((a:Int),(b:Int))) i (treeS kerf l f (oneI (k,(i:Int)) ((a:Int),(b:Int))) ns) (sm0,0):=fun r2=>by
      unfold joinS
      rw[if_pos hn,if_pos hn]
     rw[hj]at h⊢
     exact join_sh h3 hat (by omega) (by omega) b1 (Int.le_refl 0) (fun q=>tree_sh hc f _ _ o1 o2 q) (fun q=>absurd hn q) h
    ·have t1:1≤(twoI kerf (k,(i:Int)) ((a:Int),(b:Int))).1∧(twoI kerf (k,(i:Int)) ((a:Int),(b:Int))).1≤16:=by
      rw[hs]at hn
      unfold twoI;split<;>rename_i q<;>dsimp only at q⊢
      ·rw[if_pos q]at hn;omega
      ·omega
     have t2:1≤(twoI kerf (k,(i:Int)) ((a:Int),(b:Int))).2∧(twoI kerf (k,(i:Int)) ((a:Int),(b:Int))).2≤16:=by
      rw[hs]at hn
      unfold twoI;split<;>rename_i q<;>dsimp only at q⊢
      ·omega
      ·rw[if_neg q]at hn;omega
     exact join_sh h3 hat (by omega) (by omega) b1 (tree_bd hc f _ _ t1 t2).1.depth.1 (fun q=>tree_sh hc f _ _ o1 o2 q) (fun _ q=>tree_sh hc f _ _ t1 t2 q) h
   ·rename_i hat
    rw[if_neg hat]at h
    cases h
  ·rename_i h3
   rw[if_neg h3]at h
   obtain⟨q1,q2⟩:=node_sh (kerf:=kerf) h1.1 h2.1 h
   exact⟨by rw[q1];omega,fun d _=>q2 d⟩
end Go.A.Pk
end
section
set_option maxRecDepth 100000
namespace Go.A.Pk
variable {T:Nat→Option AFunc}
structure FnsDe (T:Nat→Option AFunc):Prop extends FnsSh T,FnsDp T,FnsCp T where
 f8:T 8=some f8
 c19:∀{h:Heap},Rdy h→Pu T 19 [] h (.bool true)
def dep9:ACode:=tl1 (tl1 (tl1 (tl1 (tl1 (tl1 (tl1 (tl1 (tl1 (cd f8)))))))))
theorem shalR_ok{kerf:Int}{l:List Kd}{w ht:Int}{dn:Nat}(ha:asked kerf l (OnB w ht)=0)(hd:dn≤40):shalR kerf l w ht (dn:Int)= .tuple #[.int .i64 (ShF kerf (wsP l) l dn (w,ht)), .int .i64 0]:=by
 obtain⟨hc,hb⟩:=asked_zero ha
 have h0:asked kerf l (OnD w ht (dn:Int))=0:=by unfold asked;rw[if_pos hc,if_pos ⟨hb,by omega,by omega⟩]
 unfold shalR
 rw[if_pos h0,h0,Int.toNat_natCast]
theorem shalR_no{kerf:Int}{l:List Kd}{w ht dp:Int}(ha:asked kerf l (OnB w ht)=0)(hd:¬ (0≤dp∧dp≤40)):shalR kerf l w ht dp= .tuple #[.int .i64 0, .int .i64 1]:=by
 obtain⟨hc,hb⟩:=asked_zero ha
 have h0:asked kerf l (OnD w ht dp)=1:=by unfold asked;rw[if_pos hc,if_neg (fun q=>hd q.2)]
 unfold shalR
 rw[h0,if_neg (by omega)]
set_option maxHeartbeats 16000000 in
theorem depth_tail(F:FnsDe T){h0 h:Heap}(hr0:Rdy h0)(hx:Ext h0 h){a:Option Addr}{c b0:Nat}{l:List Kd}{kerf w ht:Int}(hb0:h0.next=b0)(g5:h.get b0=some (.cells [.slice a l.length c, .int .i64 kerf] true 1))(hs:SliceOf h 5 (.slice a l.length c) l.length (kcs l))(hn:l.length<1000000)
 {ns:List (Nat×Int)}{qa:Option Addr}{qc:Nat}(hns:SliceOf h 2 (.slice qa ns.length qc) ns.length (ncI ns))(hu:U2 h (.slice qa ns.length qc))(hqc:qc<UNK∨qc=UNK)(hlen:ns.length≤1000)(hk:∀x∈ns,x.1<256):
 WE T h0.next none dep9 (endP [(10,none)] (.bool true)) [(1, .int .i64 w),(2, .int .i64 ht),(4, .slice qa ns.length qc),(5, .pointer (some ⟨b0,0,none⟩)),(111, .bool false)] [] h:=by
 have w1:=hx.wf hr0.wf
 have C1:=depth49 F.toFnsDp (h:={h with log:=[]}) (.of w1) (hs.log []) kerf hn w ht (hns.log []) hu hqc hlen hk
 have C5:=F.c19 (h:={h with log:=[]}) (.of w1)
 unfold dep9
 by_cases pe:plannedE kerf l w ht ns=0
 ·obtain⟨ha,_,hok⟩:=plannedE_zero pe
  obtain⟨hc,hb⟩:=asked_zero ha
  have hok1:(treeS kerf l 32 (w,ht) ns).1.ok=true∧planS kerf l (w,ht) ns=(treeS kerf l 32 (w,ht) ns).1:=by
   unfold planS at hok⊢
   split at hok
   ·rename_i q;exact⟨q.1,by rw[if_pos q]⟩
   ·cases hok
  obtain⟨t1,t2⟩:=tree_sh hc 32 (w,ht) ns hb.1 hb.2 hok1.1
  have t3:=(tree_bd hc 32 (w,ht) ns hb.1 hb.2).1.depth.1
  rw[←hok1.2]at t1 t2 t3
  obtain⟨dd,hdd⟩:=Int.eq_ofNat_of_zero_le t3
  have C2:=checkPlan50 F.toFnsCp (h:={h with log:=[]}) (.of w1) (hs.log []) kerf hn w ht (hns.log []) hu hqc hlen hk
  have C3:=shallow20 F.toFnsSh (h:={h with log:=[]}) (.of w1) (hs.log []) kerf hn w ht (dd:Int)
  unfold checkR at C2
  rw[if_pos ha,hok]at C2
  rw[shalR_ok ha (by omega)]at C3
  rw[if_pos pe,pe,hdd]at C1
  have hle:=t2 dd (by omega)
  generalize(planS kerf l (w,ht) ns).worth=wo at*
  generalize ShF kerf (wsP l) l dd (w,ht)=sv at*
  clear t1 t2 t3 hdd hok hok1 hb
  refine y4 ?_;refine yN ?_;refine yM ?_;refine yM ?_;refine yM ?_
  refine yC ?_
  refine FW.pu C1 ?_
  clear C1
  refine yM ?_;refine yE ?_;refine yE ?_;refine yM ?_;refine yM ?_;refine y3 ?_;refine wE_seq ?_
  refine y4 ?_;refine yM ?_;refine yf ?_;refine y3 ?_;refine yX ?_;refine wE_skip ?_;refine kS_n ?_;refine y4 ?_;refine yN ?_;refine yM ?_;refine yM ?_;refine yM ?_
  refine yC ?_
  refine FW.pu C2 ?_
  clear C2
  refine yM ?_;refine yE ?_;refine yE ?_;refine yE ?_;refine yM ?_;refine yM ?_;refine yM ?_;refine y3 ?_;refine y4 ?_;refine yN ?_;refine yM ?_;refine yM ?_;refine yM ?_
  refine yC ?_
  refine FW.pu C3 ?_
  clear C3
  refine yM ?_;refine yE ?_;refine yE ?_;refine yM ?_;refine yM ?_;refine y3 ?_;refine y4 ?_
  refine yC ?_
  refine FW.pu C5 ?_
  refine yM ?_;refine yO ?_;refine yM ?_;refine yT ?_;refine yM ?_;refine yO ?_;refine yM ?_;refine yO ?_;refine yt ?_
  refine yT ?_;refine yM ?_;refine yO ?_;refine yM ?_;refine yO ?_;refine yt ?_;refine yT ?_;refine yM ?_
  refine yO ?_;refine yM ?_;refine yO ?_;refine yM ?_;refine yO ?_;refine yt ?_;refine yT ?_;refine yM ?_;refine y3 ?_;refine wE_ret ?_
  exact endP_ret (hx.log.trans hr0.log) rfl rfl
 ·rw[if_neg pe]at C1
  refine y4 ?_;refine yN ?_;refine yM ?_;refine yM ?_;refine yM ?_
  refine yC ?_
  refine FW.pu C1 ?_
  clear C1
  refine yM ?_;refine yE ?_;refine yE ?_;refine yM ?_;refine yM ?_;refine y3 ?_;refine wE_seq ?_
  refine y4 ?_;refine yM ?_;refine yt ?_;refine y3 ?_;refine yY ?_;refine y4 ?_
  refine yC ?_
  refine FW.pu C5 ?_
  refine yM ?_;refine y3 ?_;refine wE_ret ?_;refine kS_r ?_
  exact endP_ret (hx.log.trans hr0.log) rfl rfl
theorem ShF_best{kerf:Int}{l:List Kd}{w ht E:Nat}(hc:chk kerf l=0)(hb:OnB w ht)(hE:ShF kerf (wsP l) l E ((w:Int),(ht:Int))=bestV kerf l w ht)(hE2:∀j,j<E→ShF kerf (wsP l) l j ((w:Int),(ht:Int))≠bestV kerf l w ht)(d:Nat):
 ShF kerf (wsP l) l d ((w:Int),(ht:Int))≤bestV kerf l w ht∧(E≤d→ShF kerf (wsP l) l d ((w:Int),(ht:Int))=bestV kerf l w ht)∧(d<E→ShF kerf (wsP l) l d ((w:Int),(ht:Int))≠bestV kerf l w ht)∧ShF kerf (wsP l) l d ((w:Int),(ht:Int))≤ShF kerf (wsP l) l (d+1) ((w:Int),(ht:Int)):=by
 have h1:ShF kerf (wsP l) l d ((w:Int),(ht:Int))≤bestV kerf l w ht:=by rw[bestV_wsP hc hb];exact ShF_le (chk_iff.1 hc).2.1.1 d _
 refine⟨h1,fun h=> ?_,fun h=>hE2 d h,ShF_mono d _⟩
 have:=ShF_monos (kerf:=kerf) (ws:=wsP l) (kl:=l) h ((w:Int),(ht:Int))
 omega
set_option maxHeartbeats 32000000 in
theorem law8(F:FnsDe T){h:Heap}(hr:Rdy h){a:Option Addr}{n c:Nat}{l:List Kd}(hs:SliceOf h 5 (.slice a n c) n (kcs l))(kerf w ht dp:Int)
 {ns:List (Nat×Int)}{qa:Option Addr}{qc:Nat}(hns:SliceOf h 2 (.slice qa ns.length qc) ns.length (ncI ns))(hu:U2 h (.slice qa ns.length qc))(hqc:qc<UNK∨qc=UNK)(hk:∀x∈ns,x.1<256):
 Pu T 8 [.agg #[.slice a n c, .int .i64 kerf], .int .i64 w, .int .i64 ht, .int .i64 dp, .slice qa ns.length qc] h (.bool true):=by
 have hp:=F.toFnsSh.toFnsW.toFnsE.toFnsA.p
 refine .of hp F.f8 hr rfl ?_
 have hx:Ext h (h.push (.cells [.slice a n c, .int .i64 kerf] true 1)):=(Ext.refl h).push _
 obtain rfl:n=l.length:=by have:=hs.len;rw[kcs_length]at this;omega
 refine y4 ?_;refine yB ?_;refine yM ?_;refine y3 ?_;refine wE_seq ?_;refine y4 ?_
 refine yN ?_
 refine yC ?_
 refine FW.pu (few18 F.toFnsSh.toFnsW.toFnsE.toFnsC (.of (hx.wf hr.wf)) kerf) ?_
 by_cases hfew:l.length≤16
 ·have hn:l.length<1000000:=by omega
  rw[decide_eq_true hfew]
  by_cases hlen:ns.length≤700
  ·have C1:=best32 F.toFnsSh.toFnsW (.of (hx.wf hr.wf)) ((hs.ext hx).log []) kerf hn w ht
   have C2:=enough22 F.toFnsSh (.of (hx.wf hr.wf)) ((hs.ext hx).log []) kerf hn w ht
   have C5:=F.c19 (h:={(h.push (.cells [.slice a l.length c, .int .i64 kerf] true 1))with log:=[]}) (.of (hx.wf hr.wf))
   by_cases ha:asked kerf l (OnB w ht)=0
   ·obtain⟨hc,hb⟩:=asked_zero ha
    have TAIL:=depth_tail F hr hx (kerf:=kerf) (w:=w) (ht:=ht) rfl (z3 _ _) (hs.ext hx) hn (hns.ext hx) (fun b o n e=>hu.ext hr.wf hx b o n e) hqc (by omega) hk
    have CS:∀d,Pu T 20 [.agg #[.slice a l.length c, .int .i64 kerf], .int .i64 w, .int .i64 ht, .int .i64 d] {(h.push (.cells [.slice a l.length c, .int .i64 kerf] true 1))with log:=[]} (shalR kerf l w ht d):=fun d=>shallow20 F.toFnsSh (.of (hx.wf hr.wf)) ((hs.ext hx).log []) kerf hn w ht d
    have hbb:=hb
    obtain⟨⟨v1,v2⟩,v3,v4⟩:=hbb
    obtain⟨w,rfl⟩:=Int.eq_ofNat_of_zero_le (show 0≤w by omega)
    obtain⟨ht,rfl⟩:=Int.eq_ofNat_of_zero_le (show 0≤ht by omega)
    obtain⟨E,d1,d2,d3,d4⟩:=enough_ex hc hb
    have HB:=ShF_best hc hb d2 d3
    rw[bestR_ok ha]at C1
    unfold enR at C2
    rw[if_pos ha,ha,d4]at C2
    have hadd:numOp .add (.int .i64 dp) (.int .i64 1)=some (.int .i64 (wrapA .i64 (dp+1))):=by simp[numOp,arith]
    have CA:=CS dp
    have CB:=CS (wrapA .i64 (dp+1))
    generalize hbv:bestV kerf l w ht=bv at*
    by_cases hd:0≤dp∧dp≤40
    ·obtain⟨dn,rfl⟩:=Int.eq_ofNat_of_zero_le hd.1
     have hdn:dn≤40:=by omega
     have hw1:wrapA .i64 ((dn:Int)+1)=((dn+1:Nat):Int):=by rw[wrapA_i64]<;>omega
     rw[shalR_ok ha hdn]at CA
     rw[hw1]at CB hadd
     obtain⟨f1,f2,f3,f4⟩:=HB dn
     generalize hs1:ShF kerf (wsP l) l dn ((w:Int),(ht:Int))=sv at*
     have CB':∃b i,Pu T 20 [.agg #[.slice a l.length c, .int .i64 kerf], .int .i64 w, .int .i64 ht, .int .i64 ((dn+1:Nat):Int)] {(h.push (.cells [.slice a l.length c, .int .i64 kerf] true 1))with log:=[]} (.tuple #[.int .i64 b, .int .i64 i])∧(i=0→sv≤b):=by
      by_cases h41:dn+1≤40
      ·rw[shalR_ok ha h41]at CB
       exact⟨_,0,CB,fun _=>f4⟩
      ·rw[shalR_no ha (by omega)]at CB
       exact⟨0,1,CB,fun q=>by cases q⟩
     obtain⟨b,i,CB',hi⟩:=CB'
     clear CB CS HB d2 d3 d4 d1 f4 hs1
     refine yA ?_;refine yM ?_;refine yO ?_;refine yM ?_;refine yO ?_;refine yD ?_;refine yO ?_;refine yf ?_;refine yU ?_
     refine y3 ?_;refine yX ?_;refine wE_skip ?_;refine kS_n ?_;refine y4 ?_
     refine yN ?_;refine yM ?_;refine yM ?_
     refine yC ?_
     refine FW.pu C1 ?_
     refine yM ?_;refine yE ?_;refine yE ?_;refine yM ?_;refine yM ?_;refine y3 ?_;refine y4 ?_;refine yN ?_;refine yM ?_
     refine yM ?_
     refine yC ?_
     refine FW.pu C2 ?_
     refine yM ?_;refine yE ?_;refine yE ?_;refine yM ?_;refine yM ?_;refine y3 ?_;refine wE_seq ?_
     refine y4 ?_;refine yM ?_;refine yf ?_;refine y3 ?_;refine yX ?_;refine wE_skip ?_;refine kS_n ?_;refine y4 ?_;refine yN ?_;refine yM ?_
     refine yM ?_;refine yM ?_
     refine yC ?_
     refine FW.pu CA ?_
     refine yM ?_;refine yE ?_;refine yE ?_;refine yM ?_;refine yM ?_;refine y3 ?_;refine wE_seq ?_
     refine y4 ?_;refine yM ?_;refine yf ?_;refine yM ?_;refine yO ?_;refine yM ?_;refine yO ?_;refine yt ?_
     refine yO ?_;refine yM ?_;refine yO ?_;refine yt ?_;refine yO ?_;refine yM ?_;refine yO ?_;refine yM ?_;refine yO ?_
     refine yt ?_;refine yO ?_;refine yT ?_;refine yO ?_;refine wO_val (a_beq (by exact rfl) (by exact rfl)) ?_;refine yU ?_;refine y3 ?_;refine yX ?_;refine wE_skip ?_;refine kS_n ?_;refine y4 ?_
     refine yN ?_;refine yM ?_;refine yM ?_
     refine yM ?_;refine wO_val (a_num (by exact rfl) (by exact rfl) (by with_reducible assumption)) ?_
     refine yC ?_
     refine FW.pu CB' ?_
     clear C1 C2 CA CB'
     by_cases hE:E≤dn
     ·have f2:=f2 hE
      clear f3
      by_cases h0:i=0
      ·have hi:=hi h0
       refine yM ?_;refine yE ?_;refine yE ?_;refine yM ?_;refine yM ?_;refine y3 ?_;refine wE_seq ?_
       refine y4 ?_;refine yM ?_;refine yt ?_;refine yM ?_;refine yO ?_;refine yM ?_;refine yO ?_;refine yM ?_;refine yO ?_
       refine yf ?_;refine yO ?_;refine yM ?_;refine yO ?_;refine yM ?_;refine yO ?_;refine yM ?_;refine yO ?_
       refine yt ?_;refine yO ?_;refine yM ?_;refine yO ?_;refine yM ?_;refine yO ?_;refine yt ?_;refine yO ?_
       refine wO_val (a_beq (by exact rfl) (by exact rfl)) ?_;refine yO ?_;refine yU ?_;refine yO ?_;refine yM ?_;refine yO ?_;refine yM ?_;refine yO ?_
       refine yt ?_;refine yO ?_;refine yM ?_;refine yO ?_;refine yM ?_;refine yO ?_;refine yM ?_;refine yO ?_
       refine yf ?_;refine yO ?_;refine yT ?_;refine yO ?_;refine yU ?_;refine yT ?_;refine y3 ?_;refine yX ?_;refine wE_skip ?_;refine kS_n ?_;exact TAIL
      ·clear hi
       refine yM ?_;refine yE ?_;refine yE ?_;refine yM ?_;refine yM ?_;refine y3 ?_;refine wE_seq ?_
       refine y4 ?_;refine yM ?_;refine yt ?_;refine yM ?_;refine yO ?_;refine yM ?_;refine yO ?_;refine yM ?_;refine yO ?_
       refine yf ?_;refine yO ?_;refine yM ?_;refine yO ?_;refine yM ?_;refine yO ?_;refine yM ?_;refine yO ?_
       refine yt ?_;refine yO ?_;refine yM ?_;refine yO ?_;refine yM ?_;refine yO ?_;refine yt ?_;refine yO ?_
       refine wO_val (a_beq (by exact rfl) (by exact rfl)) ?_;refine yO ?_;refine yU ?_;refine yO ?_;refine yM ?_;refine yO ?_;refine yM ?_;refine yO ?_
       refine yf ?_;refine yO ?_;refine yM ?_;refine yP ?_;refine yP ?_;refine yP ?_;refine yO ?_;refine yU ?_
       refine yO ?_;refine yU ?_;refine yT ?_;refine y3 ?_;refine yX ?_;refine wE_skip ?_;refine kS_n ?_;exact TAIL
     ·have f3:=f3 (by omega)
      clear f2
      by_cases h0:i=0
      ·have hi:=hi h0
       refine yM ?_;refine yE ?_;refine yE ?_;refine yM ?_;refine yM ?_;refine y3 ?_;refine wE_seq ?_
       refine y4 ?_;refine yM ?_;refine yt ?_;refine yM ?_;refine yO ?_;refine yM ?_;refine yO ?_;refine yM ?_;refine yO ?_
       refine yf ?_;refine yO ?_;refine yM ?_;refine yO ?_;refine yM ?_;refine yO ?_;refine yM ?_;refine yO ?_
       refine yf ?_;refine yO ?_;refine yM ?_;refine yO ?_;refine yM ?_;refine yO ?_;refine yf ?_;refine yO ?_
       refine wO_val (a_beq (by exact rfl) (by exact rfl)) ?_;refine yO ?_;refine yU ?_;refine yO ?_;refine yM ?_;refine yO ?_;refine yM ?_;refine yO ?_
       refine yt ?_;refine yO ?_;refine yM ?_;refine yO ?_;refine yM ?_;refine yO ?_;refine yM ?_;refine yO ?_
       refine yf ?_;refine yO ?_;refine yT ?_;refine yO ?_;refine yU ?_;refine yT ?_;refine y3 ?_;refine yX ?_;refine wE_skip ?_;refine kS_n ?_;exact TAIL
      ·clear hi
       refine yM ?_;refine yE ?_;refine yE ?_;refine yM ?_;refine yM ?_;refine y3 ?_;refine wE_seq ?_
       refine y4 ?_;refine yM ?_;refine yt ?_;refine yM ?_;refine yO ?_;refine yM ?_;refine yO ?_;refine yM ?_;refine yO ?_
       refine yf ?_;refine yO ?_;refine yM ?_;refine yO ?_;refine yM ?_;refine yO ?_;refine yM ?_;refine yO ?_
       refine yf ?_;refine yO ?_;refine yM ?_;refine yO ?_;refine yM ?_;refine yO ?_;refine yf ?_;refine yO ?_
       refine wO_val (a_beq (by exact rfl) (by exact rfl)) ?_;refine yO ?_;refine yU ?_;refine yO ?_;refine yM ?_;refine yO ?_;refine yM ?_;refine yO ?_
       refine yf ?_;refine yO ?_;refine yM ?_;refine yP ?_;refine yP ?_;refine yP ?_;refine yO ?_;refine yU ?_
       refine yO ?_;refine yU ?_;refine yT ?_;refine y3 ?_;refine yX ?_;refine wE_skip ?_;refine kS_n ?_;exact TAIL
    ·rw[shalR_no ha hd]at CA
     have CB':∃b i,shalR kerf l w ht (wrapA .i64 (dp+1))=(.tuple #[.int .i64 b, .int .i64 i]):=⟨_,_,rfl⟩
     obtain⟨b,i,e⟩:=CB'
     rw[e]at CB
     clear CS HB d2 d3 d4 d1 e
     refine yA ?_;refine yM ?_;refine yO ?_;refine yM ?_;refine yO ?_;refine yD ?_;refine yO ?_;refine yf ?_;refine yU ?_
     refine y3 ?_;refine yX ?_;refine wE_skip ?_;refine kS_n ?_;refine y4 ?_
     refine yN ?_;refine yM ?_;refine yM ?_
     refine yC ?_
     refine FW.pu C1 ?_
     refine yM ?_;refine yE ?_;refine yE ?_;refine yM ?_;refine yM ?_;refine y3 ?_;refine y4 ?_;refine yN ?_;refine yM ?_
     refine yM ?_
     refine yC ?_
     refine FW.pu C2 ?_
     refine yM ?_;refine yE ?_;refine yE ?_;refine yM ?_;refine yM ?_;refine y3 ?_;refine wE_seq ?_
     refine y4 ?_;refine yM ?_;refine yf ?_;refine y3 ?_;refine yX ?_;refine wE_skip ?_;refine kS_n ?_;refine y4 ?_;refine yN ?_;refine yM ?_
     refine yM ?_;refine yM ?_
     refine yC ?_
     refine FW.pu CA ?_
     clear C1 C2 CA
     by_cases hd0:0≤dp
     ·refine yM ?_;refine yE ?_;refine yE ?_;refine yM ?_;refine yM ?_;refine y3 ?_;refine wE_seq ?_
      refine y4 ?_;refine yM ?_;refine yf ?_;refine yM ?_;refine yO ?_;refine yM ?_;refine yO ?_;refine yf ?_
      refine yO ?_;refine yM ?_;refine yO ?_;refine yt ?_;refine yO ?_;refine yM ?_;refine yO ?_;refine yM ?_;refine yO ?_
      refine yf ?_;refine yO ?_;refine yT ?_;refine yO ?_;refine wO_val (a_beq (by exact rfl) (by exact rfl)) ?_;refine yU ?_;refine y3 ?_;refine yX ?_;refine wE_skip ?_;refine kS_n ?_;refine y4 ?_
      refine yN ?_;refine yM ?_;refine yM ?_
      refine yM ?_;refine wO_val (a_num (by exact rfl) (by exact rfl) (by with_reducible assumption)) ?_
      refine yC ?_
      refine FW.pu CB ?_
      refine yM ?_;refine yE ?_;refine yE ?_;refine yM ?_;refine yM ?_;refine y3 ?_;refine wE_seq ?_
      refine y4 ?_;refine yM ?_;refine yf ?_;refine yM ?_;refine yP ?_;refine yP ?_;refine yP ?_;refine yP ?_
      refine wO_off2 (by exact rfl) ?_;refine wO_off2 (by exact rfl) ?_;refine wO_off2 (by exact rfl) ?_;refine wO_off2 (by exact rfl) ?_;refine wO_off2 (by exact rfl) ?_;refine wO_off2 (by exact rfl) ?_;refine wO_off2 (by exact rfl) ?_;refine yP ?_;refine yP ?_;refine wO_off2 (by exact rfl) ?_;refine wO_off2 (by exact rfl) ?_
      refine wO_off2 (by exact rfl) ?_;refine wO_off2 (by exact rfl) ?_;refine wO_off2 (by exact rfl) ?_;refine wO_off2 (by exact rfl) ?_;refine wO_off2 (by exact rfl) ?_;refine yP ?_;refine yU ?_;refine y3 ?_;refine yX ?_;refine wE_skip ?_;refine kS_n ?_;exact TAIL
     ·refine yM ?_;refine yE ?_;refine yE ?_;refine yM ?_;refine yM ?_;refine y3 ?_;refine wE_seq ?_
      refine y4 ?_;refine yM ?_;refine yf ?_;refine yM ?_;refine yO ?_;refine yM ?_;refine yO ?_;refine yf ?_
      refine yO ?_;refine yM ?_;refine yO ?_;refine yf ?_;refine yO ?_;refine yM ?_;refine yP ?_;refine yP ?_;refine yO ?_
      refine yU ?_;refine yO ?_;refine wO_val (a_beq (by exact rfl) (by exact rfl)) ?_;refine yU ?_;refine y3 ?_;refine yX ?_;refine wE_skip ?_
      refine kS_n ?_;refine y4 ?_;refine yN ?_;refine yM ?_
      refine yM ?_;refine yM ?_;refine wO_val (a_num (by exact rfl) (by exact rfl) (by with_reducible assumption)) ?_
      refine yC ?_
      refine FW.pu CB ?_
      refine yM ?_;refine yE ?_;refine yE ?_;refine yM ?_;refine yM ?_;refine y3 ?_;refine wE_seq ?_
      refine y4 ?_;refine yM ?_;refine yf ?_;refine yM ?_;refine yP ?_;refine yP ?_;refine yP ?_;refine yP ?_
      refine wO_off2 (by exact rfl) ?_;refine wO_off2 (by exact rfl) ?_;refine wO_off2 (by exact rfl) ?_;refine wO_off2 (by exact rfl) ?_;refine wO_off2 (by exact rfl) ?_;refine wO_off2 (by exact rfl) ?_;refine wO_off2 (by exact rfl) ?_;refine yP ?_;refine yP ?_;refine wO_off2 (by exact rfl) ?_;refine wO_off2 (by exact rfl) ?_
      refine wO_off2 (by exact rfl) ?_;refine wO_off2 (by exact rfl) ?_;refine wO_off2 (by exact rfl) ?_;refine wO_off2 (by exact rfl) ?_;refine wO_off2 (by exact rfl) ?_;refine yP ?_;refine yU ?_;refine y3 ?_;refine yX ?_;refine wE_skip ?_;refine kS_n ?_;exact TAIL
   ·rw[bestR_no ha]at C1
    unfold enR at C2
    rw[if_neg ha]at C2
    generalize asked kerf l (OnB w ht)=er at*
    refine yA ?_;refine yM ?_;refine yO ?_;refine yM ?_;refine yO ?_;refine yD ?_;refine yO ?_;refine yf ?_;refine yU ?_
    refine y3 ?_;refine yX ?_;refine wE_skip ?_;refine kS_n ?_;refine y4 ?_
    refine yN ?_;refine yM ?_;refine yM ?_
    refine yC ?_
    refine FW.pu C1 ?_
    refine yM ?_;refine yE ?_;refine yE ?_;refine yM ?_;refine yM ?_;refine y3 ?_;refine y4 ?_;refine yN ?_;refine yM ?_
    refine yM ?_
    refine yC ?_
    refine FW.pu C2 ?_
    refine yM ?_;refine yE ?_;refine yE ?_;refine yM ?_;refine yM ?_;refine y3 ?_;refine wE_seq ?_
    refine y4 ?_;refine yM ?_;refine yt ?_;refine y3 ?_;refine yY ?_;refine y4 ?_
    refine yC ?_
    refine FW.pu C5 ?_
    refine yM ?_;refine yO ?_;refine yM ?_;refine yO ?_;refine yM ?_;refine yO ?_;refine yt ?_;refine yT ?_;refine yM ?_
    refine y3 ?_;refine wE_ret ?_;refine kS_r ?_
    exact endP_ret (hx.log.trans hr.log) rfl rfl
  ·refine yA ?_;refine yM ?_;refine yO ?_;refine yM ?_;refine yO ?_;refine yD ?_;refine yO ?_;refine yt ?_;refine yU ?_
   refine y3 ?_;refine yY ?_;refine y4 ?_
   refine yC ?_
   refine FW.pu (F.c19 (.of (hx.wf hr.wf))) ?_
   refine yM ?_;refine y3 ?_;refine wE_ret ?_;refine kS_r ?_
   exact endP_ret (hx.log.trans hr.log) rfl rfl
 ·rw[decide_eq_false hfew]
  refine yA ?_;refine yM ?_;refine yP ?_;refine yP ?_;refine yP ?_;refine yT ?_;refine y3 ?_;refine yY ?_;refine y4 ?_
  refine yC ?_
  refine FW.pu (F.c19 (.of (hx.wf hr.wf))) ?_
  refine yM ?_;refine y3 ?_;refine wE_ret ?_;refine kS_r ?_
  exact endP_ret (hx.log.trans hr.log) rfl rfl
end Go.A.Pk
end
section
namespace Go.A
open Go.ChangeShapes Go.WideShapes Go.ChangeAt Go.RowKit
section
variable {H:Type} {enc:TypeId×Value→H} {P:Program}
theorem trodAll_stays(hl:laidOutB P=true){W W':World}(hb:Below W.heap.size W W'):∀{ts:List TypeId} {vs:List Value} {ds:List (DataW H)} {ps:List MemPlace},(∀t∈ts,P.readableRec t=true∧t<P.types.size)→DataW.TrodAll enc P W 0 (fun _=>true) true ts vs ds ps→
 (∀x∈ps,x.block<W.heap.size)→DataW.TrodAll enc P W' 0 (fun b=>decide (b<W.heap.size)) true ts vs ds ps
 |[],vs,ds,ps,_,h,_=>by
  obtain⟨rfl,rfl,rfl⟩:=trodAll_nil h
  exact trodAll_mk0
 |t::ts,vs,ds,ps,hr,h,hlt=>by
  obtain⟨v,vs',d,ds',p,q,rfl,rfl,rfl,hd,hrest⟩:=trodAll_cons h
  have h1:=hr t (List.mem_cons_self ..)
  exact⟨p,q,Below.trod hl h1.1 h1.2 hd hb fun x hx=>hlt x (List.mem_append_left _ hx),trodAll_stays hl hb (fun t ht=>hr t (List.mem_cons_of_mem _ ht)) hrest fun x hx=>hlt x (List.mem_append_right _ hx),rfl⟩
theorem law_post{f:Func}{s:ChangeSpec}{W W':World}{args:Array Value}{ds gs:List (DataW H)}{before:List MemPlace}{tb:TypeId}(hW:DataW.Whole enc P f.params.toList s.vars false W args.toList ds gs before)(hv:s.vars=[])
 (hfn:(s.fn H ds).results=[.lit (.bool true)]∧(s.fn H ds).args=ds∧(s.fn H ds).vars=[])(hl:laidOutB P=true)(hr:∀t∈f.params.toList,P.readableRec t=true∧t<P.types.size)(hres:f.resultTypes= #[tb])(htb:P.underlying tb=some .bool)(hb:Below W.heap.size W W'):
 s.post enc P f false true false false W args (.bool true) W':=by
 have hW':=hW
 obtain⟨p,q,hA,hV,hpq,hz,hn⟩:=hW
 rw[hv]at hV
 obtain⟨rfl,rfl⟩:=trodVars_none hV
 have hbp:before=p:=by simpa using hpq
 subst hbp
 obtain⟨h1,h2,h3⟩:=hfn
 have hlt:∀x∈before,x.block<W.heap.size:=fun x hx=>by simpa using hW'.lt x hx
 refine⟨ds,[],before,[],before,[],hW',?_,?_,?_,hb.frame _,fun h=>by cases h⟩
 ·rw[List.append_nil,h1,hres]
  exact trodAll_cons_mk (shut_bool htb _) trodAll_mk0
 ·rw[List.append_nil,h2]
  exact trodAll_stays hl hb hr hA hlt
 ·rw[List.append_nil,h3,hv]
  rfl
end
end Go.A
end
section
set_option maxRecDepth 100000
namespace Go.A.Pk
open Go Go.Proofs Go.Joins Go.ChangeShapes Go.WideShapes Go.RowKit Go.Deep
instance:Inhabited Kd:=⟨⟨0,0,0,0,false⟩⟩
inductive KindsAt (W:World):Value→List Kd→Prop
 |nil:KindsAt W (.slice none 0 0) []
 |empty {b o cap c el fz}:W.heap[b]? =some (.cells c el fz)→cap<UNK→KindsAt W (.slice (some ⟨b,o,none⟩) 0 cap) []
 |full {b o cap c el fz} {l:List Kd}:W.heap[b]? =some (.cells c el fz)→l≠[]→l.length≤cap→cap<UNK→(∀j,j<l.length*5→c[o+j]? =(kcs l)[j]?)→KindsAt W (.slice (some ⟨b,o,none⟩) l.length cap) l
theorem kcs_get:∀{l:List Kd} {i:Nat} {k:Kd} {j:Nat},l[i]? =some k→j<5→(kcs l)[i*5+j]? =(kc k)[j]?
 |[],i,k,j,h,_=>by simp at h
 |x::l,0,k,j,h,hj=>by
  simp only[List.getElem?_cons_zero,Option.some.injEq]at h
  subst h
  simp only[kcs,Nat.zero_mul,Nat.zero_add]
  rw[List.getElem?_append_left (by simpa[kc]using hj)]
 |x::l,i+1,k,j,h,hj=>by
  rw[List.getElem?_cons_succ]at h
  have:=kcs_get (l:=l) h hj
  simp only[kcs]
  rw[List.getElem?_append_right (by simp[kc];omega),←this]
  congr 1
  simp[kc];omega
section
variable {H:Type} {enc:TypeId×Value→H} {W:World} {base:Nat} {spare:Nat→Bool} {held:Bool}
theorem cells3:Tryz.prog.cellsOf 3=1:=by kernel_rfl
theorem cells4:Tryz.prog.cellsOf 4=1:=by kernel_rfl
theorem cells69:Tryz.prog.cellsOf 69=5:=by kernel_rfl
theorem kind_cells{fuel:Nat}{cs:List Value}{x:DataW H×List MemPlace}(h:DataW.trod enc Tryz.prog W base spare held fuel 69 cs=some x):∃k:Kd,cs=kc k:=by
 obtain⟨xs,n,_,hx,hcl,hlen,hg⟩:=DataW.trod_struct Tryz.underlying69 h
 rw[cells69]at hcl
 match cs,hcl with
 |[c0,c1,c2,c3,c4],_=>
  match xs,hlen with
  |[y0,y1,y2,y3,y4],_=>
   have g0:DataW.trod enc Tryz.prog W base spare held n 3 [c0]=some y0:=by have:=hg 0 _ rfl;simpa[cells3]using this
   have g1:DataW.trod enc Tryz.prog W base spare held n 3 [c1]=some y1:=by have:=hg 1 _ rfl;simpa[cells3]using this
   have g2:DataW.trod enc Tryz.prog W base spare held n 3 [c2]=some y2:=by have:=hg 2 _ rfl;simpa[cells3]using this
   have g3:DataW.trod enc Tryz.prog W base spare held n 3 [c3]=some y3:=by have:=hg 3 _ rfl;simpa[cells3]using this
   have g4:DataW.trod enc Tryz.prog W base spare held n 4 [c4]=some y4:=by have:=hg 4 _ rfl;simpa[cells4]using this
   obtain⟨a0,h0,_⟩:=DataW.trod_int Tryz.underlying3 g0
   obtain⟨a1,h1,_⟩:=DataW.trod_int Tryz.underlying3 g1
   obtain⟨a2,h2,_⟩:=DataW.trod_int Tryz.underlying3 g2
   obtain⟨a3,h3,_⟩:=DataW.trod_int Tryz.underlying3 g3
   obtain⟨a4,h4,_⟩:=DataW.trod_bool Tryz.underlying4 g4
   cases h0;cases h1;cases h2;cases h3;cases h4
   exact⟨⟨a0,a1,a2,a3,a4⟩,rfl⟩
theorem add_eq(b o n:Nat):(Addr.mk b o none).add n=⟨b,o+n,none⟩:=by
 unfold Addr.add
 by_cases h:n=0
 ·rw[if_pos h,h,Nat.add_zero]
 ·rw[if_neg h]
theorem open_saw{v:Value}{d:DataW H}{p:List MemPlace}(hv:Value.okWide Tryz.prog W .any base 24 v)(h:DataW.Trod enc Tryz.prog W 0 (fun _=>true) held 24 v d p)(hz:∀n∈d.weights Tryz.prog 24,n≤reachBytes):∃sl kerf l,v= .agg #[sl, .int .i64 kerf]∧KindsAt W sl l:=by
 have hv0:=hv
 obtain⟨v0,v1,y0,y1,n,rfl,hd,_,h0,h1⟩:=open_agg2 Tryz.underlying24 (by kernel_rfl) (by kernel_rfl) hv h
 obtain⟨kerf,hk,_⟩:=DataW.trod_int Tryz.underlying3 h1
 cases hk
 have hcell:Cell.okWide Tryz.prog W .any base 22 v0:=by
  simp only[Value.okWide,Tryz.underlying24]at hv0
  obtain⟨cs,hcs,_,ts,hts,_,hrow⟩:=hv0
  cases hcs
  have e:Tryz.prog.cellTypes Tryz.prog.depth 24=some [22,3]:=by kernel_rfl
  rw[e]at hts
  cases hts
  obtain⟨u,hu,hc⟩:=hrow 0 v0 rfl
  cases hu
  exact hc
 rcases open_slice Tryz.underlying22 h0 with⟨h2,_⟩|⟨a,len,cap,m,n',D,Pl,h2,_,hl,hcap,hm,hy,hx⟩
 ·cases h2
  exact⟨_,kerf,[],rfl, .nil⟩
 ·cases h2
  simp only[Cell.okWide,Cell.ok,Tryz.underlying22,World.has]at hcell
  obtain⟨_,_,_,hspot,row,cells,hsh,_⟩:=hcell
  obtain⟨b,o,sp⟩:=a
  simp only at hspot hsh
  subst hspot
  rw[if_pos rfl]at hm
  subst hm
  have hcapU:m<UNK:=by
   have e40:Tryz.prog.bytesOf 69=40:=by kernel_rfl
   have:=hz (m*40) (by
    rw[hd,hy]
    simp only[DataW.weights,Tryz.underlying24,DataW.weightsEach,Tryz.underlying22,List.map_cons,List.map_nil,e40,List.length_map,List.length_range,show len+(m-len)=m by omega]
    simp)
   unfold reachBytes at this
   unfold UNK;omega
  obtain⟨c,el,fz,hheap⟩:∃c el fz,W.heap[b]? =some (.cells c el fz):=by
   unfold World.shape? at hsh
   split at hsh
   ·rename_i c el fz he;exact⟨c,el,fz,he⟩
   ·cases hsh
  have hlm:len≤m:=hl
  obtain⟨f,hf⟩:=choose_lt (α:=Kd) (n:=len) (p:=fun i k=>∀j,j<5→c[o+(i*5+j)]? =(kc k)[j]?) (fun i hi=>by
   obtain⟨cs',hc,ht⟩:=hx i (by omega)
   obtain⟨k,hk⟩:=kind_cells ht
   subst hk
   refine⟨k,fun j hj=> ?_⟩
   rw[cells69]at hc
   obtain⟨_,_,hat⟩:=World.cells?_some hc
   have:=hat j hj
   rw[add_eq,add_eq]at this
   rw[←this,Nat.add_assoc]
   unfold World.cell?
   simp only[hheap]
   rfl)
  by_cases h0:len=0
  ·subst h0
   exact⟨_,kerf,[],rfl, .empty hheap hcapU⟩
  ·have hlen:((List.range len).map f).length=len:=by simp
   refine⟨_,kerf,(List.range len).map f,rfl,?_⟩
   have:=KindsAt.full (W:=W) (o:=o) (cap:=m) (l:=(List.range len).map f) hheap (by intro e;rw[e]at hlen;simp at hlen;omega) (by omega) hcapU (fun j hj=>by
    rw[hlen]at hj
    have h5:j / 5<len:=by omega
    have e1:j=j / 5*5+j % 5:=by omega
    have g1:=hf (j / 5) h5 (j % 5) (by omega)
    have g2:=kcs_get (l:=(List.range len).map f) (i:=j / 5) (k:=f (j / 5)) (j:=j % 5) (by simp[h5]) (by omega)
    rw[←e1]at g1 g2
    rw[g1,g2])
   rw[hlen]at this
   exact this
end
end Go.A.Pk
end
section
set_option maxRecDepth 100000
namespace Go.A.Pk
variable {T:Nat→Option AFunc}
theorem Al.mono{f:Nat}{args:List Value}{h:Heap}{Q Q':Value→Heap→Prop}(H:Al T f args h Q)(hq:∀v h',Q v h'→Q' v h'):Al T f args h Q':=
 CW.mono H fun r h' ⟨hx,v,hv,q⟩=>⟨hx,v,hv,hq _ _ q⟩
end Go.A.Pk
end
section
set_option maxRecDepth 100000
open Go Go.A Go.Proofs
namespace Go.A.Pk
theorem ok19:Entry Tryz.prog 19 (.prim (pConst (.bool true))):= .prim (pConst_ok sound Tryz.func19 (of_decide_eq_true (by kernel_rfl)) (by kernel_rfl) (of_decide_eq_true (by kernel_rfl)) (by kernel_rfl) rfl StkQ.run)
end Go.A.Pk
end
section
set_option maxRecDepth 100000
namespace Go.A.Pk
open Go Go.Proofs Go.RowKit
theorem R.single{P:Program}{W:World}{n b d:Nat}{vs:List Value}{sz e:Nat}{c:Array Value}{el:TypeId}{fz:Nat×Nat}(hn:P.globals.size≤n)(hW:W.heap[b]? =some (.cells c el fz))(h1:d+vs.length≤e)(h2:e≤c.size)
 (hv:∀i,i<vs.length→∃v',c[d+i]? =some v'∧VR (fun x=>if x=n then some ⟨b,d,e,sz⟩else none) (gv vs i) v'):R P (fun x=>if x=n then some ⟨b,d,e,sz⟩else none) ⟨[(n, .cells vs false sz)],n+1,[]⟩ W:=by
 have hg:∀x o,(⟨[(n, .cells vs false sz)],n+1,[]⟩:Heap).get x=some o→x=n∧o= .cells vs false sz:=fun x o hx=>by
  simp only[Heap.get,getO,cond_eq_ite,beq_eq,decide_eq_true_eq]at hx
  split at hx
  ·rename_i he;cases hx;exact⟨he.symm,rfl⟩
  ·cases hx
 refine⟨Nat.le_succ_of_le hn,fun g o hgs hx=> ?_,fun x o hx=> ?_,fun x o hx=> ?_,fun x k hk=> ?_,fun x y o o' k k' hne hx hy=> ?_⟩
 ·obtain⟨rfl,_⟩:=hg _ _ hx;omega
 ·obtain⟨rfl,rfl⟩:=hg _ _ hx
  intro k hk
  dsimp only at hk
  rw[if_pos rfl]at hk
  cases hk
  exact⟨rfl,c,el,fz,hW,h1,h2,hv,fun h=>by cases h⟩
 ·obtain⟨rfl,_⟩:=hg _ _ hx;exact Nat.lt_succ_self _
 ·split at hk
  ·rename_i he;subst he;cases hk
   exact⟨Nat.lt_succ_self _,(Array.getElem?_eq_some_iff.1 hW).1⟩
  ·cases hk
 ·obtain⟨rfl,_⟩:=hg _ _ hx
  obtain⟨rfl,_⟩:=hg _ _ hy
  exact(hne rfl).elim
theorem St.below{μ μ':Mu}{h h':Heap}{W W':World}(s:St μ h W μ' h' W')(hro:∀b o,h.get b=some o→o.ro=true∨o.live=false):Below W.heap.size W W':=
 ⟨s.same.os,s.same.tape,s.same.out,s.le,fun r hr=>s.keep r hr fun⟨b,o,k,g1,g2,g3,_⟩=>by
  rcases hro b o g1 with q|q
  ·rw[q]at g3;cases g3
  ·rw[q]at g2;cases g2⟩
structure Laid (W:World) (sl:Value) (l:List Kd) (h:Heap) (μ:Mu) (v:Value) (n c:Nat) (a:Option Addr):Prop where
 rel:R Tryz.prog μ h W
 ro:∀b o,h.get b=some o→o.ro=true∨o.live=false
 rdy:Rdy h
 val:VR μ v sl
 form:v= .slice a n c
 at':SliceOf h 5 (.slice a n c) n (kcs l)
theorem KindsAt.laid{W:World}{sl:Value}{l:List Kd}(hk:KindsAt W sl l):∃h μ v n c a,Laid W sl l h μ v n c a:=by
 have hg:Tryz.prog.globals.size≤8:=of_decide_eq_true (by kernel_rfl)
 have hro:∀vs,∀b o,(⟨[(8, .cells vs false 5)],9,[]⟩:Heap).get b=some o→o.ro=true∨o.live=false:=fun vs b o hx=>by
  simp only[Heap.get,getO,cond_eq_ite]at hx
  split at hx
  ·cases hx;exact .inl rfl
  ·cases hx
 have hrd:∀vs,Rdy (⟨[(8, .cells vs false 5)],9,[]⟩:Heap):=fun vs=>⟨⟨by simp,fun b hb=>by simp at hb;subst hb;show 8<9;omega⟩,rfl⟩
 cases hk with
 |nil=>
  exact⟨⟨[],8,[]⟩,fun _=>none, .slice none 0 0,0,0,none,R.none hg,(fun b o hx=>by cases hx),⟨⟨by simp,fun b hb=>by simp at hb⟩,rfl⟩, .sliceN _ _,rfl, .nil⟩
 | @empty b o cap c el fz hW hc=>
   refine⟨⟨[(8, .cells [] false 5)],9,[]⟩,fun x=>if x=8 then some ⟨b,0,0,5⟩else none, .slice (some ⟨8,o,none⟩) 0 cap,0,cap,some ⟨8,o,none⟩,R.single hg hW (Nat.le_refl _) (Nat.zero_le _) (fun i hi=>by simp at hi),hro _,hrd _,?_,rfl,?_⟩
   ·have:=VR.slice (μ:=fun x=>if x=8 then some (⟨b,0,0,5⟩:Blk)else none) (b:=8) (o:=o) (l:=0) (c:=cap) (k:=⟨b,0,0,5⟩) (by simp) hc (Nat.zero_le _)
    simpa using this
   ·refine .mem ⟨by show 8<9;omega,⟨[],false,5,rfl,?_⟩,rfl⟩ (Nat.zero_le _)
    cases o<;>rfl
 | @full b o cap c el fz _ hW hne hl hc hat=>
   have hlen:=kcs_length l
   have hpos:0<l.length:=List.length_pos_iff.2 hne
   have hsz:o+l.length*5≤c.size:=by
    have h1:=hat (l.length*5-1) (by omega)
    have h2:(kcs l)[l.length*5-1]? =some ((kcs l)[l.length*5-1]'(by omega)):=List.getElem?_eq_getElem _
    rw[h2]at h1
    have:=(Array.getElem?_eq_some_iff.1 h1).1
    omega
   refine⟨⟨[(8, .cells (kcs l) false 5)],9,[]⟩,fun x=>if x=8 then some ⟨b,o,o+l.length*5,5⟩else none, .slice (some ⟨8,0,none⟩) l.length cap,l.length,cap,some ⟨8,0,none⟩,R.single hg hW (by rw[hlen];exact Nat.le_refl _) hsz (fun i hi=> ?_),hro _,hrd _,?_,rfl,?_⟩
   ·rw[hlen]at hi
    have h2:(kcs l)[i]? =some ((kcs l)[i]'(by omega)):=List.getElem?_eq_getElem _
    refine⟨_,(hat i hi).trans h2,?_⟩
    have e:gv (kcs l) i=(kcs l)[i]'(by omega):=by unfold gv;rw[lget_eq,h2];rfl
    rw[e]
    refine(VR.noRef ?_).1
    have hflat:∀(l:List Kd),∀x∈kcs l,noRef x=true:=fun l=>by
     induction l with
     |nil=>intro x hx;cases hx
     |cons k l ih=>
      intro x hx
      simp only[kcs,kc,List.mem_append,List.mem_cons,List.not_mem_nil,or_false]at hx
      rcases hx with(rfl|rfl|rfl|rfl|rfl)|hx
      ·rfl
      ·rfl
      ·rfl
      ·rfl
      ·rfl
      ·exact ih x hx
    exact hflat l _ (List.getElem_mem _)
   ·have:=VR.slice (μ:=fun x=>if x=8 then some (⟨b,o,o+l.length*5,5⟩:Blk)else none) (b:=8) (o:=0) (l:=l.length) (c:=cap) (k:=⟨b,o,o+l.length*5,5⟩) (by simp) hc hl
    simpa using this
   ·refine .mem ⟨by show 8<9;omega,⟨kcs l,false,5,rfl,?_⟩,hlen⟩ hl
    rw[ltake_eq,ldrop_eq,List.drop_zero,List.take_of_length_le (by omega)]
end Go.A.Pk
end
section
set_option maxRecDepth 100000
namespace Go.A.Pk
open Go Go.Proofs Go.Joins Go.ChangeShapes Go.WideShapes Go.RowKit Go.Deep
inductive CellsAt (W:World) (sz:Nat):Value→Nat→List Value→Prop
 |nil:CellsAt W sz (.slice none 0 0) 0 []
 |empty {b o cap c el fz}:W.heap[b]? =some (.cells c el fz)→cap<UNK→CellsAt W sz (.slice (some ⟨b,o,none⟩) 0 cap) 0 []
 |full {b o cap n c el fz} {cs:List Value}:W.heap[b]? =some (.cells c el fz)→n≠0→cs.length=n*sz→0<sz→n≤cap→cap<UNK→(∀j,j<n*sz→c[o+j]? =cs[j]?)→(∀x∈cs,noRef x=true)→CellsAt W sz (.slice (some ⟨b,o,none⟩) n cap) n cs
theorem noRef_kcs:∀(l:List Kd),∀x∈kcs l,noRef x=true
 |[],x,hx=>by cases hx
 |k::l,x,hx=>by
  simp only[kcs,kc,List.mem_append,List.mem_cons,List.not_mem_nil,or_false]at hx
  rcases hx with(rfl|rfl|rfl|rfl|rfl)|hx
  ·rfl
  ·rfl
  ·rfl
  ·rfl
  ·rfl
  ·exact noRef_kcs l x hx
theorem noRef_ncI:∀(l:List (Nat×Int)),∀x∈ncI l,noRef x=true
 |[],x,hx=>by cases hx
 |k::l,x,hx=>by
  simp only[ncI,List.mem_append,List.mem_cons,List.not_mem_nil,or_false]at hx
  rcases hx with(rfl|rfl)|hx
  ·rfl
  ·rfl
  ·exact noRef_ncI l x hx
theorem KindsAt.cells{W:World}{v:Value}{l:List Kd}(k:KindsAt W v l):CellsAt W 5 v l.length (kcs l):=by
 cases k with
 |nil=>exact .nil
 |empty h1 h2=>exact .empty h1 h2
 |full h1 h2 h3 h4 h5=>exact .full h1 (fun e=>h2 (List.length_eq_zero_iff.1 e)) (kcs_length l) (by omega) h3 h4 h5 (noRef_kcs l)
def NodesAt(W:World)(v:Value)(ns:List (Nat×Int)):Prop:=CellsAt W 2 v ns.length (ncI ns)∧∀x∈ns,x.1<256
structure Ob where
 vs:List Value
 sz:Nat
 b:Nat
 d:Nat
 e:Nat
def obsL:Nat→List Ob→List (Nat×AObj)
 |_,[]=>[]
 |n,o::l=>(n, .cells o.vs false o.sz)::obsL (n+1) l
def obH(l:List Ob):Heap:=⟨obsL 8 l,8+l.length,[]⟩
def obM(l:List Ob):Mu:=fun x=>if 8≤x then(l[x-8]?).map fun o=>⟨o.b,o.d,o.e,o.sz⟩else none
structure ObOk (W:World) (μ:Mu) (o:Ob):Prop where
 ok:∃c el fz,W.heap[o.b]? =some (.cells c el fz)∧o.d+o.vs.length≤o.e∧o.e≤c.size∧∀i,i<o.vs.length→∃v',c[o.d+i]? =some v'∧VR μ (gv o.vs i) v'
theorem obsL_get:∀(l:List Ob) (n x:Nat),getO (obsL n l) x=if n≤x then(l[x-n]?).map fun o=> .cells o.vs false o.sz else none
 |[],n,x=>by simp[obsL,getO]
 |o::l,n,x=>by
  simp only[obsL,getO,cond_eq_ite,beq_eq,decide_eq_true_eq]
  by_cases hx:n=x
  ·subst hx
   rw[if_pos rfl,if_pos (Nat.le_refl _),Nat.sub_self]
   rfl
  ·rw[if_neg hx,obsL_get l (n+1) x]
   by_cases h1:n≤x
   ·rw[if_pos h1,if_pos (by omega),show x-n=(x-(n+1))+1 by omega,List.getElem?_cons_succ]
   ·rw[if_neg h1,if_neg (by omega)]
theorem obH_get(l:List Ob)(x:Nat):(obH l).get x=if 8≤x then(l[x-8]?).map fun o=> .cells o.vs false o.sz else none:=obsL_get l 8 x
theorem obH_some{l:List Ob}{x:Nat}{a:AObj}(h:(obH l).get x=some a):8≤x∧∃o,l[x-8]? =some o∧a= .cells o.vs false o.sz:=by
 rw[obH_get]at h
 split at h
 ·rename_i h8
  cases hl:l[x-8]? with
  |none=>rw[hl]at h;cases h
  |some o=>rw[hl]at h;cases h;exact⟨h8,o,rfl,rfl⟩
 ·cases h
theorem obM_some{l:List Ob}{x:Nat}{k:Blk}(h:obM l x=some k):8≤x∧∃o,l[x-8]? =some o∧k=⟨o.b,o.d,o.e,o.sz⟩:=by
 unfold obM at h
 split at h
 ·rename_i h8
  cases hl:l[x-8]? with
  |none=>rw[hl]at h;cases h
  |some o=>rw[hl]at h;cases h;exact⟨h8,o,rfl,rfl⟩
 ·cases h
theorem R.obs{P:Program}{W:World}{l:List Ob}(hg:P.globals.size≤8)(H:∀o∈l,ObOk W (obM l) o):R P (obM l) (obH l) W:=by
 refine⟨Nat.le_trans hg (Nat.le_add_right _ _),fun g o hgs hx=> ?_,fun x o hx=> ?_,fun x o hx=> ?_,fun x k hk=> ?_,fun x y o o' k k' hne hx hy _ _ hk hk' _=> ?_⟩
 ·have:=(obH_some hx).1;omega
 ·obtain⟨h8,ob,hl,rfl⟩:=obH_some hx
  intro k hk
  obtain⟨_,ob',hl',rfl⟩:=obM_some hk
  rw[hl]at hl'
  cases hl'
  obtain⟨c,el,fz,hW,h1,h2,hv⟩:=(H ob (List.mem_of_getElem? hl)).ok
  exact⟨rfl,c,el,fz,hW,h1,h2,hv,fun h=>by cases h⟩
 ·obtain⟨h8,ob,hl,rfl⟩:=obH_some hx
  have:=(List.getElem?_eq_some_iff.1 hl).1
  show x<8+l.length
  omega
 ·obtain⟨h8,ob,hl,rfl⟩:=obM_some hk
  have:=(List.getElem?_eq_some_iff.1 hl).1
  obtain⟨c,el,fz,hW,_⟩:=(H ob (List.mem_of_getElem? hl)).ok
  exact⟨by show x<8+l.length;omega,(Array.getElem?_eq_some_iff.1 hW).1⟩
 ·obtain⟨_,ob,_,rfl⟩:=obH_some hx
  obtain⟨_,ob',_,rfl⟩:=obH_some hy
  exact⟨rfl,rfl⟩
theorem obH_ro{l:List Ob}:∀b o,(obH l).get b=some o→o.ro=true∨o.live=false:=fun b o hx=>by
 obtain⟨_,ob,_,rfl⟩:=obH_some hx
 exact .inl rfl
theorem obsL_keys:∀(l:List Ob) (n:Nat),((obsL n l).map (·.1)).Nodup∧∀b∈(obsL n l).map (·.1),n≤b∧b<n+l.length
 |[],n=>⟨by simp[obsL],fun b hb=>by simp[obsL]at hb⟩
 |o::l,n=>by
  obtain⟨h1,h2⟩:=obsL_keys l (n+1)
  refine⟨?_,fun b hb=> ?_⟩
  ·simp only[obsL,List.map_cons,List.nodup_cons]
   exact⟨fun q=>by have:=(h2 n q).1;omega,h1⟩
  ·simp only[obsL,List.map_cons,List.mem_cons]at hb
   rcases hb with rfl|hb
   ·simp
   ·have:=h2 b hb
    simp only[List.length_cons]
    omega
theorem obH_rdy(l:List Ob):Rdy (obH l):=⟨⟨(obsL_keys l 8).1,fun b hb=>((obsL_keys l 8).2 b hb).2⟩,rfl⟩
theorem CellsAt.lay{W:World}{sz n:Nat}{sl:Value}{cs:List Value}(s:CellsAt W sz sl n cs):∃ob:List Ob,(∀μ,∀o∈ob,ObOk W μ o)∧∀(L:List Ob) (i:Nat),(∀o,ob[0]? =some o→L[i]? =some o)→∃a c,VR (obM L) (.slice a n c) sl∧SliceOf (obH L) sz (.slice a n c) n cs∧c<UNK:=by
 cases s with
 |nil=>exact⟨[],(fun _ o ho=>by cases ho),fun L i _=>⟨none,0, .sliceN _ _, .nil,by unfold UNK;omega⟩⟩
 | @empty b o cap c el fz hW hc=>
   refine⟨[⟨[],sz,b,0,0⟩],fun μ o' ho=> ?_,fun L i hL=> ?_⟩
   ·rw[List.mem_singleton.1 ho]
    exact⟨c,el,fz,hW,Nat.le_refl _,Nat.zero_le _,fun i hi=>by cases hi⟩
   ·have hi:=hL _ rfl
    have hg:(obH L).get (8+i)=some (.cells [] false sz):=by rw[obH_get,if_pos (by omega),show 8+i-8=i by omega,hi];rfl
    have hm:obM L (8+i)=some ⟨b,0,0,sz⟩:=by unfold obM;rw[if_pos (by omega),show 8+i-8=i by omega,hi];rfl
    have hlt:=(List.getElem?_eq_some_iff.1 hi).1
    refine⟨some ⟨8+i,o,none⟩,cap,?_, .mem ⟨by show 8+i<8+L.length;omega,⟨[],false,sz,hg,?_⟩,by simp⟩ (Nat.zero_le _),hc⟩
    ·have:=VR.slice (μ:=obM L) (b:=8+i) (o:=o) (l:=0) (c:=cap) (k:=⟨b,0,0,sz⟩) hm hc (Nat.zero_le _)
     simpa using this
    ·rw[ldrop_eq,List.drop_nil]
     cases 0*sz<;>rfl
 | @full b o cap _ c el fz _ hW hne hlen hsz hl hc hat hno=>
   have hpos:0<n*sz:=Nat.mul_pos (Nat.pos_of_ne_zero hne) hsz
   have hsize:o+n*sz≤c.size:=by
    have h1:=hat (n*sz-1) (by omega)
    have h2:cs[n*sz-1]? =some (cs[n*sz-1]'(by omega)):=List.getElem?_eq_getElem _
    rw[h2]at h1
    have:=(Array.getElem?_eq_some_iff.1 h1).1
    omega
   refine⟨[⟨cs,sz,b,o,o+n*sz⟩],fun μ o' ho=> ?_,fun L i hL=> ?_⟩
   ·rw[List.mem_singleton.1 ho]
    refine⟨c,el,fz,hW,by show o+cs.length≤o+n*sz;omega,hsize,fun i hi=> ?_⟩
    have hi':i<cs.length:=hi
    have h2:cs[i]? =some (cs[i]'hi'):=List.getElem?_eq_getElem _
    refine⟨_,(hat i (by omega)).trans h2,?_⟩
    have e:gv cs i=cs[i]'hi':=by unfold gv;rw[lget_eq,h2];rfl
    show VR μ (gv cs i) _
    rw[e]
    exact(VR.noRef (hno _ (List.getElem_mem _))).1
   ·have hi:=hL _ rfl
    have hg:(obH L).get (8+i)=some (.cells cs false sz):=by rw[obH_get,if_pos (by omega),show 8+i-8=i by omega,hi];rfl
    have hm:obM L (8+i)=some ⟨b,o,o+n*sz,sz⟩:=by unfold obM;rw[if_pos (by omega),show 8+i-8=i by omega,hi];rfl
    have hlt:=(List.getElem?_eq_some_iff.1 hi).1
    refine⟨some ⟨8+i,0,none⟩,cap,?_, .mem ⟨by show 8+i<8+L.length;omega,⟨cs,false,sz,hg,?_⟩,hlen⟩ hl,hc⟩
    ·have:=VR.slice (μ:=obM L) (b:=8+i) (o:=0) (l:=n) (c:=cap) (k:=⟨b,o,o+n*sz,sz⟩) hm hc hl
     simpa using this
    ·rw[ltake_eq,ldrop_eq,List.drop_zero,List.take_of_length_le (by omega)]
theorem laid2{W:World}{sz1 sz2 n1 n2:Nat}{s1 s2:Value}{c1 c2:List Value}(h1:CellsAt W sz1 s1 n1 c1)(h2:CellsAt W sz2 s2 n2 c2):∃(h:Heap) (μ:Mu),R Tryz.prog μ h W∧(∀b o,h.get b=some o→o.ro=true∨o.live=false)∧Rdy h∧
 (∃a c,VR μ (.slice a n1 c) s1∧SliceOf h sz1 (.slice a n1 c) n1 c1∧c<UNK)∧(∃a c,VR μ (.slice a n2 c) s2∧SliceOf h sz2 (.slice a n2 c) n2 c2∧c<UNK):=by
 have hg:Tryz.prog.globals.size≤8:=of_decide_eq_true (by kernel_rfl)
 obtain⟨o1,k1,q1⟩:=h1.lay
 obtain⟨o2,k2,q2⟩:=h2.lay
 refine⟨obH (o1++o2),obM (o1++o2),R.obs hg fun o ho=> ?_,obH_ro,obH_rdy _,q1 _ 0 fun o ho=> ?_,q2 _ o1.length fun o ho=> ?_⟩
 ·rcases List.mem_append.1 ho with q|q
  ·exact k1 _ o q
  ·exact k2 _ o q
 ·have:=(List.getElem?_eq_some_iff.1 ho).1
  rw[List.getElem?_append_left this]
  exact ho
 ·rw[List.getElem?_append_right (Nat.le_refl _),Nat.sub_self]
  exact ho
section
variable {H:Type} {enc:TypeId×Value→H} {W:World} {base:Nat} {spare:Nat→Bool} {held:Bool}
theorem cells5:Tryz.prog.cellsOf 5=1:=by kernel_rfl
theorem cells115:Tryz.prog.cellsOf 115=2:=by kernel_rfl
theorem node_cells{fuel:Nat}{cs:List Value}{x:DataW H×List MemPlace}(h:DataW.trod enc Tryz.prog W base spare held fuel 115 cs=some x):∃k:Nat×Int,cs=[.int .u8 k.1, .int .i64 k.2]∧k.1<256:=by
 obtain⟨xs,n,_,hx,hcl,hlen,hg⟩:=DataW.trod_struct Tryz.underlying115 h
 rw[cells115]at hcl
 match cs,hcl with
 |[c0,c1],_=>
  match xs,hlen with
  |[y0,y1],_=>
   have g0:DataW.trod enc Tryz.prog W base spare held n 5 [c0]=some y0:=by have:=hg 0 _ rfl;simpa[cells5]using this
   have g1:DataW.trod enc Tryz.prog W base spare held n 3 [c1]=some y1:=by have:=hg 1 _ rfl;simpa[cells3]using this
   obtain⟨a0,h0,_,w0⟩:=DataW.trod_int Tryz.underlying5 g0
   obtain⟨a1,h1,_⟩:=DataW.trod_int Tryz.underlying3 g1
   cases h0;cases h1
   simp only[Lit.wf,Bool.and_eq_true,decide_eq_true_eq]at w0
   have e1:IntKind.u8.min=0:=rfl
   have e2:IntKind.u8.max=255:=rfl
   rw[e1,e2]at w0
   obtain⟨a0,rfl⟩:=Int.eq_ofNat_of_zero_le w0.1
   exact⟨(a0,a1),rfl,by show a0<256;omega⟩
theorem ncI_get:∀{l:List (Nat×Int)} {i:Nat} {k:Nat×Int} {j:Nat},l[i]? =some k→j<2→(ncI l)[i*2+j]? =([.int .u8 k.1, .int .i64 k.2]:List Value)[j]?
 |[],i,k,j,h,_=>by simp at h
 |x::l,0,k,j,h,hj=>by
  simp only[List.getElem?_cons_zero,Option.some.injEq]at h
  subst h
  simp only[ncI,Nat.zero_mul,Nat.zero_add]
  rw[List.getElem?_append_left (by simpa using hj)]
 |x::l,i+1,k,j,h,hj=>by
  rw[List.getElem?_cons_succ]at h
  have:=ncI_get (l:=l) h hj
  simp only[ncI]
  rw[List.getElem?_append_right (by simp;omega),←this]
  congr 1
  simp;omega
theorem open_nodes{v:Value}{d:DataW H}{p:List MemPlace}(hv:Value.okWide Tryz.prog W .any base 31 v)(h:DataW.Trod enc Tryz.prog W 0 (fun _=>true) held 31 v d p)(hz:∀n∈d.weights Tryz.prog 31,n≤reachBytes):∃ns,NodesAt W v ns:=by
 have hcell:Cell.okWide Tryz.prog W .any base 31 v:=by
  simpa only[Value.okWide,Tryz.underlying31]using hv
 obtain⟨a0,len0,cap0,rfl⟩:=okWide_slice Tryz.underlying31 hv
 obtain⟨fuel,hf⟩:=h
 have hf:DataW.trod enc Tryz.prog W 0 (fun _=>true) held fuel 31 [.slice a0 len0 cap0]=some (d,p):=by simpa[Value.cells]using hf
 rcases open_slice Tryz.underlying31 hf with⟨h2,_⟩|⟨a,len,cap,m,n',D,Pl,h2,_,hl,hcap,hm,hy,hx⟩
 ·cases h2
  exact⟨[], .nil,fun x hx=>by cases hx⟩
 ·cases h2
  simp only[Cell.okWide,Cell.ok,Tryz.underlying31,World.has]at hcell
  obtain⟨_,_,_,hspot,row,cells,hsh,_⟩:=hcell
  obtain⟨b,o,sp⟩:=a
  simp only at hspot hsh
  subst hspot
  rw[if_pos rfl]at hm
  subst hm
  have hcapU:m<UNK:=by
   have e16:Tryz.prog.bytesOf 115=16:=by kernel_rfl
   have:=hz (m*16) (by
    cases hy
    simp only[DataW.weights,Tryz.underlying31,e16,List.length_map,List.length_range,show len0+(m-len0)=m by omega]
    simp)
   unfold reachBytes at this
   unfold UNK;omega
  obtain⟨c,el,fz,hheap⟩:∃c el fz,W.heap[b]? =some (.cells c el fz):=by
   unfold World.shape? at hsh
   split at hsh
   ·rename_i c el fz he;exact⟨c,el,fz,he⟩
   ·cases hsh
  obtain⟨f,hf⟩:=choose_lt (α:=Nat×Int) (n:=len0) (p:=fun i k=>k.1<256∧∀j,j<2→c[o+(i*2+j)]? =([.int .u8 k.1, .int .i64 k.2]:List Value)[j]?) (fun i hi=>by
   obtain⟨cs',hc,ht⟩:=hx i (by omega)
   obtain⟨k,hk,hk2⟩:=node_cells ht
   subst hk
   refine⟨k,hk2,fun j hj=> ?_⟩
   rw[cells115]at hc
   obtain⟨_,_,hat⟩:=World.cells?_some hc
   have:=hat j hj
   rw[add_eq,add_eq]at this
   rw[←this,Nat.add_assoc]
   unfold World.cell?
   simp only[hheap]
   rfl)
  by_cases h0:len0=0
  ·subst h0
   exact⟨[], .empty hheap hcapU,fun x hx=>by cases hx⟩
  ·have hlen:((List.range len0).map f).length=len0:=by simp
   refine⟨(List.range len0).map f,?_,fun x hx=> ?_⟩
   ·rw[hlen]
    refine .full hheap h0 (by rw[ncI_len,hlen]) (by omega) hl hcapU (fun j hj=> ?_) (noRef_ncI _)
    have h5:j / 2<len0:=by omega
    have e1:j=j / 2*2+j % 2:=by omega
    have g1:=(hf (j / 2) h5).2 (j % 2) (by omega)
    have g2:=ncI_get (l:=(List.range len0).map f) (i:=j / 2) (k:=f (j / 2)) (j:=j % 2) (by simp[h5]) (by omega)
    rw[←e1]at g1 g2
    rw[g1,g2]
   ·obtain⟨i,hi,rfl⟩:=List.mem_map.1 hx
    exact(hf i (List.mem_range.1 hi)).1
end
end Go.A.Pk
end
section
set_option maxRecDepth 100000
open Go Go.A Go.Proofs Go.RowKit
namespace Go.A.Pk
theorem c8:compF Tryz.prog Tryz.f8 [[1,2,3,4,5],[1,2,3,4,5,33],[10],[1,2,3,4,5,11,12],[1,2,3,4,5,11,12,13,14],[1,2,3,4,5,11,12,13,14,50],[10],[1,2,3,4,5,11,13,14,15,16],[1,2,3,4,5,11,13,15,16,77],[10],[1,2,3,4,5,11,13,15,16,17,18],[1,2,4,5,111],[10],[1,2,4,5,19,20],[1,2,4,5,19,121],[10],[1,2,5,19,21,22,23],[21,22,23,24,25],[10]]=some f8:=by kernel_rfl
theorem c49:compF Tryz.prog Tryz.f49 [[1,2,3,4],[10,11],[8,9]]=some f49:=by kernel_rfl
theorem c108:compF Tryz.prog Tryz.f108 [[1,2,3,4,8],[1,2,3,8,10,11],[1,2,3,8,10,11,24],[8,9],[8,12,13],[8,12,37],[8,9],[8,9]]=some f108:=by kernel_rfl
def tree8:Tr:=(.node (.node (.node (.node (.node (.node .nil 8 f8 .nil) 18 f18 .nil) 19 (.prim (pConst (.bool true))) (.node (.node .nil 20 f20 .nil) 22 f22 .nil)) 32 f32 (.node (.node (.node .nil 49 f49 .nil) 50 f50 .nil) 66 f66 (.node .nil 75 f75 .nil))) 76 f76 (.node (.node (.node (.node .nil 77 f77 .nil) 78 f78 .nil) 82 f82 (.node (.node .nil 83 f83 .nil) 94 f94 .nil)) 96 f96 (.node (.node (.node .nil 97 f97 .nil) 104 f104 .nil) 105 f105 (.node .nil 106 f106 .nil)))) 108 f108 (.node (.node (.node (.node (.node .nil 109 f109 .nil) 113 f113 .nil) 117 f117 (.node (.node .nil 118 f118 .nil) 119 f119 .nil)) 122 f122 (.node (.node (.node .nil 125 f125 .nil) 136 f136 .nil) 140 f140 (.node .nil 141 f141 .nil))) 142 f142 (.node (.node (.node (.node .nil 143 f143 .nil) 144 f144 .nil) 145 f145 (.node (.node .nil 147 f147 .nil) 149 f149 .nil)) 169 f169 (.node (.node (.node .nil 170 f170 .nil) 171 f171 .nil) 172 f172 (.node .nil 173 f173 .nil)))))
def T8:Nat→Option AFunc:=tree8.get
theorem all8:tree8.all (Entry Tryz.prog):=by
 unfold tree8
 exact(Tr.all_node (Tr.all_node (Tr.all_node (Tr.all_node (Tr.all_node (Tr.all_node Tr.all_nil (.of Tryz.func8 c8) Tr.all_nil) (.of Tryz.func18 c18) Tr.all_nil) ok19 (Tr.all_node (Tr.all_node Tr.all_nil (.of Tryz.func20 c20) Tr.all_nil) (.of Tryz.func22 c22) Tr.all_nil)) (.of Tryz.func32 c32) (Tr.all_node (Tr.all_node (Tr.all_node Tr.all_nil (.of Tryz.func49 c49) Tr.all_nil) (.of Tryz.func50 c50) Tr.all_nil) (.of Tryz.func66 c66) (Tr.all_node Tr.all_nil (.of Tryz.func75 c75) Tr.all_nil))) (.of Tryz.func76 c76) (Tr.all_node (Tr.all_node (Tr.all_node (Tr.all_node Tr.all_nil (.of Tryz.func77 c77) Tr.all_nil) (.of Tryz.func78 c78) Tr.all_nil) (.of Tryz.func82 c82) (Tr.all_node (Tr.all_node Tr.all_nil (.of Tryz.func83 c83) Tr.all_nil) (.of Tryz.func94 c94) Tr.all_nil)) (.of Tryz.func96 c96) (Tr.all_node (Tr.all_node (Tr.all_node Tr.all_nil (.of Tryz.func97 c97) Tr.all_nil) (.of Tryz.func104 c104) Tr.all_nil) (.of Tryz.func105 c105) (Tr.all_node Tr.all_nil (.of Tryz.func106 c106) Tr.all_nil)))) (.of Tryz.func108 c108) (Tr.all_node (Tr.all_node (Tr.all_node (Tr.all_node (Tr.all_node Tr.all_nil (.of Tryz.func109 c109) Tr.all_nil) (.of Tryz.func113 c113) Tr.all_nil) (.of Tryz.func117 c117) (Tr.all_node (Tr.all_node Tr.all_nil (.of Tryz.func118 c118) Tr.all_nil) (.of Tryz.func119 c119) Tr.all_nil)) (.of Tryz.func122 c122) (Tr.all_node (Tr.all_node (Tr.all_node Tr.all_nil (.of Tryz.func125 c125) Tr.all_nil) (.of Tryz.func136 c136) Tr.all_nil) (.of Tryz.func140 c140) (Tr.all_node Tr.all_nil (.of Tryz.func141 c141) Tr.all_nil))) (.of Tryz.func142 c142) (Tr.all_node (Tr.all_node (Tr.all_node (Tr.all_node Tr.all_nil (.of Tryz.func143 c143) Tr.all_nil) (.of Tryz.func144 c144) Tr.all_nil) (.of Tryz.func145 c145) (Tr.all_node (Tr.all_node Tr.all_nil (.of Tryz.func147 c147) Tr.all_nil) (.of Tryz.func149 c149) Tr.all_nil)) (.of Tryz.func169 c169) (Tr.all_node (Tr.all_node (Tr.all_node Tr.all_nil (.of Tryz.func170 c170) Tr.all_nil) (.of Tryz.func171 c171) Tr.all_nil) (.of Tryz.func172 c172) (Tr.all_node Tr.all_nil (.of Tryz.func173 c173) Tr.all_nil)))))
theorem sound8:SoundT Tryz.prog T8:=soundT_of (by kernel_rfl) all8
theorem pu19_8{h:Heap}:Pu T8 19 [] h (.bool true):= .prim (p:=pConst (.bool true)) (by kernel_rfl) rfl ⟨rfl,rfl⟩
theorem fns8:FnsDe T8:={p:=sound8.primAS,f77:=by kernel_rfl,f117:=by kernel_rfl,f119:=by kernel_rfl,f147:=by kernel_rfl,f118:=by kernel_rfl,f66:=by kernel_rfl,f18:=by kernel_rfl,f97:=by kernel_rfl,f122:=by kernel_rfl,f149:=by kernel_rfl,f75:=by kernel_rfl,f96:=by kernel_rfl,f113:=by kernel_rfl,f94:=by kernel_rfl,f104:=by kernel_rfl,f105:=by kernel_rfl,f106:=by kernel_rfl,f136:=by kernel_rfl,f140:=by kernel_rfl,f141:=by kernel_rfl,f83:=by kernel_rfl,f76:=by kernel_rfl,f32:=by kernel_rfl,f78:=by kernel_rfl,f20:=by kernel_rfl,f82:=by kernel_rfl,f22:=by kernel_rfl,f125:=by kernel_rfl,f143:=by kernel_rfl,f145:=by kernel_rfl,f169:=by kernel_rfl,f170:=by kernel_rfl,f171:=by kernel_rfl,f172:=by kernel_rfl,f173:=by kernel_rfl,f144:=by kernel_rfl,f109:=by kernel_rfl,f142:=by kernel_rfl,f108:=by kernel_rfl,f49:=by kernel_rfl,f50:=by kernel_rfl,f8:=by kernel_rfl,c19:=fun _=>pu19_8}
theorem depth_calls{W:World}{sl:Value}{l:List Kd}(hk:KindsAt W sl l)(kerf:Int)(i1:Int)(i2:Int)(i3:Int){nl:Value}{ns:List (Nat×Int)}(hn:NodesAt W nl ns):Calls Tryz.prog 8 #[.agg #[sl, .int .i64 kerf], .int .i64 i1, .int .i64 i2, .int .i64 i3,nl] W fun e W'=>e= .returned (.bool true)∧Below W.heap.size W W':=by
 obtain⟨h,μ,hR,hro,hrd,⟨a,c,hu,hs,_⟩,⟨a2,c2,hu2,hns,hc2⟩⟩:=laid2 hk.cells hn.1
 obtain⟨r,h',⟨m,hm⟩,rfl,rfl⟩:=law8 fns8 hrd hs kerf i1 i2 i3 hns (fun b o n e=>by cases e;exact absurd hc2 (Nat.lt_irrefl _)) (.inl hc2) hn.2
 have hrun:=hm m (Nat.le_refl _)
 have ha:LR μ [.agg #[.slice a l.length c, .int .i64 kerf], .int .i64 i1, .int .i64 i2, .int .i64 i3, .slice a2 ns.length c2] [.agg #[sl, .int .i64 kerf], .int .i64 i1, .int .i64 i2, .int .i64 i3,nl]:=
  .cons (VR.aggL (.cons hu (.cons (.int _ _) .nil))) (.cons (.int _ _) (.cons (.int _ _) (.cons (.int _ _) (.cons hu2 .nil))))
 refine(acall_calls sound8 hrun hrd.log (by kernel_rfl) hR ha).mono fun e W' hq=> ?_
 obtain⟨μ',q1,q2,q3⟩:=hq
 cases e with
 |returned v'=>
  have hv:VR μ' (.bool true) v':=q1
  cases hv
  exact⟨rfl,St.below q3 hro⟩
 |panicked _=>exact q1.elim
 |outgrown=>exact q1.elim
end Go.A.Pk
end
