/- Walks of functions, plain laws, the table. -/
import Derived.Test.YteafdpbjocdbbaaGreatDoorXU3
import Derived.Test.YteafdpbjocdbbaaGreatDoorXU0
import Derived.Test.YteafdpbjocdbbaaGreatDoorXU2
import Derived.Test.YteafdpbjocdbbaaGreatDoorXU1
import Derived.Test.YteafdpbjocdbbaaGreatDoorXF
import Derived.Test.YteafdpbjocdbbaaGreatDoorXD
import Derived.Carry
import Derived.Lib.SmallJoins
import Derived.Deep.Slices
import Derived.Deep.Fields
import Derived.Test.YteafdpbjocdbbaaGreatDoorProg
import Derived.SizedLaws
import Derived.KernelRfl
import Derived.Test.YteafdpbjocdbbaaGreatDoorXH
import Derived.Test.YteafdpbjocdbbaaGreatDoorXT
set_option linter.all false
section
set_option maxRecDepth 100000
namespace Go.A.Pk
variable {T:Nat→Option AFunc}
theorem Al.mono{f:Nat}{args:List Value}{h:Heap}{Q Q':Value→Heap→Prop}(H:Al T f args h Q)(hq:∀v h',Q v h'→Q' v h'):Al T f args h Q':=
 CW.mono H fun r h' ⟨hx,v,hv,q⟩=>⟨hx,v,hv,hq _ _ q⟩
end Go.A.Pk
end
section
set_option maxRecDepth 100000
namespace Go.A.Pk
variable {T:Nat→Option AFunc}
theorem endA_gen{rs:List (Nat×Option (Option Nat))}{Q:Value→Heap→Prop}{x:AExit}{e:Env}{ds:Dfs}{h:Heap}(hK:∀hA,hA=h→endA rs Q x e ds hA):endA rs Q x e ds h:=hK h rfl
def SawV(kerf:Int)(l:List Kd)(v:Value)(h:Heap):Prop:=∃a c,v= .agg #[.slice a l.length c, .int .i64 kerf]∧SliceOf h 5 (.slice a l.length c) l.length (kcs l)
end Go.A.Pk
end
section
set_option maxRecDepth 100000
namespace Go.A.Pk
variable {T:Nat→Option AFunc}
theorem SawV.gc{kerf:Int}{l:List Kd}{h:Heap}(v:Value)(h1:Heap)(hv:noRef v=true)(q:SawV kerf l v h1):SawV kerf l v h:=by
 obtain⟨a,c,rfl,s⟩:=q
 refine⟨a,c,rfl,?_⟩
 generalize l.length=n at*
 generalize kcs l=cs at*
 cases s with
 |nil=>exact .nil
 |mem s _=>simp[noRef,flatL,flat,scalL,scal,scal1]at hv
theorem SawV.logs{kerf:Int}{l:List Kd}(v:Value)(h:Heap)(m:List Nat)(q:SawV kerf l v h):SawV kerf l v {h with log:=m}:=by
 obtain⟨a,c,e,s⟩:=q
 exact⟨a,c,e,s.log m⟩
theorem cl_succ{l:List Kd}{i:Nat}{x:Kd}(h:l[i]? =some x):kcs (cl (l.take (i+1)))=kcs (cl (l.take i))++kc (clK x):=by
 have e:cl (l.take (i+1))=cl (l.take i)++[clK x]:=by rw[List.take_add_one,h];simp[cl]
 rw[e,kcs_append]
 rfl
theorem Own.cast{lo sz n m:Nat}{h:Heap}{v:Value}{cs ds:List Value}(o:Own lo h sz v n cs)(hn:n=m)(hc:cs=ds):Own lo h sz v m ds:=by
 subst hn
 subst hc
 exact o
set_option maxHeartbeats 16000000 in
theorem cells52(hp:primAS T)(hf:T 52=some f52){h:Heap}(hr:Rdy h){a:Option Addr}{n c:Nat}{l:List Kd}(hs:SliceOf h 5 (.slice a n c) n (kcs l))(kerf:Int)(hn:n<1000000)(hl:∀k∈l,Right k):
 Al T 52 [.agg #[.slice a n c, .int .i64 kerf]] h (SawV kerf (cl l)):=by
 refine .of hp hf hr SawV.gc ?_
 have hx:Ext h ((h.push (.cells [.slice a n c, .int .i64 kerf] true 1)).push (.cells [.slice none 0 0, .int .i64 0] true 1)):=((Ext.refl h).push _).push _
 obtain rfl:n=l.length:=by have:=hs.len;rw[kcs_length]at this;omega
 have hx3:Ext h (((h.push (.cells [.slice a l.length c, .int .i64 kerf] true 1)).push (.cells [.slice none 0 0, .int .i64 0] true 1)).push (.cells [.slice none 0 0, .int .i64 kerf] true 1)):=hx.push _
 refine y4 ?_;refine yB ?_;refine wO_val a_new ?_;refine y3 ?_;refine y4 ?_;refine yF ?_
 refine yL ?_;refine wO_val (a_build (by exact rfl)) ?_;refine wO_val a_new ?_
 refine yS ?_;refine y3 ?_;refine wE_seq ?_;refine y4 ?_;refine yM ?_;refine y3 ?_;refine wE_block ?_
 refine wE_loop (fun k e ds h'=>∃(i:Nat) (v:Value),i≤l.length∧k=l.length-i∧e=[(1, .pointer (some ⟨h.next,0,none⟩)),(2, .pointer (some ⟨h.next+1,0,none⟩)),(3, .pointer (some ⟨h.next+2,0,none⟩)),(4, .int .i64 i)]∧ds=[]∧Ext h h'∧h.next+3≤h'.next∧
  h'.get h.next=some (.cells [.slice a l.length c, .int .i64 kerf] true 1)∧h'.get (h.next+1)=some (.cells [.slice none 0 0, .int .i64 0] true 1)∧h'.get (h.next+2)=some (.cells [v, .int .i64 kerf] true 1)∧Own (h.next+3) h' 5 v i (kcs (cl (l.take i))))
  ⟨0, .slice none 0 0,Nat.zero_le _,rfl,rfl,rfl,(hx.push _).wr (show h.next≤h.next+2 by omega) (by(simp only[z1,z2];omega)),Nat.le_refl _,by(simp(disch:=first|omega|(simp only[z1,z2];omega))only[z3,z4,z5,z6,z7,z1,z2, *];exact rfl),by(simp(disch:=first|omega|(simp only[z1,z2];omega)|(simp only[z1,z2];done)|fail)only[z8,z4,z5,z9,z7,z1,z2, *];done),by(simp(disch:=first|omega|(simp only[z1,z2];omega)|(simp only[z1,z2];done)|fail)only[z8,z4,z5,z9,z7,z1,z2, *];exact rfl), .nil⟩ ?_
 rintro k e ds h' ⟨i,v,hi,rfl,rfl,rfl,hxi,k3,g0,g1,g2,own⟩
 clear hx hx3
 by_cases hlt:i<l.length
 ·obtain⟨x,hxl⟩:∃x,l[i]? =some x:=⟨l[i],List.getElem?_eq_getElem (by omega)⟩
  have hs':=hs.ext hxi
  have hmul:=fill_mul (hl x (List.mem_of_getElem? hxl))
  have hid:PLift (kcs (cl (l.take i))++kc (clK x)=kcs (cl (l.take (i+1)))):=⟨(cl_succ hxl).symm⟩
  rcases hs'.inv with⟨_,_,h0,_⟩|⟨b,o,cap',hv,s,hcap⟩
  ·omega
  ·cases hv
   obtain⟨vs,ow,t,u1,u2⟩:=slice_elem s hxl
   refine wE_seq ?_;refine y4 ?_;refine yM ?_;refine yF ?_;refine yL ?_;refine yD ?_;refine yt ?_;refine y3 ?_;refine yY ?_;refine wE_skip ?_;refine kS_n ?_;refine wE_seq ?_;refine wE_block ?_;refine y4 ?_;refine yF ?_;refine yL ?_
   refine yM ?_;refine wO_val (a_iaddrS (by exact rfl) (by exact rfl) (by omega)) ?_
   refine wO_val (a_loadN (by exact rfl) u1 u2 (by exact rfl)) ?_
   refine wO_val a_new ?_;refine yS ?_;refine y3 ?_;refine y4 ?_;refine yF ?_
   refine yL ?_;refine yF ?_
   refine yL ?_;refine wO_val (a_num (by exact rfl) (by exact rfl) (by with_reducible assumption)) ?_
   refine yF ?_;refine yS ?_;refine y3 ?_;refine wE_region ?_;refine yF ?_
   refine yL ?_
   refine yN ?_;refine wO_val (a_bslice (by exact rfl) (by exact rfl)) ?_
   refine wO_app1 (lo:=h.next+3) (c1:=kc (clK x)) (own.ext (((((Ext.refl h').push _).wr (Nat.le_refl _) (by omega)).wr (Nat.le_refl _) (by omega)).push _)) (by omega) (by omega) (by omega) (by(simp only[z1,z2];omega)) (by omega) (by exact rfl) (by exact rfl) (src_slice (cs:=kc (clK x)) (by(simp(disch:=first|omega|(simp only[z1,z2];omega)|(simp only[z1,z2];done)|fail)only[z8,z4,z5,z9,z7,z1,z2, *];exact rfl)) rfl rfl) rfl rfl ?_
   intro v' h2 own' hx2'
   have ex:Ext h h2:=(((((hxi.push _).wr hxi.next hxi.next).wr hxi.next hxi.next).push _).lx (Nat.le_refl _)|>.trans (hx2'.mono (show h.next≤h.next+3 by omega))).ext
   have kn:=hx2'.next
   simp only[z2,z1]at kn
   have E0:h2.get h.next=some (.cells [.slice (some ⟨b,o,none⟩) l.length c, .int .i64 kerf] true 1):=(hx2'.old _ (by omega)).trans (by(simp(disch:=first|omega|(simp only[z1,z2];omega))only[z3,z4,z5,z6,z7,z1,z2, *];done))
   have E1:h2.get (h.next+1)=some (.cells [.slice none 0 0, .int .i64 0] true 1):=(hx2'.old _ (by omega)).trans (by(simp(disch:=first|omega|(simp only[z1,z2];omega))only[z3,z4,z5,z6,z7,z1,z2, *];done))
   have E2:h2.get (h.next+2)=some (.cells [v, .int .i64 kerf] true 1):=(hx2'.old _ (by omega)).trans (by(simp(disch:=first|omega|(simp only[z1,z2];omega))only[z3,z4,z5,z6,z7,z1,z2, *];done))
   clear hx2' g0 g1 g2
   have hv1:=own'.slice (by omega)
   obtain⟨a1,c1,rfl⟩:=hv1.form
   refine yF ?_;refine yS ?_;refine wO_nil ?_;refine y1 ?_;refine kB_n ?_;refine kS_n ?_;refine wE_region ?_;refine yM ?_
   refine yinc ?_;refine yM ?_;refine y3 ?_
   refine⟨l.length-(i+1),by omega,i+1, .slice a1 (i+1) c1,by omega,rfl,rfl,rfl,ex.wr (show h.next≤h.next+2 by omega) (by omega),by(simp only[z1,z2];omega),by(simp(disch:=first|omega|(simp only[z1,z2];omega))only[z3,z4,z5,z6,z7,z1,z2, *];done),by(simp(disch:=first|omega|(simp only[z1,z2];omega))only[z3,z4,z5,z6,z7,z1,z2, *];done),by(simp(disch:=first|omega|(simp only[z1,z2];omega))only[z3,z4,z5,z6,z7,z1,z2, *];exact rfl),?_⟩
   refine Own.cast (n:=i+1) ?_ rfl hid.down
   exact own'.keep (by(simp only[z1,z2];omega)) fun z q1 q2=>z5 (by omega)
 ·obtain rfl:i=l.length:=by omega
  rw[List.take_of_length_le (Nat.le_refl _)]at own
  have hv1:=own.slice (by omega)
  obtain⟨a1,c1,rfl⟩:=hv1.form
  refine wE_seq ?_;refine y4 ?_;refine yM ?_;refine yF ?_;refine yL ?_;refine yD ?_;refine yf ?_;refine y3 ?_;refine yX ?_;refine wE_exit ?_;refine kS_e ?_;refine kS_e ?_;refine kB_e ?_;refine kS_n ?_;refine y4 ?_;refine yN ?_
  refine yS ?_;refine y3 ?_;refine wE_ret ?_
  refine endA_gen ?_
  intro hA hAe
  have A1:hA.get (h.next+1)=some (.cells [.slice a1 l.length c1, .int .i64 kerf] true 1):=by rw[hAe];(simp(disch:=first|omega|(simp only[z1,z2];omega))only[z3,z4,z5,z6,z7,z1,z2, *];exact rfl)
  have A6:hA.log=[]:=by rw[hAe,Heap.log_wr_new (by omega)];exact hxi.log.trans hr.log
  have A7:SliceOf hA 5 (.slice a1 l.length c1) l.length (kcs (cl l)):=by
   rw[hAe]
   refine Own.slice (lo:=h.next+3) ?_ (by omega)
   exact own.keep (by(simp only[z1,z2];omega)) fun z q1 q2=>z5 (by omega)
  clear hAe
  exact endA_ret (vs:=[.agg (List.toArray [.slice a1 l.length c1, .int .i64 kerf])]) A6 (res_cells (b:=h.next+1) rfl A1 rfl rfl res_nil) ⟨a1,c1,by rw[cl_len];rfl,by rw[cl_len];exact A7⟩
end Go.A.Pk
end
section
namespace Go.A.Pk
theorem ShF_zero_le{kerf:Int}{ws:List Int}{kl:List Kd}(d:Nat)(p:Int×Int):ShF kerf ws kl 0 p≤ShF kerf ws kl d p:=ShF_monos (Nat.zero_le d) p
theorem node_sh{kerf:Int}{l:List Kd}{p:Int×Int}{x:Nat×Int}(h1:1≤p.1)(h2:1≤p.2)(h:(nodeS l x p).1.ok=true):(nodeS l x p).1.depth=0∧∀d,(nodeS l x p).1.worth≤ShF kerf (wsP l) l d p:=by
 unfold nodeS at h⊢
 split
 ·exact⟨rfl,fun d=>ShF_nonneg d p⟩
 ·rename_i h0
  rw[if_neg h0]at h
  split
  ·rename_i h12
   rw[if_pos h12]at h
   unfold plankS at h⊢
   split
   ·rename_i hr
    rw[if_pos hr]at h
    cases hk:l[x.2.toNat]? with
    |none=>rw[hk]at h;cases h
    |some k=>
     rw[hk]at h
     dsimp only at h⊢
     refine⟨rfl,fun d=> ?_⟩
     have hP:=of_decide_eq_true h
     obtain⟨p1,p2⟩:=p
     dsimp only at h1 h2
     obtain⟨a,rfl⟩:=Int.eq_ofNat_of_zero_le (show 0≤p1 by omega)
     obtain⟨b,rfl⟩:=Int.eq_ofNat_of_zero_le (show 0≤p2 by omega)
     refine Int.le_trans ?_ (ShF_zero_le d _)
     rw[ShF_zero (by omega) (by omega)]
     have hm:∃y∈leavesL a b l 0,y.2=x.2.toNat:=by
      rcases hP with⟨_,e1,e2⟩|⟨_,e0,e1,e2⟩
      ·refine⟨(1,x.2.toNat),leaves_mem hk _ ?_,rfl⟩
       unfold leafAt
       rw[if_pos ⟨e1.symm,e2.symm⟩]
       exact List.mem_append_left _ (List.mem_singleton.2 rfl)
      ·refine⟨(2,x.2.toNat),leaves_mem hk _ ?_,rfl⟩
       unfold leafAt
       rw[if_pos (show k.turn=true∧(a:Int)=k.h∧(b:Int)=k.w from⟨e0,e1.symm,e2.symm⟩)]
       exact List.mem_append_right _ (List.mem_singleton.2 rfl)
     obtain⟨y,hy,ey⟩:=hm
     have:=(leafM_ge (ws:=wsP l) (m:=0)).2 y hy
     rw[ey]at this
     have hg:(wsP l).getD x.2.toNat 0=k.worth:=by
      unfold wsP
      rw[List.getD_eq_getElem?_getD,List.getElem?_map,hk]
      rfl
     rw[hg]at this
     exact this
   ·rename_i hr
    rw[if_neg hr]at h
    cases h
  ·rename_i h12
   rw[if_neg h12]at h
   cases h
theorem join_sh{kerf:Int}{l:List Kd}{a b k i:Nat}{f:Nat}{r1 r2:Sm×Nat}(hk:k=3∨k=4)(hi:1≤(i:Int)∧(i:Int)≤sizeI (k,(i:Int)) ((a:Int),(b:Int))-1)(h1:1≤a)(h2:1≤b)(hb1:0≤r1.1.depth)(hb2:0≤r2.1.depth)
 (i1:r1.1.ok=true→r1.1.depth≤f∧∀d:Nat,r1.1.depth≤d→r1.1.worth≤ShF kerf (wsP l) l d (oneI (k,(i:Int)) ((a:Int),(b:Int))))(i2:¬sizeI (k,(i:Int)) ((a:Int),(b:Int))-i-kerf<1→r2.1.ok=true→r2.1.depth≤f∧∀d:Nat,r2.1.depth≤d→r2.1.worth≤ShF kerf (wsP l) l d (twoI kerf (k,(i:Int)) ((a:Int),(b:Int))))
 (h:(joinS kerf (sizeI (k,(i:Int)) ((a:Int),(b:Int))) i r1 r2).1.ok=true):(joinS kerf (sizeI (k,(i:Int)) ((a:Int),(b:Int))) i r1 r2).1.depth≤f+1∧∀d:Nat,(joinS kerf (sizeI (k,(i:Int)) ((a:Int),(b:Int))) i r1 r2).1.depth≤d→(joinS kerf (sizeI (k,(i:Int)) ((a:Int),(b:Int))) i r1 r2).1.worth≤ShF kerf (wsP l) l d ((a:Int),(b:Int)):=by
 have hmem:(k,i)∈cutsL a b:=by
  have hs:sizeI (k,(i:Int)) ((a:Int),(b:Int))=if k=3 then(a:Int)else b:=rfl
  rw[hs]at hi
  obtain⟨j,rfl⟩:∃j,i=j+1:=⟨i-1,by omega⟩
  rcases hk with rfl|rfl
  ·rw[if_pos rfl]at hi;exact cuts_mem3 (by omega)
  ·rw[if_neg (by omega)]at hi;exact cuts_mem4 (by omega)
 have e1:oneI (k,(i:Int)) ((a:Int),(b:Int))=oneB (k,i) a b:=rfl
 have e2:twoI kerf (k,(i:Int)) ((a:Int),(b:Int))=twoB kerf (k,i) a b:=rfl
 have key:∀d':Nat,ShF kerf (wsP l) l d' (oneI (k,(i:Int)) ((a:Int),(b:Int)))+ShF kerf (wsP l) l d' (twoI kerf (k,(i:Int)) ((a:Int),(b:Int)))≤ShF kerf (wsP l) l (d'+1) ((a:Int),(b:Int)):=fun d'=>by
  rw[ShF_succ h1 h2,e1,e2]
  exact(foldM_ge (f:=fun x=>ShF kerf (wsP l) l d' (oneB x a b)+ShF kerf (wsP l) l d' (twoB kerf x a b))).2 (k,i) hmem
 unfold joinS at h⊢
 split
 ·rename_i ok1
  rw[if_pos ok1]at h
  obtain⟨d1,w1⟩:=i1 ok1
  split
  ·refine⟨by dsimp only;omega,fun d hd=> ?_⟩
   dsimp only at hd⊢
   obtain⟨d',rfl⟩:∃d',d=d'+1:=⟨d-1,by omega⟩
   have:=w1 d' (by omega)
   have hn:=ShF_nonneg (kerf:=kerf) (ws:=wsP l) (kl:=l) d' (twoI kerf (k,(i:Int)) ((a:Int),(b:Int)))
   have:=key d'
   omega
  ·rename_i hn
   rw[if_neg hn]at h
   split
   ·rename_i ok2
    obtain⟨d2,w2⟩:=i2 hn ok2
    refine⟨by dsimp only;unfold mx;split<;>omega,fun d hd=> ?_⟩
    dsimp only at hd⊢
    obtain⟨d',rfl⟩:∃d',d=d'+1:=⟨d-1,by unfold mx at hd;split at hd<;>omega⟩
    have a1:=w1 d' (by unfold mx at hd;split at hd<;>omega)
    have a2:=w2 d' (by unfold mx at hd;split at hd<;>omega)
    have:=key d'
    omega
   ·rename_i nok
    rw[if_neg nok]at h
    cases h
 ·rename_i nok
  rw[if_neg nok]at h
  cases h
theorem tree_sh{kerf:Int}{l:List Kd}(hc:chk kerf l=0):∀(f:Nat) (p:Int×Int) (ns:List (Nat×Int)),1≤p.1∧p.1≤16→1≤p.2∧p.2≤16→(treeS kerf l f p ns).1.ok=true→(treeS kerf l f p ns).1.depth≤f∧∀d:Nat,(treeS kerf l f p ns).1.depth≤d→(treeS kerf l f p ns).1.worth≤ShF kerf (wsP l) l d p
 |f,p,[],_,_,h=>by cases f<;>cases h
 |0,p,x::ns,h1,h2,h=>by
  rw[treeS]at h⊢
  split
  ·rename_i h3;rw[if_pos h3]at h;cases h
  ·rename_i h3
   rw[if_neg h3]at h
   obtain⟨q1,q2⟩:=node_sh (kerf:=kerf) h1.1 h2.1 h
   exact⟨by rw[q1];omega,fun d _=>q2 d⟩
 |f+1,p,x::ns,h1,h2,h=>by
  rw[treeS]at h⊢
  split
  ·rename_i h3
   rw[if_pos h3]at h
   split
   ·rename_i hat
    rw[if_pos hat]at h
    have hk:=(chk_iff.1 hc).2.1
    obtain⟨p1,p2⟩:=p
    obtain⟨k,i⟩:=x
    dsimp only at h1 h2 h3 hat h⊢
    obtain⟨a,rfl⟩:=Int.eq_ofNat_of_zero_le (show 0≤p1 by omega)
    obtain⟨b,rfl⟩:=Int.eq_ofNat_of_zero_le (show 0≤p2 by omega)
    obtain⟨i,rfl⟩:=Int.eq_ofNat_of_zero_le (show 0≤i by omega)
    have hs:sizeI (k,(i:Int)) ((a:Int),(b:Int))=if k=3 then(a:Int)else b:=rfl
    have h1s:sizeI (k,(i:Int)) ((a:Int),(b:Int))≤16:=by rw[hs];split<;>omega
    have o1:1≤(oneI (k,(i:Int)) ((a:Int),(b:Int))).1∧(oneI (k,(i:Int)) ((a:Int),(b:Int))).1≤16:=by unfold oneI;split<;>dsimp only<;>omega
    have o2:1≤(oneI (k,(i:Int)) ((a:Int),(b:Int))).2∧(oneI (k,(i:Int)) ((a:Int),(b:Int))).2≤16:=by unfold oneI;split<;>dsimp only<;>omega
    have b1:=(tree_bd hc f (oneI (k,(i:Int)) ((a:Int),(b:Int))) ns o1 o2).1.depth.1
    by_cases hn:sizeI (k,(i:Int)) ((a:Int),(b:Int))-i-kerf<1
    ·have hj:∀r2,joinS kerf (sizeI (k,(i:Int)) ((a:Int),(b:Int))) i (treeS kerf l f (oneI (k,(i:Int)) ((a:Int),(b:Int))) ns) r2=joinS kerf (sizeI (k,(i:Int)) ((a:Int),(b:Int))) i (treeS kerf l f (oneI (k,(i:Int)) ((a:Int),(b:Int))) ns) (sm0,0):=fun r2=>by
      unfold joinS
      rw[if_pos hn,if_pos hn]
     rw[hj]at h⊢
     exact join_sh h3 hat (by omega) (by omega) b1 (Int.le_refl 0) (fun q=>tree_sh hc f _ _ o1 o2 q) (fun q=>absurd hn q) h
    ·have t1:1≤(twoI kerf (k,(i:Int)) ((a:Int),(b:Int))).1∧(twoI kerf (k,(i:Int)) ((a:Int),(b:Int))).1≤16:=by
      rw[hs]at hn
      unfold twoI;split<;>rename_i q<;>dsimp only at q⊢
      ·rw[if_pos q]at hn;omega
      ·omega
     have t2:1≤(twoI kerf (k,(i:Int)) ((a:Int),(b:Int))).2∧(twoI kerf (k,(i:Int)) ((a:Int),(b:Int))).2≤16:=by
      rw[hs]at hn
      unfold twoI;split<;>rename_i q<;>dsimp only at q⊢
      ·omega
      ·rw[if_neg q]at hn;omega
     exact join_sh h3 hat (by omega) (by omega) b1 (tree_bd hc f _ _ t1 t2).1.depth.1 (fun q=>tree_sh hc f _ _ o1 o2 q) (fun _ q=>tree_sh hc f _ _ t1 t2 q) h
   ·rename_i hat
    rw[if_neg hat]at h
    cases h
  ·rename_i h3
   rw[if_neg h3]at h
   obtain⟨q1,q2⟩:=node_sh (kerf:=kerf) h1.1 h2.1 h
   exact⟨by rw[q1];omega,fun d _=>q2 d⟩
theorem tree_V{kerf:Int}{l:List Kd}(hc:chk kerf l=0){f:Nat}{p:Int×Int}{ns:List (Nat×Int)}(h1:1≤p.1∧p.1≤16)(h2:1≤p.2∧p.2≤16)(h:(treeS kerf l f p ns).1.ok=true):(treeS kerf l f p ns).1.worth≤V kerf (wsP l) l p:=by
 obtain⟨q1,q2⟩:=tree_sh hc f p ns h1 h2 h
 exact Int.le_trans (q2 f q1) (ShF_le (chk_iff.1 hc).2.1.1 f p)
end Go.A.Pk
end
section
set_option maxRecDepth 100000
namespace Go.A.Pk
variable {T:Nat→Option AFunc}
theorem plan_kinds{kerf:Int}{ws:List Int}{kl:List Kd}{t:Tab}{p:Int×Int}{ns:List (Nat×Nat)}(h:PlanR kerf ws kl t p ns):∀y∈ns,y.1<256:=by
 induction h with
 |none _=>intro y hy;cases hy
 |leaf _ _ hx _=>
  intro y hy
  rw[List.mem_singleton.1 hy]
  obtain⟨j,k,_,_,q⟩:=leaves_inv hx
  rcases q with q|q<;>omega
 |cut _ _ hx _ _ _ i1 i2=>
  intro y hy
  rcases List.mem_cons.1 hy with rfl|hy
  ·rcases cuts_of hx with q|q<;>omega
  ·rcases List.mem_append.1 hy with hy|hy
   ·exact i1 y hy
   ·exact i2 y hy
 |waste _ _ _ _=>
  intro y hy
  rw[List.mem_singleton.1 hy]
  show 0<256
  omega
theorem nI_kinds{ns:List (Nat×Nat)}(h:∀y∈ns,y.1<256):∀y∈nI ns,y.1<256:=by
 intro y hy
 unfold nI at hy
 obtain⟨z,hz,rfl⟩:=List.mem_map.1 hy
 exact h z hz
structure FnsWw (T:Nat→Option AFunc):Prop extends FnsW T,FnsFl T,FnsWd T where
 f52:T 52=some f52
 f9:T 9=some f9
 c19:∀{h:Heap},Rdy h→Pu T 19 [] h (.bool true)
theorem waste_le{kerf:Int}{l:List Kd}{w ht:Int}{ns:List (Nat×Int)}(h:plannedE kerf l w ht ns=0):(planS kerf l (w,ht) ns).cells≤bestV kerf (cl l) w ht:=by
 obtain⟨ha,_,hok⟩:=plannedE_zero h
 obtain⟨hc,hb⟩:=asked_zero ha
 obtain⟨t1,t2,t3⟩:=tree_cl (kerf:=kerf) (l:=l) 32 (w,ht) ns
 unfold planS at hok⊢
 split at hok
 ·rename_i q
  rw[if_pos q,bestV_wsP (chk_cl hc) hb,←t3 q.1]
  exact tree_V (chk_cl hc) hb.1 hb.2 (by rw[t1];exact q.1)
 ·cases hok
set_option maxHeartbeats 16000000 in
theorem law9(F:FnsWw T){h:Heap}(hr:Rdy h){a:Option Addr}{n c:Nat}{l:List Kd}(hs:SliceOf h 5 (.slice a n c) n (kcs l))(kerf w ht:Int)
 {ns:List (Nat×Int)}{qa:Option Addr}{qc:Nat}(hns:SliceOf h 2 (.slice qa ns.length qc) ns.length (ncI ns))(hu:U2 h (.slice qa ns.length qc))(hqc:qc<UNK∨qc=UNK)(hk:∀x∈ns,x.1<256):
 Pu T 9 [.agg #[.slice a n c, .int .i64 kerf], .int .i64 w, .int .i64 ht, .slice qa ns.length qc] h (.bool true):=by
 have hp:=F.toFnsW.toFnsE.toFnsA.p
 refine .of hp F.f9 hr rfl ?_
 have hx:Ext h (h.push (.cells [.slice a n c, .int .i64 kerf] true 1)):=(Ext.refl h).push _
 obtain rfl:n=l.length:=by have:=hs.len;rw[kcs_length]at this;omega
 refine y4 ?_;refine yB ?_;refine yM ?_;refine y3 ?_;refine wE_seq ?_;refine y4 ?_
 refine yN ?_
 refine yC ?_
 refine FW.pu (few18 F.toFnsW.toFnsE.toFnsC (.of (hx.wf hr.wf)) kerf) ?_
 by_cases hfew:l.length≤16
 ·have hn:l.length<1000000:=by omega
  rw[decide_eq_true hfew]
  by_cases hlen:ns.length≤700
  ·refine yA ?_;refine yM ?_;refine yO ?_;refine yM ?_;refine yO ?_;refine yD ?_;refine yO ?_;refine yf ?_;refine yU ?_
   refine y3 ?_;refine yX ?_;refine wE_skip ?_;refine kS_n ?_;refine y4 ?_
   refine yN ?_;refine yM ?_;refine yM ?_
   refine yC ?_
   refine FW.al (fill24 F.toFnsFl (.of (hx.wf hr.wf)) ((hs.ext hx).log []) kerf hn w ht) (fun v h' m q=>FillO.log v h' m q) ?_
   rintro _ h2 hx2 ⟨ms,pa,pc,rfl,sp,⟨up,uc⟩,rp,rn⟩
   have hx12:=hx.trans hx2
   have k2:h.next<h2.next:=hx2.next
   have G4:h2.get h.next=some (.cells [.slice a l.length c, .int .i64 kerf] true 1):=by rw[hx2.old _ (by(simp only[z1,z2];omega))];(simp(disch:=first|omega|(simp only[z1,z2];omega))only[z3,z4,z5,z6,z7,z1,z2, *];exact rfl)
   by_cases ha:asked kerf l (OnB w ht)=0
   ·obtain⟨hc,hb⟩:=asked_zero ha
    have R:=rp ha
    obtain⟨b1,b2⟩:=planS_fill hc hb R
    have hpl:=plan_len (chk_iff.1 hc).2.1.1 R
    have hlen':ms.length≤1000:=by
     obtain⟨⟨v1,v2⟩,v3,v4⟩:=hb
     have:areaN (w,ht)≤16*16:=Nat.mul_le_mul (by show w.toNat≤16;omega) (by show ht.toNat≤16;omega)
     omega
    have C1:=waste51 F.toFnsWd (h:={h2 with log:=[]}) (.of (hx12.wf hr.wf)) ((hs.ext hx12).log []) kerf hn w ht (ns:=nI ms) (qa:=pa) (qc:=pc) (by rw[nI_len,nI,←ncs_ncI];exact sp.log []) (by rw[nI_len];exact up) (uc.symm.imp_left fun q=>by unfold UNK;omega) (by rw[nI_len];exact hlen') (nI_kinds (plan_kinds R))
    have he:plannedE kerf l w ht (nI ms)=0:=by unfold plannedE;rw[if_pos ha,if_pos b1]
    rw[he,if_pos rfl,nI_len,b2]at C1
    have C2:=waste51 F.toFnsWd (h:={h2 with log:=[]}) (.of (hx12.wf hr.wf)) ((hs.ext hx12).log []) kerf hn w ht ((hns.ext hx12).log []) (fun b o n e=>hu.ext hr.wf hx12 b o n e) hqc (by omega) hk
    have hle:plannedE kerf l w ht ns=0→(planS kerf l (w,ht) ns).cells≤bestV kerf (cl l) w ht:=waste_le
    obtain⟨q1,q2,q3,q4⟩:=chk_iff.1 hc
    have hbb:=bestV_bd (chk_cl hc) hb
    have v1:=Int.mul_nonneg (show(0:Int)≤w by have:=hb.1;omega) (show(0:Int)≤ht by have:=hb.2;omega)
    have v2:=Int.mul_le_mul hb.1.2 hb.2.2 (by have:=hb.2;omega) (by omega)
    have hsub:numOp .sub (.int .i64 (w*ht)) (.int .i64 (bestV kerf (cl l) w ht))=some (.int .i64 (w*ht-bestV kerf (cl l) w ht)):=m_sub (by rw[wrapA_i64]<;>omega)
    have hmul:numOp .mul (.int .i64 w) (.int .i64 ht)=some (.int .i64 (w*ht)):=by
     simp[numOp,arith,wrapA_i64 (show -9223372036854775808≤w*ht by omega) (show w*ht<9223372036854775808 by omega)]
    clear R b1 b2 hpl hlen' rp rn sp up uc he v1 v2 hbb
    rw[if_pos ha,ha]
    generalize w*ht=wh at*
    generalize hbv:bestV kerf (cl l) w ht=bv at*
    generalize plannedE kerf l w ht ns=er at*
    generalize(planS kerf l (w,ht) ns).cells=pcl at*
    refine yM ?_;refine yE ?_;refine yE ?_;refine yE ?_;refine yM ?_;refine yM ?_;refine yM ?_;refine y3 ?_;refine wE_seq ?_;refine y4 ?_;refine yM ?_;refine yf ?_;refine y3 ?_;refine yX ?_;refine wE_skip ?_;refine kS_n ?_;refine y4 ?_;refine yN ?_;refine yM ?_;refine yM ?_
    refine yM ?_
    refine yC ?_
    refine FW.pu C1 ?_
    clear C1
    refine yM ?_;refine yE ?_;refine yE ?_;refine yM ?_;refine yM ?_;refine y3 ?_;refine y4 ?_;refine yN ?_;refine yM ?_;refine yM ?_;refine yM ?_
    refine yC ?_
    refine FW.pu C2 ?_
    clear C2
    refine yM ?_;refine yE ?_;refine yE ?_;refine yM ?_;refine yM ?_;refine y3 ?_;refine y4 ?_;refine yN ?_
    refine yC ?_
    refine FW.al (cells52 hp F.f52 (.of (hx12.wf hr.wf)) ((hs.ext hx12).log []) kerf hn q3) SawV.logs ?_
    rintro _ h3 hx3 ⟨a3,c3,rfl,s3⟩
    have hx13:=hx12.trans hx3
    have C3:=best32 F.toFnsW (h:={h3 with log:=[]}) (.of (hx13.wf hr.wf)) (s3.log []) kerf (by rw[cl_len];exact hn) w ht
    rw[bestR_ok (asked_ok (chk_cl hc) hb),hbv]at C3
    have C4:=F.c19 (h:={h3 with log:=[]}) (.of (hx13.wf hr.wf))
    clear hbv
    refine yM ?_;refine yM ?_
    refine yC ?_
    refine FW.pu C3 ?_
    clear C3
    refine yM ?_;refine yE ?_;refine yE ?_;refine yM ?_;refine yM ?_;refine y3 ?_;refine y4 ?_
    refine yC ?_
    refine FW.pu C4 ?_
    clear C4
    by_cases he:er=0
    ·have hle:=hle he
     rw[if_pos he]
     refine yM ?_;refine yO ?_;refine yM ?_;refine yO ?_;refine yt ?_;refine yT ?_;refine yM ?_;refine yO ?_;refine yM ?_
     refine yO ?_;refine yM ?_;refine yO ?_;refine yt ?_;refine yT ?_;refine yM ?_;refine yO ?_;refine yM ?_;refine yO ?_
     refine yf ?_;refine yO ?_;refine yM ?_;refine yO ?_;refine yM ?_;refine yO ?_;refine yM ?_;refine yO ?_
     refine yt ?_;refine yO ?_;refine yU ?_;refine yT ?_;refine yM ?_;refine yO ?_;refine yM ?_;refine yO ?_
     refine yt ?_;refine yT ?_;refine yM ?_;refine yO ?_;refine yM ?_;refine yO ?_;refine yM ?_;refine yO ?_;refine yM ?_
     refine yO ?_;refine wO_val (a_num (by exact rfl) (by exact rfl) (by with_reducible assumption)) ?_;refine yO ?_;refine yM ?_;refine yO ?_;refine wO_val (a_num (by exact rfl) (by exact rfl) (by with_reducible assumption)) ?_;refine yO ?_
     refine yt ?_;refine yT ?_;refine yM ?_;refine y3 ?_;refine wE_ret ?_
     exact endP_ret (hx13.log.trans hr.log) rfl rfl
    ·rw[if_neg he]
     refine yM ?_;refine yO ?_;refine yM ?_;refine yO ?_;refine yt ?_;refine yT ?_;refine yM ?_;refine yO ?_;refine yM ?_
     refine yO ?_;refine yM ?_;refine yO ?_;refine yt ?_;refine yT ?_;refine yM ?_;refine yO ?_;refine yM ?_;refine yO ?_
     refine yt ?_;refine yO ?_;refine yM ?_;refine yP ?_;refine yP ?_;refine yP ?_;refine yO ?_;refine yT ?_
     refine yT ?_;refine yM ?_;refine yO ?_;refine yM ?_;refine yO ?_;refine yt ?_;refine yT ?_;refine yM ?_
     refine yO ?_;refine yM ?_;refine yO ?_;refine yM ?_;refine yO ?_;refine yM ?_;refine yO ?_;refine wO_val (a_num (by exact rfl) (by exact rfl) (by with_reducible assumption)) ?_;refine yO ?_
     refine yM ?_;refine yO ?_;refine wO_val (a_num (by exact rfl) (by exact rfl) (by with_reducible assumption)) ?_;refine yO ?_;refine yt ?_;refine yT ?_;refine yM ?_;refine y3 ?_;refine wE_ret ?_
     exact endP_ret (hx13.log.trans hr.log) rfl rfl
   ·rw[if_neg ha]
    refine yM ?_;refine yE ?_;refine yE ?_;refine yE ?_;refine yM ?_;refine yM ?_;refine yM ?_;refine y3 ?_;refine wE_seq ?_;refine y4 ?_;refine yM ?_;refine yt ?_;refine y3 ?_;refine yY ?_;refine y4 ?_
    refine yC ?_
    refine FW.pu (F.c19 (.of (hx12.wf hr.wf))) ?_
    refine yM ?_;refine yO ?_;refine yM ?_;refine yO ?_;refine yt ?_;refine yT ?_;refine yM ?_;refine y3 ?_;refine wE_ret ?_;refine kS_r ?_
    exact endP_ret (hx12.log.trans hr.log) rfl rfl
  ·refine yA ?_;refine yM ?_;refine yO ?_;refine yM ?_;refine yO ?_;refine yD ?_;refine yO ?_;refine yt ?_;refine yU ?_
   refine y3 ?_;refine yY ?_;refine y4 ?_
   refine yC ?_
   refine FW.pu (F.c19 (.of (hx.wf hr.wf))) ?_
   refine yM ?_;refine y3 ?_;refine wE_ret ?_;refine kS_r ?_
   exact endP_ret (hx.log.trans hr.log) rfl rfl
 ·rw[decide_eq_false hfew]
  refine yA ?_;refine yM ?_;refine yP ?_;refine yP ?_;refine yP ?_;refine yT ?_;refine y3 ?_;refine yY ?_;refine y4 ?_
  refine yC ?_
  refine FW.pu (F.c19 (.of (hx.wf hr.wf))) ?_
  refine yM ?_;refine y3 ?_;refine wE_ret ?_;refine kS_r ?_
  exact endP_ret (hx.log.trans hr.log) rfl rfl
end Go.A.Pk
end
section
namespace Go.A
open Go.ChangeShapes Go.WideShapes Go.ChangeAt Go.RowKit
section
variable {H:Type} {enc:TypeId×Value→H} {P:Program}
theorem trodAll_stays(hl:laidOutB P=true){W W':World}(hb:Below W.heap.size W W'):∀{ts:List TypeId} {vs:List Value} {ds:List (DataW H)} {ps:List MemPlace},(∀t∈ts,P.readableRec t=true∧t<P.types.size)→DataW.TrodAll enc P W 0 (fun _=>true) true ts vs ds ps→
 (∀x∈ps,x.block<W.heap.size)→DataW.TrodAll enc P W' 0 (fun b=>decide (b<W.heap.size)) true ts vs ds ps
 |[],vs,ds,ps,_,h,_=>by
  obtain⟨rfl,rfl,rfl⟩:=trodAll_nil h
  exact trodAll_mk0
 |t::ts,vs,ds,ps,hr,h,hlt=>by
  obtain⟨v,vs',d,ds',p,q,rfl,rfl,rfl,hd,hrest⟩:=trodAll_cons h
  have h1:=hr t (List.mem_cons_self ..)
  exact⟨p,q,Below.trod hl h1.1 h1.2 hd hb fun x hx=>hlt x (List.mem_append_left _ hx),trodAll_stays hl hb (fun t ht=>hr t (List.mem_cons_of_mem _ ht)) hrest fun x hx=>hlt x (List.mem_append_right _ hx),rfl⟩
theorem law_post{f:Func}{s:ChangeSpec}{W W':World}{args:Array Value}{ds gs:List (DataW H)}{before:List MemPlace}{tb:TypeId}(hW:DataW.Whole enc P f.params.toList s.vars false W args.toList ds gs before)(hv:s.vars=[])
 (hfn:(s.fn H ds).results=[.lit (.bool true)]∧(s.fn H ds).args=ds∧(s.fn H ds).vars=[])(hl:laidOutB P=true)(hr:∀t∈f.params.toList,P.readableRec t=true∧t<P.types.size)(hres:f.resultTypes= #[tb])(htb:P.underlying tb=some .bool)(hb:Below W.heap.size W W'):
 s.post enc P f false true false false W args (.bool true) W':=by
 have hW':=hW
 obtain⟨p,q,hA,hV,hpq,hz,hn⟩:=hW
 rw[hv]at hV
 obtain⟨rfl,rfl⟩:=trodVars_none hV
 have hbp:before=p:=by simpa using hpq
 subst hbp
 obtain⟨h1,h2,h3⟩:=hfn
 have hlt:∀x∈before,x.block<W.heap.size:=fun x hx=>by simpa using hW'.lt x hx
 refine⟨ds,[],before,[],before,[],hW',?_,?_,?_,hb.frame _,fun h=>by cases h⟩
 ·rw[List.append_nil,h1,hres]
  exact trodAll_cons_mk (shut_bool htb _) trodAll_mk0
 ·rw[List.append_nil,h2]
  exact trodAll_stays hl hb hr hA hlt
 ·rw[List.append_nil,h3,hv]
  rfl
end
end Go.A
end
section
set_option maxRecDepth 100000
namespace Go.A.Pk
open Go Go.Proofs Go.Joins Go.ChangeShapes Go.WideShapes Go.RowKit Go.Deep
instance:Inhabited Kd:=⟨⟨0,0,0,0,false⟩⟩
inductive KindsAt (W:World):Value→List Kd→Prop
 |nil:KindsAt W (.slice none 0 0) []
 |empty {b o cap c el fz}:W.heap[b]? =some (.cells c el fz)→cap<UNK→KindsAt W (.slice (some ⟨b,o,none⟩) 0 cap) []
 |full {b o cap c el fz} {l:List Kd}:W.heap[b]? =some (.cells c el fz)→l≠[]→l.length≤cap→cap<UNK→(∀j,j<l.length*5→c[o+j]? =(kcs l)[j]?)→KindsAt W (.slice (some ⟨b,o,none⟩) l.length cap) l
theorem kcs_get:∀{l:List Kd} {i:Nat} {k:Kd} {j:Nat},l[i]? =some k→j<5→(kcs l)[i*5+j]? =(kc k)[j]?
 |[],i,k,j,h,_=>by simp at h
 |x::l,0,k,j,h,hj=>by
  simp only[List.getElem?_cons_zero,Option.some.injEq]at h
  subst h
  simp only[kcs,Nat.zero_mul,Nat.zero_add]
  rw[List.getElem?_append_left (by simpa[kc]using hj)]
 |x::l,i+1,k,j,h,hj=>by
  rw[List.getElem?_cons_succ]at h
  have:=kcs_get (l:=l) h hj
  simp only[kcs]
  rw[List.getElem?_append_right (by simp[kc];omega),←this]
  congr 1
  simp[kc];omega
section
variable {H:Type} {enc:TypeId×Value→H} {W:World} {base:Nat} {spare:Nat→Bool} {held:Bool}
theorem cells3:Tryz.prog.cellsOf 3=1:=by kernel_rfl
theorem cells4:Tryz.prog.cellsOf 4=1:=by kernel_rfl
theorem cells69:Tryz.prog.cellsOf 69=5:=by kernel_rfl
theorem kind_cells{fuel:Nat}{cs:List Value}{x:DataW H×List MemPlace}(h:DataW.trod enc Tryz.prog W base spare held fuel 69 cs=some x):∃k:Kd,cs=kc k:=by
 obtain⟨xs,n,_,hx,hcl,hlen,hg⟩:=DataW.trod_struct Tryz.underlying69 h
 rw[cells69]at hcl
 match cs,hcl with
 |[c0,c1,c2,c3,c4],_=>
  match xs,hlen with
  |[y0,y1,y2,y3,y4],_=>
   have g0:DataW.trod enc Tryz.prog W base spare held n 3 [c0]=some y0:=by have:=hg 0 _ rfl;simpa[cells3]using this
   have g1:DataW.trod enc Tryz.prog W base spare held n 3 [c1]=some y1:=by have:=hg 1 _ rfl;simpa[cells3]using this
   have g2:DataW.trod enc Tryz.prog W base spare held n 3 [c2]=some y2:=by have:=hg 2 _ rfl;simpa[cells3]using this
   have g3:DataW.trod enc Tryz.prog W base spare held n 3 [c3]=some y3:=by have:=hg 3 _ rfl;simpa[cells3]using this
   have g4:DataW.trod enc Tryz.prog W base spare held n 4 [c4]=some y4:=by have:=hg 4 _ rfl;simpa[cells4]using this
   obtain⟨a0,h0,_⟩:=DataW.trod_int Tryz.underlying3 g0
   obtain⟨a1,h1,_⟩:=DataW.trod_int Tryz.underlying3 g1
   obtain⟨a2,h2,_⟩:=DataW.trod_int Tryz.underlying3 g2
   obtain⟨a3,h3,_⟩:=DataW.trod_int Tryz.underlying3 g3
   obtain⟨a4,h4,_⟩:=DataW.trod_bool Tryz.underlying4 g4
   cases h0;cases h1;cases h2;cases h3;cases h4
   exact⟨⟨a0,a1,a2,a3,a4⟩,rfl⟩
theorem add_eq(b o n:Nat):(Addr.mk b o none).add n=⟨b,o+n,none⟩:=by
 unfold Addr.add
 by_cases h:n=0
 ·rw[if_pos h,h,Nat.add_zero]
 ·rw[if_neg h]
theorem open_saw{v:Value}{d:DataW H}{p:List MemPlace}(hv:Value.okWide Tryz.prog W .any base 24 v)(h:DataW.Trod enc Tryz.prog W 0 (fun _=>true) held 24 v d p)(hz:∀n∈d.weights Tryz.prog 24,n≤reachBytes):∃sl kerf l,v= .agg #[sl, .int .i64 kerf]∧KindsAt W sl l:=by
 have hv0:=hv
 obtain⟨v0,v1,y0,y1,n,rfl,hd,_,h0,h1⟩:=open_agg2 Tryz.underlying24 (by kernel_rfl) (by kernel_rfl) hv h
 obtain⟨kerf,hk,_⟩:=DataW.trod_int Tryz.underlying3 h1
 cases hk
 have hcell:Cell.okWide Tryz.prog W .any base 22 v0:=by
  simp only[Value.okWide,Tryz.underlying24]at hv0
  obtain⟨cs,hcs,_,ts,hts,_,hrow⟩:=hv0
  cases hcs
  have e:Tryz.prog.cellTypes Tryz.prog.depth 24=some [22,3]:=by kernel_rfl
  rw[e]at hts
  cases hts
  obtain⟨u,hu,hc⟩:=hrow 0 v0 rfl
  cases hu
  exact hc
 rcases open_slice Tryz.underlying22 h0 with⟨h2,_⟩|⟨a,len,cap,m,n',D,Pl,h2,_,hl,hcap,hm,hy,hx⟩
 ·cases h2
  exact⟨_,kerf,[],rfl, .nil⟩
 ·cases h2
  simp only[Cell.okWide,Cell.ok,Tryz.underlying22,World.has]at hcell
  obtain⟨_,_,_,hspot,row,cells,hsh,_⟩:=hcell
  obtain⟨b,o,sp⟩:=a
  simp only at hspot hsh
  subst hspot
  rw[if_pos rfl]at hm
  subst hm
  have hcapU:m<UNK:=by
   have e40:Tryz.prog.bytesOf 69=40:=by kernel_rfl
   have:=hz (m*40) (by
    rw[hd,hy]
    simp only[DataW.weights,Tryz.underlying24,DataW.weightsEach,Tryz.underlying22,List.map_cons,List.map_nil,e40,List.length_map,List.length_range,show len+(m-len)=m by omega]
    simp)
   unfold reachBytes at this
   unfold UNK;omega
  obtain⟨c,el,fz,hheap⟩:∃c el fz,W.heap[b]? =some (.cells c el fz):=by
   unfold World.shape? at hsh
   split at hsh
   ·rename_i c el fz he;exact⟨c,el,fz,he⟩
   ·cases hsh
  have hlm:len≤m:=hl
  obtain⟨f,hf⟩:=choose_lt (α:=Kd) (n:=len) (p:=fun i k=>∀j,j<5→c[o+(i*5+j)]? =(kc k)[j]?) (fun i hi=>by
   obtain⟨cs',hc,ht⟩:=hx i (by omega)
   obtain⟨k,hk⟩:=kind_cells ht
   subst hk
   refine⟨k,fun j hj=> ?_⟩
   rw[cells69]at hc
   obtain⟨_,_,hat⟩:=World.cells?_some hc
   have:=hat j hj
   rw[add_eq,add_eq]at this
   rw[←this,Nat.add_assoc]
   unfold World.cell?
   simp only[hheap]
   rfl)
  by_cases h0:len=0
  ·subst h0
   exact⟨_,kerf,[],rfl, .empty hheap hcapU⟩
  ·have hlen:((List.range len).map f).length=len:=by simp
   refine⟨_,kerf,(List.range len).map f,rfl,?_⟩
   have:=KindsAt.full (W:=W) (o:=o) (cap:=m) (l:=(List.range len).map f) hheap (by intro e;rw[e]at hlen;simp at hlen;omega) (by omega) hcapU (fun j hj=>by
    rw[hlen]at hj
    have h5:j / 5<len:=by omega
    have e1:j=j / 5*5+j % 5:=by omega
    have g1:=hf (j / 5) h5 (j % 5) (by omega)
    have g2:=kcs_get (l:=(List.range len).map f) (i:=j / 5) (k:=f (j / 5)) (j:=j % 5) (by simp[h5]) (by omega)
    rw[←e1]at g1 g2
    rw[g1,g2])
   rw[hlen]at this
   exact this
end
end Go.A.Pk
end
section
set_option maxRecDepth 100000
open Go Go.A Go.Proofs
namespace Go.A.Pk
theorem ok19:Entry Tryz.prog 19 (.prim (pConst (.bool true))):= .prim (pConst_ok sound Tryz.func19 (of_decide_eq_true (by kernel_rfl)) (by kernel_rfl) (of_decide_eq_true (by kernel_rfl)) (by kernel_rfl) rfl StkQ.run)
end Go.A.Pk
end
section
set_option maxRecDepth 100000
namespace Go.A.Pk
open Go Go.Proofs Go.RowKit
theorem R.single{P:Program}{W:World}{n b d:Nat}{vs:List Value}{sz e:Nat}{c:Array Value}{el:TypeId}{fz:Nat×Nat}(hn:P.globals.size≤n)(hW:W.heap[b]? =some (.cells c el fz))(h1:d+vs.length≤e)(h2:e≤c.size)
 (hv:∀i,i<vs.length→∃v',c[d+i]? =some v'∧VR (fun x=>if x=n then some ⟨b,d,e,sz⟩else none) (gv vs i) v'):R P (fun x=>if x=n then some ⟨b,d,e,sz⟩else none) ⟨[(n, .cells vs false sz)],n+1,[]⟩ W:=by
 have hg:∀x o,(⟨[(n, .cells vs false sz)],n+1,[]⟩:Heap).get x=some o→x=n∧o= .cells vs false sz:=fun x o hx=>by
  simp only[Heap.get,getO,cond_eq_ite,beq_eq,decide_eq_true_eq]at hx
  split at hx
  ·rename_i he;cases hx;exact⟨he.symm,rfl⟩
  ·cases hx
 refine⟨Nat.le_succ_of_le hn,fun g o hgs hx=> ?_,fun x o hx=> ?_,fun x o hx=> ?_,fun x k hk=> ?_,fun x y o o' k k' hne hx hy=> ?_⟩
 ·obtain⟨rfl,_⟩:=hg _ _ hx;omega
 ·obtain⟨rfl,rfl⟩:=hg _ _ hx
  intro k hk
  dsimp only at hk
  rw[if_pos rfl]at hk
  cases hk
  exact⟨rfl,c,el,fz,hW,h1,h2,hv,fun h=>by cases h⟩
 ·obtain⟨rfl,_⟩:=hg _ _ hx;exact Nat.lt_succ_self _
 ·split at hk
  ·rename_i he;subst he;cases hk
   exact⟨Nat.lt_succ_self _,(Array.getElem?_eq_some_iff.1 hW).1⟩
  ·cases hk
 ·obtain⟨rfl,_⟩:=hg _ _ hx
  obtain⟨rfl,_⟩:=hg _ _ hy
  exact(hne rfl).elim
theorem St.below{μ μ':Mu}{h h':Heap}{W W':World}(s:St μ h W μ' h' W')(hro:∀b o,h.get b=some o→o.ro=true∨o.live=false):Below W.heap.size W W':=
 ⟨s.same.os,s.same.tape,s.same.out,s.le,fun r hr=>s.keep r hr fun⟨b,o,k,g1,g2,g3,_⟩=>by
  rcases hro b o g1 with q|q
  ·rw[q]at g3;cases g3
  ·rw[q]at g2;cases g2⟩
structure Laid (W:World) (sl:Value) (l:List Kd) (h:Heap) (μ:Mu) (v:Value) (n c:Nat) (a:Option Addr):Prop where
 rel:R Tryz.prog μ h W
 ro:∀b o,h.get b=some o→o.ro=true∨o.live=false
 rdy:Rdy h
 val:VR μ v sl
 form:v= .slice a n c
 at':SliceOf h 5 (.slice a n c) n (kcs l)
theorem KindsAt.laid{W:World}{sl:Value}{l:List Kd}(hk:KindsAt W sl l):∃h μ v n c a,Laid W sl l h μ v n c a:=by
 have hg:Tryz.prog.globals.size≤8:=of_decide_eq_true (by kernel_rfl)
 have hro:∀vs,∀b o,(⟨[(8, .cells vs false 5)],9,[]⟩:Heap).get b=some o→o.ro=true∨o.live=false:=fun vs b o hx=>by
  simp only[Heap.get,getO,cond_eq_ite]at hx
  split at hx
  ·cases hx;exact .inl rfl
  ·cases hx
 have hrd:∀vs,Rdy (⟨[(8, .cells vs false 5)],9,[]⟩:Heap):=fun vs=>⟨⟨by simp,fun b hb=>by simp at hb;subst hb;show 8<9;omega⟩,rfl⟩
 cases hk with
 |nil=>
  exact⟨⟨[],8,[]⟩,fun _=>none, .slice none 0 0,0,0,none,R.none hg,(fun b o hx=>by cases hx),⟨⟨by simp,fun b hb=>by simp at hb⟩,rfl⟩, .sliceN _ _,rfl, .nil⟩
 | @empty b o cap c el fz hW hc=>
   refine⟨⟨[(8, .cells [] false 5)],9,[]⟩,fun x=>if x=8 then some ⟨b,0,0,5⟩else none, .slice (some ⟨8,o,none⟩) 0 cap,0,cap,some ⟨8,o,none⟩,R.single hg hW (Nat.le_refl _) (Nat.zero_le _) (fun i hi=>by simp at hi),hro _,hrd _,?_,rfl,?_⟩
   ·have:=VR.slice (μ:=fun x=>if x=8 then some (⟨b,0,0,5⟩:Blk)else none) (b:=8) (o:=o) (l:=0) (c:=cap) (k:=⟨b,0,0,5⟩) (by simp) hc (Nat.zero_le _)
    simpa using this
   ·refine .mem ⟨by show 8<9;omega,⟨[],false,5,rfl,?_⟩,rfl⟩ (Nat.zero_le _)
    cases o<;>rfl
 | @full b o cap c el fz _ hW hne hl hc hat=>
   have hlen:=kcs_length l
   have hpos:0<l.length:=List.length_pos_iff.2 hne
   have hsz:o+l.length*5≤c.size:=by
    have h1:=hat (l.length*5-1) (by omega)
    have h2:(kcs l)[l.length*5-1]? =some ((kcs l)[l.length*5-1]'(by omega)):=List.getElem?_eq_getElem _
    rw[h2]at h1
    have:=(Array.getElem?_eq_some_iff.1 h1).1
    omega
   refine⟨⟨[(8, .cells (kcs l) false 5)],9,[]⟩,fun x=>if x=8 then some ⟨b,o,o+l.length*5,5⟩else none, .slice (some ⟨8,0,none⟩) l.length cap,l.length,cap,some ⟨8,0,none⟩,R.single hg hW (by rw[hlen];exact Nat.le_refl _) hsz (fun i hi=> ?_),hro _,hrd _,?_,rfl,?_⟩
   ·rw[hlen]at hi
    have h2:(kcs l)[i]? =some ((kcs l)[i]'(by omega)):=List.getElem?_eq_getElem _
    refine⟨_,(hat i hi).trans h2,?_⟩
    have e:gv (kcs l) i=(kcs l)[i]'(by omega):=by unfold gv;rw[lget_eq,h2];rfl
    rw[e]
    refine(VR.noRef ?_).1
    have hflat:∀(l:List Kd),∀x∈kcs l,noRef x=true:=fun l=>by
     induction l with
     |nil=>intro x hx;cases hx
     |cons k l ih=>
      intro x hx
      simp only[kcs,kc,List.mem_append,List.mem_cons,List.not_mem_nil,or_false]at hx
      rcases hx with(rfl|rfl|rfl|rfl|rfl)|hx
      ·rfl
      ·rfl
      ·rfl
      ·rfl
      ·rfl
      ·exact ih x hx
    exact hflat l _ (List.getElem_mem _)
   ·have:=VR.slice (μ:=fun x=>if x=8 then some (⟨b,o,o+l.length*5,5⟩:Blk)else none) (b:=8) (o:=0) (l:=l.length) (c:=cap) (k:=⟨b,o,o+l.length*5,5⟩) (by simp) hc hl
    simpa using this
   ·refine .mem ⟨by show 8<9;omega,⟨kcs l,false,5,rfl,?_⟩,hlen⟩ hl
    rw[ltake_eq,ldrop_eq,List.drop_zero,List.take_of_length_le (by omega)]
end Go.A.Pk
end
section
set_option maxRecDepth 100000
namespace Go.A.Pk
open Go Go.Proofs Go.Joins Go.ChangeShapes Go.WideShapes Go.RowKit Go.Deep
inductive CellsAt (W:World) (sz:Nat):Value→Nat→List Value→Prop
 |nil:CellsAt W sz (.slice none 0 0) 0 []
 |empty {b o cap c el fz}:W.heap[b]? =some (.cells c el fz)→cap<UNK→CellsAt W sz (.slice (some ⟨b,o,none⟩) 0 cap) 0 []
 |full {b o cap n c el fz} {cs:List Value}:W.heap[b]? =some (.cells c el fz)→n≠0→cs.length=n*sz→0<sz→n≤cap→cap<UNK→(∀j,j<n*sz→c[o+j]? =cs[j]?)→(∀x∈cs,noRef x=true)→CellsAt W sz (.slice (some ⟨b,o,none⟩) n cap) n cs
theorem noRef_kcs:∀(l:List Kd),∀x∈kcs l,noRef x=true
 |[],x,hx=>by cases hx
 |k::l,x,hx=>by
  simp only[kcs,kc,List.mem_append,List.mem_cons,List.not_mem_nil,or_false]at hx
  rcases hx with(rfl|rfl|rfl|rfl|rfl)|hx
  ·rfl
  ·rfl
  ·rfl
  ·rfl
  ·rfl
  ·exact noRef_kcs l x hx
theorem noRef_ncI:∀(l:List (Nat×Int)),∀x∈ncI l,noRef x=true
 |[],x,hx=>by cases hx
 |k::l,x,hx=>by
  simp only[ncI,List.mem_append,List.mem_cons,List.not_mem_nil,or_false]at hx
  rcases hx with(rfl|rfl)|hx
  ·rfl
  ·rfl
  ·exact noRef_ncI l x hx
theorem KindsAt.cells{W:World}{v:Value}{l:List Kd}(k:KindsAt W v l):CellsAt W 5 v l.length (kcs l):=by
 cases k with
 |nil=>exact .nil
 |empty h1 h2=>exact .empty h1 h2
 |full h1 h2 h3 h4 h5=>exact .full h1 (fun e=>h2 (List.length_eq_zero_iff.1 e)) (kcs_length l) (by omega) h3 h4 h5 (noRef_kcs l)
def NodesAt(W:World)(v:Value)(ns:List (Nat×Int)):Prop:=CellsAt W 2 v ns.length (ncI ns)∧∀x∈ns,x.1<256
structure Ob where
 vs:List Value
 sz:Nat
 b:Nat
 d:Nat
 e:Nat
def obsL:Nat→List Ob→List (Nat×AObj)
 |_,[]=>[]
 |n,o::l=>(n, .cells o.vs false o.sz)::obsL (n+1) l
def obH(l:List Ob):Heap:=⟨obsL 8 l,8+l.length,[]⟩
def obM(l:List Ob):Mu:=fun x=>if 8≤x then(l[x-8]?).map fun o=>⟨o.b,o.d,o.e,o.sz⟩else none
structure ObOk (W:World) (μ:Mu) (o:Ob):Prop where
 ok:∃c el fz,W.heap[o.b]? =some (.cells c el fz)∧o.d+o.vs.length≤o.e∧o.e≤c.size∧∀i,i<o.vs.length→∃v',c[o.d+i]? =some v'∧VR μ (gv o.vs i) v'
theorem obsL_get:∀(l:List Ob) (n x:Nat),getO (obsL n l) x=if n≤x then(l[x-n]?).map fun o=> .cells o.vs false o.sz else none
 |[],n,x=>by simp[obsL,getO]
 |o::l,n,x=>by
  simp only[obsL,getO,cond_eq_ite,beq_eq,decide_eq_true_eq]
  by_cases hx:n=x
  ·subst hx
   rw[if_pos rfl,if_pos (Nat.le_refl _),Nat.sub_self]
   rfl
  ·rw[if_neg hx,obsL_get l (n+1) x]
   by_cases h1:n≤x
   ·rw[if_pos h1,if_pos (by omega),show x-n=(x-(n+1))+1 by omega,List.getElem?_cons_succ]
   ·rw[if_neg h1,if_neg (by omega)]
theorem obH_get(l:List Ob)(x:Nat):(obH l).get x=if 8≤x then(l[x-8]?).map fun o=> .cells o.vs false o.sz else none:=obsL_get l 8 x
theorem obH_some{l:List Ob}{x:Nat}{a:AObj}(h:(obH l).get x=some a):8≤x∧∃o,l[x-8]? =some o∧a= .cells o.vs false o.sz:=by
 rw[obH_get]at h
 split at h
 ·rename_i h8
  cases hl:l[x-8]? with
  |none=>rw[hl]at h;cases h
  |some o=>rw[hl]at h;cases h;exact⟨h8,o,rfl,rfl⟩
 ·cases h
theorem obM_some{l:List Ob}{x:Nat}{k:Blk}(h:obM l x=some k):8≤x∧∃o,l[x-8]? =some o∧k=⟨o.b,o.d,o.e,o.sz⟩:=by
 unfold obM at h
 split at h
 ·rename_i h8
  cases hl:l[x-8]? with
  |none=>rw[hl]at h;cases h
  |some o=>rw[hl]at h;cases h;exact⟨h8,o,rfl,rfl⟩
 ·cases h
theorem R.obs{P:Program}{W:World}{l:List Ob}(hg:P.globals.size≤8)(H:∀o∈l,ObOk W (obM l) o):R P (obM l) (obH l) W:=by
 refine⟨Nat.le_trans hg (Nat.le_add_right _ _),fun g o hgs hx=> ?_,fun x o hx=> ?_,fun x o hx=> ?_,fun x k hk=> ?_,fun x y o o' k k' hne hx hy _ _ hk hk' _=> ?_⟩
 ·have:=(obH_some hx).1;omega
 ·obtain⟨h8,ob,hl,rfl⟩:=obH_some hx
  intro k hk
  obtain⟨_,ob',hl',rfl⟩:=obM_some hk
  rw[hl]at hl'
  cases hl'
  obtain⟨c,el,fz,hW,h1,h2,hv⟩:=(H ob (List.mem_of_getElem? hl)).ok
  exact⟨rfl,c,el,fz,hW,h1,h2,hv,fun h=>by cases h⟩
 ·obtain⟨h8,ob,hl,rfl⟩:=obH_some hx
  have:=(List.getElem?_eq_some_iff.1 hl).1
  show x<8+l.length
  omega
 ·obtain⟨h8,ob,hl,rfl⟩:=obM_some hk
  have:=(List.getElem?_eq_some_iff.1 hl).1
  obtain⟨c,el,fz,hW,_⟩:=(H ob (List.mem_of_getElem? hl)).ok
  exact⟨by show x<8+l.length;omega,(Array.getElem?_eq_some_iff.1 hW).1⟩
 ·obtain⟨_,ob,_,rfl⟩:=obH_some hx
  obtain⟨_,ob',_,rfl⟩:=obH_some hy
  exact⟨rfl,rfl⟩
theorem obH_ro{l:List Ob}:∀b o,(obH l).get b=some o→o.ro=true∨o.live=false:=fun b o hx=>by
 obtain⟨_,ob,_,rfl⟩:=obH_some hx
 exact .inl rfl
theorem obsL_keys:∀(l:List Ob) (n:Nat),((obsL n l).map (·.1)).Nodup∧∀b∈(obsL n l).map (·.1),n≤b∧b<n+l.length
 |[],n=>⟨by simp[obsL],fun b hb=>by simp[obsL]at hb⟩
 |o::l,n=>by
  obtain⟨h1,h2⟩:=obsL_keys l (n+1)
  refine⟨?_,fun b hb=> ?_⟩
  ·simp only[obsL,List.map_cons,List.nodup_cons]
   exact⟨fun q=>by have:=(h2 n q).1;omega,h1⟩
  ·simp only[obsL,List.map_cons,List.mem_cons]at hb
   rcases hb with rfl|hb
   ·simp
   ·have:=h2 b hb
    simp only[List.length_cons]
    omega
theorem obH_rdy(l:List Ob):Rdy (obH l):=⟨⟨(obsL_keys l 8).1,fun b hb=>((obsL_keys l 8).2 b hb).2⟩,rfl⟩
theorem CellsAt.lay{W:World}{sz n:Nat}{sl:Value}{cs:List Value}(s:CellsAt W sz sl n cs):∃ob:List Ob,(∀μ,∀o∈ob,ObOk W μ o)∧∀(L:List Ob) (i:Nat),(∀o,ob[0]? =some o→L[i]? =some o)→∃a c,VR (obM L) (.slice a n c) sl∧SliceOf (obH L) sz (.slice a n c) n cs∧c<UNK:=by
 cases s with
 |nil=>exact⟨[],(fun _ o ho=>by cases ho),fun L i _=>⟨none,0, .sliceN _ _, .nil,by unfold UNK;omega⟩⟩
 | @empty b o cap c el fz hW hc=>
   refine⟨[⟨[],sz,b,0,0⟩],fun μ o' ho=> ?_,fun L i hL=> ?_⟩
   ·rw[List.mem_singleton.1 ho]
    exact⟨c,el,fz,hW,Nat.le_refl _,Nat.zero_le _,fun i hi=>by cases hi⟩
   ·have hi:=hL _ rfl
    have hg:(obH L).get (8+i)=some (.cells [] false sz):=by rw[obH_get,if_pos (by omega),show 8+i-8=i by omega,hi];rfl
    have hm:obM L (8+i)=some ⟨b,0,0,sz⟩:=by unfold obM;rw[if_pos (by omega),show 8+i-8=i by omega,hi];rfl
    have hlt:=(List.getElem?_eq_some_iff.1 hi).1
    refine⟨some ⟨8+i,o,none⟩,cap,?_, .mem ⟨by show 8+i<8+L.length;omega,⟨[],false,sz,hg,?_⟩,by simp⟩ (Nat.zero_le _),hc⟩
    ·have:=VR.slice (μ:=obM L) (b:=8+i) (o:=o) (l:=0) (c:=cap) (k:=⟨b,0,0,sz⟩) hm hc (Nat.zero_le _)
     simpa using this
    ·rw[ldrop_eq,List.drop_nil]
     cases 0*sz<;>rfl
 | @full b o cap _ c el fz _ hW hne hlen hsz hl hc hat hno=>
   have hpos:0<n*sz:=Nat.mul_pos (Nat.pos_of_ne_zero hne) hsz
   have hsize:o+n*sz≤c.size:=by
    have h1:=hat (n*sz-1) (by omega)
    have h2:cs[n*sz-1]? =some (cs[n*sz-1]'(by omega)):=List.getElem?_eq_getElem _
    rw[h2]at h1
    have:=(Array.getElem?_eq_some_iff.1 h1).1
    omega
   refine⟨[⟨cs,sz,b,o,o+n*sz⟩],fun μ o' ho=> ?_,fun L i hL=> ?_⟩
   ·rw[List.mem_singleton.1 ho]
    refine⟨c,el,fz,hW,by show o+cs.length≤o+n*sz;omega,hsize,fun i hi=> ?_⟩
    have hi':i<cs.length:=hi
    have h2:cs[i]? =some (cs[i]'hi'):=List.getElem?_eq_getElem _
    refine⟨_,(hat i (by omega)).trans h2,?_⟩
    have e:gv cs i=cs[i]'hi':=by unfold gv;rw[lget_eq,h2];rfl
    show VR μ (gv cs i) _
    rw[e]
    exact(VR.noRef (hno _ (List.getElem_mem _))).1
   ·have hi:=hL _ rfl
    have hg:(obH L).get (8+i)=some (.cells cs false sz):=by rw[obH_get,if_pos (by omega),show 8+i-8=i by omega,hi];rfl
    have hm:obM L (8+i)=some ⟨b,o,o+n*sz,sz⟩:=by unfold obM;rw[if_pos (by omega),show 8+i-8=i by omega,hi];rfl
    have hlt:=(List.getElem?_eq_some_iff.1 hi).1
    refine⟨some ⟨8+i,0,none⟩,cap,?_, .mem ⟨by show 8+i<8+L.length;omega,⟨cs,false,sz,hg,?_⟩,hlen⟩ hl,hc⟩
    ·have:=VR.slice (μ:=obM L) (b:=8+i) (o:=0) (l:=n) (c:=cap) (k:=⟨b,o,o+n*sz,sz⟩) hm hc hl
     simpa using this
    ·rw[ltake_eq,ldrop_eq,List.drop_zero,List.take_of_length_le (by omega)]
theorem laid2{W:World}{sz1 sz2 n1 n2:Nat}{s1 s2:Value}{c1 c2:List Value}(h1:CellsAt W sz1 s1 n1 c1)(h2:CellsAt W sz2 s2 n2 c2):∃(h:Heap) (μ:Mu),R Tryz.prog μ h W∧(∀b o,h.get b=some o→o.ro=true∨o.live=false)∧Rdy h∧
 (∃a c,VR μ (.slice a n1 c) s1∧SliceOf h sz1 (.slice a n1 c) n1 c1∧c<UNK)∧(∃a c,VR μ (.slice a n2 c) s2∧SliceOf h sz2 (.slice a n2 c) n2 c2∧c<UNK):=by
 have hg:Tryz.prog.globals.size≤8:=of_decide_eq_true (by kernel_rfl)
 obtain⟨o1,k1,q1⟩:=h1.lay
 obtain⟨o2,k2,q2⟩:=h2.lay
 refine⟨obH (o1++o2),obM (o1++o2),R.obs hg fun o ho=> ?_,obH_ro,obH_rdy _,q1 _ 0 fun o ho=> ?_,q2 _ o1.length fun o ho=> ?_⟩
 ·rcases List.mem_append.1 ho with q|q
  ·exact k1 _ o q
  ·exact k2 _ o q
 ·have:=(List.getElem?_eq_some_iff.1 ho).1
  rw[List.getElem?_append_left this]
  exact ho
 ·rw[List.getElem?_append_right (Nat.le_refl _),Nat.sub_self]
  exact ho
section
variable {H:Type} {enc:TypeId×Value→H} {W:World} {base:Nat} {spare:Nat→Bool} {held:Bool}
theorem cells5:Tryz.prog.cellsOf 5=1:=by kernel_rfl
theorem cells115:Tryz.prog.cellsOf 115=2:=by kernel_rfl
theorem node_cells{fuel:Nat}{cs:List Value}{x:DataW H×List MemPlace}(h:DataW.trod enc Tryz.prog W base spare held fuel 115 cs=some x):∃k:Nat×Int,cs=[.int .u8 k.1, .int .i64 k.2]∧k.1<256:=by
 obtain⟨xs,n,_,hx,hcl,hlen,hg⟩:=DataW.trod_struct Tryz.underlying115 h
 rw[cells115]at hcl
 match cs,hcl with
 |[c0,c1],_=>
  match xs,hlen with
  |[y0,y1],_=>
   have g0:DataW.trod enc Tryz.prog W base spare held n 5 [c0]=some y0:=by have:=hg 0 _ rfl;simpa[cells5]using this
   have g1:DataW.trod enc Tryz.prog W base spare held n 3 [c1]=some y1:=by have:=hg 1 _ rfl;simpa[cells3]using this
   obtain⟨a0,h0,_,w0⟩:=DataW.trod_int Tryz.underlying5 g0
   obtain⟨a1,h1,_⟩:=DataW.trod_int Tryz.underlying3 g1
   cases h0;cases h1
   simp only[Lit.wf,Bool.and_eq_true,decide_eq_true_eq]at w0
   have e1:IntKind.u8.min=0:=rfl
   have e2:IntKind.u8.max=255:=rfl
   rw[e1,e2]at w0
   obtain⟨a0,rfl⟩:=Int.eq_ofNat_of_zero_le w0.1
   exact⟨(a0,a1),rfl,by show a0<256;omega⟩
theorem ncI_get:∀{l:List (Nat×Int)} {i:Nat} {k:Nat×Int} {j:Nat},l[i]? =some k→j<2→(ncI l)[i*2+j]? =([.int .u8 k.1, .int .i64 k.2]:List Value)[j]?
 |[],i,k,j,h,_=>by simp at h
 |x::l,0,k,j,h,hj=>by
  simp only[List.getElem?_cons_zero,Option.some.injEq]at h
  subst h
  simp only[ncI,Nat.zero_mul,Nat.zero_add]
  rw[List.getElem?_append_left (by simpa using hj)]
 |x::l,i+1,k,j,h,hj=>by
  rw[List.getElem?_cons_succ]at h
  have:=ncI_get (l:=l) h hj
  simp only[ncI]
  rw[List.getElem?_append_right (by simp;omega),←this]
  congr 1
  simp;omega
theorem open_nodes{v:Value}{d:DataW H}{p:List MemPlace}(hv:Value.okWide Tryz.prog W .any base 31 v)(h:DataW.Trod enc Tryz.prog W 0 (fun _=>true) held 31 v d p)(hz:∀n∈d.weights Tryz.prog 31,n≤reachBytes):∃ns,NodesAt W v ns:=by
 have hcell:Cell.okWide Tryz.prog W .any base 31 v:=by
  simpa only[Value.okWide,Tryz.underlying31]using hv
 obtain⟨a0,len0,cap0,rfl⟩:=okWide_slice Tryz.underlying31 hv
 obtain⟨fuel,hf⟩:=h
 have hf:DataW.trod enc Tryz.prog W 0 (fun _=>true) held fuel 31 [.slice a0 len0 cap0]=some (d,p):=by simpa[Value.cells]using hf
 rcases open_slice Tryz.underlying31 hf with⟨h2,_⟩|⟨a,len,cap,m,n',D,Pl,h2,_,hl,hcap,hm,hy,hx⟩
 ·cases h2
  exact⟨[], .nil,fun x hx=>by cases hx⟩
 ·cases h2
  simp only[Cell.okWide,Cell.ok,Tryz.underlying31,World.has]at hcell
  obtain⟨_,_,_,hspot,row,cells,hsh,_⟩:=hcell
  obtain⟨b,o,sp⟩:=a
  simp only at hspot hsh
  subst hspot
  rw[if_pos rfl]at hm
  subst hm
  have hcapU:m<UNK:=by
   have e16:Tryz.prog.bytesOf 115=16:=by kernel_rfl
   have:=hz (m*16) (by
    cases hy
    simp only[DataW.weights,Tryz.underlying31,e16,List.length_map,List.length_range,show len0+(m-len0)=m by omega]
    simp)
   unfold reachBytes at this
   unfold UNK;omega
  obtain⟨c,el,fz,hheap⟩:∃c el fz,W.heap[b]? =some (.cells c el fz):=by
   unfold World.shape? at hsh
   split at hsh
   ·rename_i c el fz he;exact⟨c,el,fz,he⟩
   ·cases hsh
  obtain⟨f,hf⟩:=choose_lt (α:=Nat×Int) (n:=len0) (p:=fun i k=>k.1<256∧∀j,j<2→c[o+(i*2+j)]? =([.int .u8 k.1, .int .i64 k.2]:List Value)[j]?) (fun i hi=>by
   obtain⟨cs',hc,ht⟩:=hx i (by omega)
   obtain⟨k,hk,hk2⟩:=node_cells ht
   subst hk
   refine⟨k,hk2,fun j hj=> ?_⟩
   rw[cells115]at hc
   obtain⟨_,_,hat⟩:=World.cells?_some hc
   have:=hat j hj
   rw[add_eq,add_eq]at this
   rw[←this,Nat.add_assoc]
   unfold World.cell?
   simp only[hheap]
   rfl)
  by_cases h0:len0=0
  ·subst h0
   exact⟨[], .empty hheap hcapU,fun x hx=>by cases hx⟩
  ·have hlen:((List.range len0).map f).length=len0:=by simp
   refine⟨(List.range len0).map f,?_,fun x hx=> ?_⟩
   ·rw[hlen]
    refine .full hheap h0 (by rw[ncI_len,hlen]) (by omega) hl hcapU (fun j hj=> ?_) (noRef_ncI _)
    have h5:j / 2<len0:=by omega
    have e1:j=j / 2*2+j % 2:=by omega
    have g1:=(hf (j / 2) h5).2 (j % 2) (by omega)
    have g2:=ncI_get (l:=(List.range len0).map f) (i:=j / 2) (k:=f (j / 2)) (j:=j % 2) (by simp[h5]) (by omega)
    rw[←e1]at g1 g2
    rw[g1,g2]
   ·obtain⟨i,hi,rfl⟩:=List.mem_map.1 hx
    exact(hf i (List.mem_range.1 hi)).1
end
end Go.A.Pk
end
section
set_option maxRecDepth 100000
open Go Go.A Go.Proofs Go.RowKit
namespace Go.A.Pk
theorem c9:compF Tryz.prog Tryz.f9 [[1,2,3,4],[1,2,3,4,25],[8],[1,2,3,4,9,10,11],[1,2,3,4,9,10,36],[8],[1,2,3,4,9,12,13],[1,2,4,9,12,13,14,15],[1,2,9,12,13,14,15,16,17],[8]]=some f9:=by kernel_rfl
theorem c51:compF Tryz.prog Tryz.f51 [[1,2,3,4],[10,11],[8,9]]=some f51:=by kernel_rfl
theorem c52:compF Tryz.prog Tryz.f52 [[1,2],[1,2,3],[1,2,3,4],[1,2,3,4,13],[1,2,3,4,5],[1,2,3,4,5],[1,2,3,4],[1,2,3,4],[2]]=some f52:=by kernel_rfl
theorem c108:compF Tryz.prog Tryz.f108 [[1,2,3,4,8],[1,2,3,8,10,11],[1,2,3,8,10,11,24],[8,9],[8,12,13],[8,12,37],[8,9],[8,9]]=some f108:=by kernel_rfl
def tree9:Tr:=(.node (.node (.node (.node (.node (.node .nil 9 f9 .nil) 18 f18 .nil) 19 (.prim (pConst (.bool true))) (.node (.node .nil 24 f24 .nil) 32 f32 .nil)) 51 f51 (.node (.node (.node .nil 52 f52 .nil) 66 f66 .nil) 75 f75 (.node (.node .nil 76 f76 .nil) 77 f77 .nil))) 83 f83 (.node (.node (.node (.node .nil 84 f84 .nil) 94 f94 .nil) 96 f96 (.node (.node .nil 97 f97 .nil) 104 f104 .nil)) 105 f105 (.node (.node (.node .nil 106 f106 .nil) 108 f108 .nil) 109 f109 (.node .nil 113 f113 .nil)))) 117 f117 (.node (.node (.node (.node (.node .nil 118 f118 .nil) 119 f119 .nil) 122 f122 (.node (.node .nil 125 f125 .nil) 126 f126 .nil)) 136 f136 (.node (.node (.node .nil 140 f140 .nil) 141 f141 .nil) 142 f142 (.node .nil 143 f143 .nil))) 144 f144 (.node (.node (.node (.node .nil 145 f145 .nil) 147 f147 .nil) 149 f149 (.node (.node .nil 150 f150 .nil) 169 f169 .nil)) 170 f170 (.node (.node (.node .nil 171 f171 .nil) 172 f172 .nil) 173 f173 (.node .nil 176 f176 .nil)))))
def T9:Nat→Option AFunc:=tree9.get
theorem all9:tree9.all (Entry Tryz.prog):=by
 unfold tree9
 exact(Tr.all_node (Tr.all_node (Tr.all_node (Tr.all_node (Tr.all_node (Tr.all_node Tr.all_nil (.of Tryz.func9 c9) Tr.all_nil) (.of Tryz.func18 c18) Tr.all_nil) ok19 (Tr.all_node (Tr.all_node Tr.all_nil (.of Tryz.func24 c24) Tr.all_nil) (.of Tryz.func32 c32) Tr.all_nil)) (.of Tryz.func51 c51) (Tr.all_node (Tr.all_node (Tr.all_node Tr.all_nil (.of Tryz.func52 c52) Tr.all_nil) (.of Tryz.func66 c66) Tr.all_nil) (.of Tryz.func75 c75) (Tr.all_node (Tr.all_node Tr.all_nil (.of Tryz.func76 c76) Tr.all_nil) (.of Tryz.func77 c77) Tr.all_nil))) (.of Tryz.func83 c83) (Tr.all_node (Tr.all_node (Tr.all_node (Tr.all_node Tr.all_nil (.of Tryz.func84 c84) Tr.all_nil) (.of Tryz.func94 c94) Tr.all_nil) (.of Tryz.func96 c96) (Tr.all_node (Tr.all_node Tr.all_nil (.of Tryz.func97 c97) Tr.all_nil) (.of Tryz.func104 c104) Tr.all_nil)) (.of Tryz.func105 c105) (Tr.all_node (Tr.all_node (Tr.all_node Tr.all_nil (.of Tryz.func106 c106) Tr.all_nil) (.of Tryz.func108 c108) Tr.all_nil) (.of Tryz.func109 c109) (Tr.all_node Tr.all_nil (.of Tryz.func113 c113) Tr.all_nil)))) (.of Tryz.func117 c117) (Tr.all_node (Tr.all_node (Tr.all_node (Tr.all_node (Tr.all_node Tr.all_nil (.of Tryz.func118 c118) Tr.all_nil) (.of Tryz.func119 c119) Tr.all_nil) (.of Tryz.func122 c122) (Tr.all_node (Tr.all_node Tr.all_nil (.of Tryz.func125 c125) Tr.all_nil) (.of Tryz.func126 c126) Tr.all_nil)) (.of Tryz.func136 c136) (Tr.all_node (Tr.all_node (Tr.all_node Tr.all_nil (.of Tryz.func140 c140) Tr.all_nil) (.of Tryz.func141 c141) Tr.all_nil) (.of Tryz.func142 c142) (Tr.all_node Tr.all_nil (.of Tryz.func143 c143) Tr.all_nil))) (.of Tryz.func144 c144) (Tr.all_node (Tr.all_node (Tr.all_node (Tr.all_node Tr.all_nil (.of Tryz.func145 c145) Tr.all_nil) (.of Tryz.func147 c147) Tr.all_nil) (.of Tryz.func149 c149) (Tr.all_node (Tr.all_node Tr.all_nil (.of Tryz.func150 c150) Tr.all_nil) (.of Tryz.func169 c169) Tr.all_nil)) (.of Tryz.func170 c170) (Tr.all_node (Tr.all_node (Tr.all_node Tr.all_nil (.of Tryz.func171 c171) Tr.all_nil) (.of Tryz.func172 c172) Tr.all_nil) (.of Tryz.func173 c173) (Tr.all_node Tr.all_nil (.of Tryz.func176 c176) Tr.all_nil)))))
theorem sound9:SoundT Tryz.prog T9:=soundT_of (by kernel_rfl) all9
theorem pu19_9{h:Heap}:Pu T9 19 [] h (.bool true):= .prim (p:=pConst (.bool true)) (by kernel_rfl) rfl ⟨rfl,rfl⟩
theorem fns9:FnsWw T9:={p:=sound9.primAS,f77:=by kernel_rfl,f117:=by kernel_rfl,f119:=by kernel_rfl,f147:=by kernel_rfl,f118:=by kernel_rfl,f66:=by kernel_rfl,f18:=by kernel_rfl,f97:=by kernel_rfl,f122:=by kernel_rfl,f149:=by kernel_rfl,f75:=by kernel_rfl,f96:=by kernel_rfl,f113:=by kernel_rfl,f94:=by kernel_rfl,f104:=by kernel_rfl,f105:=by kernel_rfl,f106:=by kernel_rfl,f136:=by kernel_rfl,f140:=by kernel_rfl,f141:=by kernel_rfl,f83:=by kernel_rfl,f76:=by kernel_rfl,f32:=by kernel_rfl,f126:=by kernel_rfl,f150:=by kernel_rfl,f176:=by kernel_rfl,f125:=by kernel_rfl,f84:=by kernel_rfl,f24:=by kernel_rfl,f143:=by kernel_rfl,f145:=by kernel_rfl,f169:=by kernel_rfl,f170:=by kernel_rfl,f171:=by kernel_rfl,f172:=by kernel_rfl,f173:=by kernel_rfl,f144:=by kernel_rfl,f109:=by kernel_rfl,f142:=by kernel_rfl,f108:=by kernel_rfl,f51:=by kernel_rfl,f52:=by kernel_rfl,f9:=by kernel_rfl,c19:=fun _=>pu19_9}
theorem waste_calls{W:World}{sl:Value}{l:List Kd}(hk:KindsAt W sl l)(kerf:Int)(i1:Int)(i2:Int){nl:Value}{ns:List (Nat×Int)}(hn:NodesAt W nl ns):Calls Tryz.prog 9 #[.agg #[sl, .int .i64 kerf], .int .i64 i1, .int .i64 i2,nl] W fun e W'=>e= .returned (.bool true)∧Below W.heap.size W W':=by
 obtain⟨h,μ,hR,hro,hrd,⟨a,c,hu,hs,_⟩,⟨a2,c2,hu2,hns,hc2⟩⟩:=laid2 hk.cells hn.1
 obtain⟨r,h',⟨m,hm⟩,rfl,rfl⟩:=law9 fns9 hrd hs kerf i1 i2 hns (fun b o n e=>by cases e;exact absurd hc2 (Nat.lt_irrefl _)) (.inl hc2) hn.2
 have hrun:=hm m (Nat.le_refl _)
 have ha:LR μ [.agg #[.slice a l.length c, .int .i64 kerf], .int .i64 i1, .int .i64 i2, .slice a2 ns.length c2] [.agg #[sl, .int .i64 kerf], .int .i64 i1, .int .i64 i2,nl]:=
  .cons (VR.aggL (.cons hu (.cons (.int _ _) .nil))) (.cons (.int _ _) (.cons (.int _ _) (.cons hu2 .nil)))
 refine(acall_calls sound9 hrun hrd.log (by kernel_rfl) hR ha).mono fun e W' hq=> ?_
 obtain⟨μ',q1,q2,q3⟩:=hq
 cases e with
 |returned v'=>
  have hv:VR μ' (.bool true) v':=q1
  cases hv
  exact⟨rfl,St.below q3 hro⟩
 |panicked _=>exact q1.elim
 |outgrown=>exact q1.elim
end Go.A.Pk
end
