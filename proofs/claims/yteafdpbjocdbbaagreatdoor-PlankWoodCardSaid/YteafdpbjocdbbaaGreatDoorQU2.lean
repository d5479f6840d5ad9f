/- Walks of functions, plain laws, the table. -/
import Derived.Test.YteafdpbjocdbbaaGreatDoorQU1
import Derived.Test.YteafdpbjocdbbaaGreatDoorQU0
import Derived.Test.YteafdpbjocdbbaaGreatDoorQH
import Derived.Test.YteafdpbjocdbbaaGreatDoorQT
import Derived.Test.YteafdpbjocdbbaaGreatDoorQD
set_option linter.all false
section
set_option maxRecDepth 100000
namespace Go.A.Pk
variable {T:Nat→Option AFunc}
theorem sameBoxes71(hp:primAS T)(hf:T 71=some f71){h:Heap}(hr:Rdy h){a b:Option Addr}{n c d:Nat}{x y:Int}(h1:SliceOf h 2 (.slice a n c) n (lrow n [.int .i64 x, .int .i64 y]))(h2:SliceOf h 2 (.slice b n d) n (lrow n [.int .i64 x, .int .i64 y]))(hn:n<1000000):
 Pu T 71 [.slice a n c, .slice b n d] h (.bool true):=by
 refine .of hp hf hr rfl ?_
 have hxy:leavesEq [.i .i64, .i .i64] [Value.int .i64 x, .int .i64 y] [Value.int .i64 x, .int .i64 y]=some true:=by simp[leavesEq,leafEq]
 refine y4 ?_;refine yM ?_;refine y3 ?_;refine wE_seq ?_;refine y4 ?_;refine yM ?_;refine yD ?_;refine yM ?_
 refine yD ?_;refine yf ?_;refine y3 ?_;refine yX ?_;refine wE_skip ?_;refine kS_n ?_;refine wE_seq ?_;refine y4 ?_
 refine yM ?_;refine y3 ?_;refine wE_block ?_
 refine wE_loop (fun m e ds h'=>∃i:Nat,i≤n∧m=n-i∧e=[(0, .slice a n c),(1, .slice b n d),(5, .int .i64 i)]∧ds=[]∧h'=h) ⟨0,Nat.zero_le _,rfl,rfl,rfl,rfl⟩ ?_
 rintro m e ds h' ⟨i,hi,rfl,rfl,rfl,rfl⟩
 by_cases hlt:i<n
 ·rcases h1.inv with⟨_,_,h0,_⟩|⟨b1,o1,cap1,hv1,s1,_⟩
  ·omega
  rcases h2.inv with⟨_,_,h0,_⟩|⟨b2,o2,cap2,hv2,s2,_⟩
  ·omega
  cases hv1
  cases hv2
  obtain⟨vs1,w1,t1,g1,k1⟩:=slice_box s1 hlt
  obtain⟨vs2,w2,t2,g2,k2⟩:=slice_box s2 hlt
  refine wE_seq ?_;refine y4 ?_;refine yM ?_;refine yM ?_;refine yD ?_;refine yt ?_;refine y3 ?_
  refine yY ?_;refine wE_skip ?_;refine kS_n ?_;refine wE_seq ?_;refine wE_block ?_;refine wE_seq ?_;refine wE_draw ?_;refine qM ?_;refine qM ?_
  refine wD_quiet rfl rfl rfl (by exact rfl) (by exact rfl) (by exact rfl) (a_iaddrS (by exact rfl) (by exact rfl) (by omega)) ?_
  refine wD_quiet rfl rfl rfl (by exact rfl) (by exact rfl) (by exact rfl) (a_loadN (by exact rfl) g1 k1 (by exact rfl)) ?_
  refine qM ?_;refine qM ?_;refine wD_quiet rfl rfl rfl (by exact rfl) (by exact rfl) (by exact rfl) (a_iaddrS (by exact rfl) (by exact rfl) (by omega)) ?_
  refine wD_quiet rfl rfl rfl (by exact rfl) (by exact rfl) (by exact rfl) (a_loadN (by exact rfl) g2 k2 (by exact rfl)) ?_
  skip
  refine wD_quiet rfl rfl rfl (by exact rfl) (by exact rfl) (by exact rfl) (a_agg (b:=true) (by exact rfl) (by exact rfl) hxy) ?_
  refine wD_nil ?_;refine y1 ?_;refine kS_n ?_;refine yX ?_;refine wE_skip ?_;refine kB_n ?_;refine kS_n ?_;refine wE_region ?_;refine yM ?_;refine yinc ?_
  refine yM ?_;refine y3 ?_
  exact⟨n-(i+1),by omega,i+1,by omega,rfl,rfl,rfl,rfl⟩
 ·obtain rfl:i=n:=by omega
  refine wE_seq ?_;refine y4 ?_;refine yM ?_;refine yM ?_;refine yD ?_;refine yf ?_;refine y3 ?_
  refine yX ?_;refine wE_exit ?_;refine kS_e ?_;refine kS_e ?_;refine kB_e ?_;refine kS_n ?_;refine y4 ?_;refine yM ?_;refine y3 ?_;refine wE_ret ?_
  exact endP_ret hr.log rfl rfl
structure FnsRT (T:Nat→Option AFunc):Prop extends FnsB T,FnsRZ T where
 f70:T 70=some f70
theorem wE_cut0{base:Nat}{rnd:Option Nat}{Q:XQ}{e:Env}{E0:Env}{ds:Dfs}{h H0:Heap}{a b:ACode}(H1:WE T base rnd a (fun x e' ds' h'=>x= .normal∧e'=E0∧ds'=[]∧h'=H0) e ds h)(H2:WE T base rnd b Q E0 [] H0):WE T base rnd (.seq a b) Q e ds h:=by
 refine wE_seq (H1.mono ?_)
 rintro x e' ds' h' ⟨rfl,rfl,rfl,rfl⟩
 exact kS_n H2
theorem pair_get{vs:List Value}{q:Nat}{x y:Value}(hk:ltake 2 (ldrop q vs)=[x,y]):lget vs (q+0*1)=some x∧lget vs (q+1*1)=some y:=by
 rw[ltake_eq,ldrop_eq]at hk
 constructor
 ·have:((vs.drop q).take 2)[0]? =some x:=by rw[hk];rfl
  rw[List.getElem?_take_of_lt (by omega),List.getElem?_drop]at this
  rw[lget_eq];exact this
 ·have:((vs.drop q).take 2)[1]? =some y:=by rw[hk];rfl
  rw[List.getElem?_take_of_lt (by omega),List.getElem?_drop]at this
  rw[lget_eq];exact this
set_option maxHeartbeats 16000000 in
theorem timber70(F:FnsRT T){h:Heap}(hr:Rdy h){a:Option Addr}{n c:Nat}{l:List Kd}(hs:SliceOf h 5 (.slice a n c) n (kcs l))(kerf:Int)(hn:n<1000000){pl:List Nat}(hl:pl.length=8)(hp:∀x∈pl,x<18446744073709551616):
 Al T 70 [.agg #[.slice a n c, .int .i64 kerf], .agg (us pl).toArray] h (TimQ kerf l pl):=by
 have hpA:=F.toFnsB.p
 refine .of hpA F.f70 hr TimQ.gc ?_
 have hu:(us pl).length=8:=by rw[us,List.length_map,hl]
 obtain rfl:n=l.length:=by have:=hs.len;rw[kcs_length]at this;omega
 have hx1:Ext h ((h.push (.cells [.slice a l.length c, .int .i64 kerf] true 1)).push (.cells (us pl) true 1)):=((Ext.refl h).push _).push _
 have hl1':ltake 8 (ldrop 0 (us pl))=us pl:=by rw[ltake_eq,ldrop_eq,List.drop_zero,List.take_of_length_le (by omega)]
 have hl2':Nat.beq (llen (us pl)) 8=true:=by rw[llen_eq,hu];rfl
 have hlv:leavesEq (lrep 8 (.i .u64)) (us pl).toArray.toList (lrep 8 (.int .u64 0))=some (pl.all (· ==0)):=by
  have:=leaves_us pl
  rw[hl]at this
  rw[List.toList_toArray];exact this
 refine y4 ?_
 refine wO_val (a_box (vs:=[.slice a l.length c, .int .i64 kerf]) (by exact rfl) (by exact rfl)) ?_
 refine wO_val (a_box (vs:=us pl) (by exact rfl) (by show(us pl).toArray.toList=us pl;simp)) ?_
 refine yM ?_;refine yM ?_;refine yM ?_;refine y3 ?_;refine y4 ?_
 refine yN ?_
 refine yC ?_
 refine FW.pu (check67 F.toFnsB (.of (hx1.wf hr.wf)) ((hs.ext hx1).log []) kerf hn) ?_
 by_cases hc:chk kerf l=0
 ·rw[hc]
  by_cases hz:pl.all (· ==0)=true
  ·rw[hz]at hlv
   have ha:asked kerf l (NZ pl)=1:=by unfold asked;rw[if_pos hc,if_neg (show¬NZ pl from fun q=>q hz)]
   have hE:timE kerf l pl=1:=by rw[timE,if_neg (by omega),ha]
   have t1:timL kerf l pl=[]:=by rw[timL,if_neg (by omega)]
   have t2:timW kerf l pl=0:=by rw[timW,if_neg (by omega)]
   refine yM ?_;refine y3 ?_;refine wE_seq ?_;refine y4 ?_;refine yM ?_;refine yt ?_;refine yM ?_
   refine yO ?_;refine wO_val (a_loadN (by exact rfl) (by(simp(disch:=first|omega|(simp only[z1,z2];omega)|(simp only[z1,z2];done)|fail)only[z8,z4,z5,z9,z7,z1,z2, *];exact rfl)) (by assumption) (by assumption)) ?_
   refine yO ?_;refine wO_val (a_build (by exact rfl)) ?_;refine yO ?_
   refine wO_val (a_agg (b:=true) (by exact rfl) (by exact rfl) hlv) ?_
   refine yT ?_;refine y3 ?_;refine yY ?_;refine wE_region ?_;refine yM ?_;refine y3 ?_;refine wE_seq ?_;refine y4 ?_;refine yM ?_;refine yt ?_;refine y3 ?_;refine yY ?_;refine y4 ?_;refine yM ?_;refine yM ?_;refine yM ?_;refine yM ?_;refine y3 ?_;refine wE_ret ?_;refine kS_r ?_
   refine endA_ret (vs:=[.slice none 0 0, .int .i64 0, .int .i64 1]) (hx1.log.trans hr.log) rfl ?_
   unfold TimQ
   rw[t1,t2,hE]
   exact⟨none,0,rfl, .nil⟩
  ·have hlv':leavesEq (lrep 8 (.i .u64)) (us pl).toArray.toList (lrep 8 (.int .u64 0))=some false:=by rw[hlv];simpa using hz
   have ha:asked kerf l (NZ pl)=0:=by unfold asked;rw[if_pos hc,if_pos (show NZ pl from hz)]
   have hE:timE kerf l pl=if boxN pl≠0∧timB l pl<0 then 51 else 0:=by rw[timE,if_pos ha];rfl
   have hN8:=boxN_bd hp
   have hwb:=wAt_bd hc (timB l pl)
   have hl12:=(chk_iff.1 hc).1
   refine yM ?_;refine y3 ?_;refine wE_seq ?_;refine y4 ?_;refine yM ?_;refine yt ?_;refine yM ?_
   refine yO ?_;refine wO_val (a_loadN (by exact rfl) (by(simp(disch:=first|omega|(simp only[z1,z2];omega)|(simp only[z1,z2];done)|fail)only[z8,z4,z5,z9,z7,z1,z2, *];exact rfl)) (by assumption) (by assumption)) ?_
   refine yO ?_;refine wO_val (a_build (by exact rfl)) ?_;refine yO ?_
   refine wO_val (a_agg (b:=false) (by exact rfl) (by exact rfl) hlv') ?_
   refine yT ?_;refine y3 ?_;refine yX ?_;refine wE_skip ?_;refine kS_n ?_;refine wE_seq ?_;refine y4 ?_;refine yM ?_
   refine yf ?_;refine y3 ?_;refine yX ?_;refine wE_skip ?_;refine kS_n ?_;refine y4 ?_
   refine wO_val (a_loadN (by exact rfl) (by(simp(disch:=first|omega|(simp only[z1,z2];omega)|(simp only[z1,z2];done)|fail)only[z8,z4,z5,z9,z7,z1,z2, *];exact rfl)) (by assumption) (by assumption)) ?_
   clear hlv hlv'
   refine yC ?_
   refine FW.al (al_mono (rboxes73 F.toFnsRZ (.of (hx1.wf hr.wf)) hl hp) fun v h' q=>q.box hp) (fun v h' m q=>BoxQ.log v h' m q) ?_
   rintro _ h2 hx4 ⟨ba,bc,rfl,hB⟩
   have hx14:=hx1.trans hx4
   have w2:=hx14.wf hr.wf
   have hks2:=hs.ext hx14
   have hlg2:h2.log=[]:=hx14.log.trans hr.log
   have gb2:h2.get h.next=some (.cells [.slice a l.length c, .int .i64 kerf] true 1):=by rw[hx4.old _ (by(simp only[z1,z2];omega))];(simp(disch:=first|omega|(simp only[z1,z2];omega))only[z3,z4,z5,z6,z7,z1,z2, *];done)
   have kb2:h.next<h2.next:=Nat.lt_of_lt_of_le (show h.next<h.next+2 by omega) hx4.next
   have hTL:timE kerf l pl=0→timL kerf l pl=List.replicate (boxN pl) (timB l pl):=fun q=>by rw[timL,if_pos q]
   have hTW:timE kerf l pl=0→timW kerf l pl=boxN pl*wAt l (timB l pl):=fun q=>by rw[timW,if_pos q]
   clear hx4 hx1 hl1' hl2'
   have hBdef:timB l pl=found l (boxD pl).1 (boxD pl).2 l.length:=rfl
   unfold boxL at hB
   generalize boxD pl=D at*
   obtain⟨D1,D2⟩:=D
   dsimp only at hB hBdef
   generalize timB l pl=B at*
   have hNe:boxN pl=boxN pl:=rfl
   generalize boxN pl=N at*
   refine yM ?_;refine y3 ?_;refine y4 ?_;refine yM ?_;refine y3 ?_
   refine y4 ?_;refine yM ?_;refine y3 ?_;refine wE_seq ?_;refine y4 ?_;refine yM ?_;refine y3 ?_;refine wE_block ?_
   refine wE_loop (fun m e ds h'=>∃(i:Nat) (v:Value) (W:Int),i≤N∧m=N-i∧W=i*wAt l B∧e=[(2, .pointer (some ⟨h.next,0,none⟩)),(8, .slice ba N bc),(9,v),(10, .int .i64 W),(11, .int .i64 i)]∧ds=[]∧Ext h2 h'∧Own h2.next h' 1 v i (ints (List.replicate i B))∧(0<i→0≤B))
    ⟨0,_,0,Nat.zero_le _,rfl,by simp,rfl,rfl, .refl _, .nil,fun q=>absurd q (Nat.lt_irrefl 0)⟩ ?_
   rintro m e ds h' ⟨i,v,W,hiN,rfl,hW,rfl,rfl,hx',own,hi0⟩
   have hWb:0≤W∧W≤8000000:=by
    subst hW
    refine⟨Int.mul_nonneg (by omega) hwb.1,?_⟩
    have:=Int.mul_le_mul (show(i:Int)≤8 by omega) hwb.2 hwb.1 (by omega)
    omega
   have gb':=(hx'.old _ kb2).trans gb2
   have kb':h.next<h'.next:=Nat.lt_of_lt_of_le kb2 hx'.next
   by_cases hlt:i<N
   ·rcases hB.inv with⟨_,_,h0,_⟩|⟨b,o,cap,hv,s0,hcap⟩
    ·omega
    cases hv
    refine wE_seq ?_;refine y4 ?_;refine yM ?_;refine yM ?_;refine yD ?_;refine yt ?_;refine y3 ?_
    refine yY ?_;refine wE_skip ?_;refine kS_n ?_;refine wE_seq ?_;refine wE_block ?_;refine y4 ?_;refine yM ?_;refine y3 ?_;refine wE_seq ?_;refine y4 ?_
    refine yM ?_;refine y3 ?_;refine wE_block ?_
    refine wE_loop (fun m e ds h''=>∃(j:Nat),j≤l.length∧m=l.length-j∧e=[(2, .pointer (some ⟨h.next,0,none⟩)),(8, .slice (some ⟨b,o,none⟩) N bc),(9,v),(10, .int .i64 W),(11, .int .i64 i),(12, .int .i64 (found l D1 D2 j)),(13, .int .i64 j)]∧ds=[]∧Ext h' h'')
     ⟨0,Nat.zero_le _,rfl,rfl,rfl, .refl _⟩ ?_
    rintro m e ds h'' ⟨j,hjl,rfl,rfl,rfl,hx''⟩
    have gb'':=(hx''.old _ kb').trans gb'
    have kb'':h.next<h''.next:=Nat.lt_of_lt_of_le kb' hx''.next
    have hfb:=found_bd l D1 D2 j
    by_cases hjlt:j<l.length
    ·obtain⟨k,hkl⟩:∃k,l[j]? =some k:=⟨l[j],List.getElem?_eq_getElem hjlt⟩
     have hfs:found l D1 D2 (j+1)=if Large k D1 D2∧(found l D1 D2 j<0∨k.worth<wAt l (found l D1 D2 j))then(j:Int)else found l D1 D2 j:=by rw[found,hkl]
     rcases(hks2.ext (hx'.trans hx'')).inv with⟨_,_,h0,_⟩|⟨kb,ko,kcap,hv,sk,hkcap⟩
     ·omega
     cases hv
     obtain⟨vk,ownk,tk,gk1,gk2⟩:=slice_elem sk hkl
     obtain⟨id,kw,kh,kwo,tu⟩:=k
     have gk2':ltake 5 (ldrop (ko+j*5) vk)=[.int .i64 id, .int .i64 kw, .int .i64 kh, .int .i64 kwo, .bool tu]:=gk2
     have hx6:=(hx''.push (.cells [.int .i64 0, .int .i64 0, .int .i64 0, .int .i64 0, .bool false] true 1)).wr (base:=h.next) (x:=h''.next) (o:= .cells [.int .i64 id, .int .i64 kw, .int .i64 kh, .int .i64 kwo, .bool tu] true 1) hx''.next (by omega)
     have hx6':=((Ext.refl h'').push (.cells [.int .i64 0, .int .i64 0, .int .i64 0, .int .i64 0, .bool false] true 1)).wr (base:=h.next) (x:=h''.next) (o:= .cells [.int .i64 id, .int .i64 kw, .int .i64 kh, .int .i64 kwo, .bool tu] true 1) (Nat.le_refl _) (by omega)
     obtain⟨vs,own0,t,g1,g2⟩:=slice_box (s0.ext (hx'.trans hx6)) hlt
     obtain⟨ex,ey⟩:=pair_get g2
     have dT:((D1≤kw∧D2≤kh)∨(tu=true∧D1≤kh∧D2≤kw))→decide (Large ⟨id,kw,kh,kwo,tu⟩ D1 D2)=true:=fun q=>decide_eq_true q
     have dF:¬ ((D1≤kw∧D2≤kh)∨(tu=true∧D1≤kh∧D2≤kw))→decide (Large ⟨id,kw,kh,kwo,tu⟩ D1 D2)=false:=fun q=>decide_eq_false q
     dsimp only at hfs
     refine wE_seq ?_;refine y4 ?_;refine yM ?_;refine yF ?_;refine yL ?_;refine yD ?_;refine yt ?_;refine y3 ?_;refine yY ?_;refine wE_skip ?_;refine kS_n ?_;refine wE_seq ?_;refine wE_block ?_;refine y4 ?_;refine yF ?_;refine yL ?_
     refine yM ?_;refine wO_val (a_iaddrS (by exact rfl) (by exact rfl) (by omega)) ?_
     refine wO_val (a_loadN (by exact rfl) gk1 gk2' (by exact rfl)) ?_
     refine wO_val a_new ?_
     refine wO_val (a_store (ws:=[.int .i64 id, .int .i64 kw, .int .i64 kh, .int .i64 kwo, .bool tu]) (by exact rfl) (by exact rfl) (by(simp(disch:=first|omega|(simp only[z1,z2];omega))only[z3,z4,z5,z6,z7,z1,z2, *];exact rfl)) (by exact rfl) (by exact rfl)) ?_
     refine y3 ?_
     clear gk1 gk2 gk2' g2
     refine wE_cut0 (E0:=[(2, .pointer (some ⟨h.next,0,none⟩)),(8, .slice (some ⟨b,o,none⟩) N bc),(9,v),(10, .int .i64 W),(11, .int .i64 i),(12, .int .i64 (found l D1 D2 j)),(13, .int .i64 j),(14, .pointer (some ⟨h''.next,0,none⟩)),(15, .bool (decide (Large ⟨id,kw,kh,kwo,tu⟩ D1 D2)))])
      (H0:=(h''.push (.cells [.int .i64 0, .int .i64 0, .int .i64 0, .int .i64 0, .bool false] true 1)).wr h.next h''.next (.cells [.int .i64 id, .int .i64 kw, .int .i64 kh, .int .i64 kwo, .bool tu] true 1)) ?_ ?_
     ·generalize found l D1 D2 j=fd at*
      clear hfs hfb hBdef
      by_cases c1:D1≤kw
      ·by_cases c2:D2≤kh
       ·rw[dT (.inl ⟨c1,c2⟩)]
        refine wE_draw ?_;refine qF ?_
        refine qL ?_
        refine qM ?_;refine qM ?_;refine wD_quiet rfl rfl rfl (by exact rfl) (by exact rfl) (by exact rfl) (a_iaddrS (by exact rfl) (by exact rfl) (by omega)) ?_
        refine wD_quiet rfl rfl rfl (by exact rfl) (by exact rfl) (by exact rfl) (a_iaddrA (i:=0) (by exact rfl) (by exact rfl) (by omega)) ?_;refine wD_quiet rfl rfl rfl (by exact rfl) (by exact rfl) (by exact rfl) (a_load (by exact rfl) (by assumption) (by assumption)) ?_
        refine wD_quiet rfl rfl rfl (by exact rfl) (by exact rfl) (by exact rfl) (a_num (by exact rfl) (by exact rfl) (by exact m_geqT (by omega))) ?_;refine qM ?_;refine qF ?_
        refine qL ?_
        refine qM ?_;refine qM ?_;refine wD_quiet rfl rfl rfl (by exact rfl) (by exact rfl) (by exact rfl) (a_iaddrS (by exact rfl) (by exact rfl) (by omega)) ?_
        refine wD_quiet rfl rfl rfl (by exact rfl) (by exact rfl) (by exact rfl) (a_iaddrA (i:=1) (by exact rfl) (by exact rfl) (by omega)) ?_;refine wD_quiet rfl rfl rfl (by exact rfl) (by exact rfl) (by exact rfl) (a_load (by exact rfl) (by assumption) (by assumption)) ?_
        refine wD_quiet rfl rfl rfl (by exact rfl) (by exact rfl) (by exact rfl) (a_num (by exact rfl) (by exact rfl) (by exact m_geqT (by omega))) ?_;refine wD_quiet rfl rfl rfl (by exact rfl) (by exact rfl) (by exact rfl) (a_pickT (by exact rfl) (by exact rfl)) ?_;refine qM ?_
        refine wD_off rfl rfl rfl (by exact rfl) ?_;refine wD_off rfl rfl rfl (by exact rfl) ?_;refine wD_off rfl rfl rfl (by exact rfl) ?_;refine wD_off rfl rfl rfl (by exact rfl) ?_;refine wD_off rfl rfl rfl (by exact rfl) ?_;refine wD_off rfl rfl rfl (by exact rfl) ?_;refine wD_off rfl rfl rfl (by exact rfl) ?_;refine wD_off rfl rfl rfl (by exact rfl) ?_
        refine wD_off rfl rfl rfl (by exact rfl) ?_;refine wD_off rfl rfl rfl (by exact rfl) ?_;refine wD_off rfl rfl rfl (by exact rfl) ?_;refine wD_off rfl rfl rfl (by exact rfl) ?_;refine wD_off rfl rfl rfl (by exact rfl) ?_;refine wD_off rfl rfl rfl (by exact rfl) ?_;refine wD_off rfl rfl rfl (by exact rfl) ?_;refine wD_off rfl rfl rfl (by exact rfl) ?_
        refine wD_off rfl rfl rfl (by exact rfl) ?_;refine wD_off rfl rfl rfl (by exact rfl) ?_;refine wD_off rfl rfl rfl (by exact rfl) ?_;refine wD_off rfl rfl rfl (by exact rfl) ?_;refine wD_off rfl rfl rfl (by exact rfl) ?_;refine wD_off rfl rfl rfl (by exact rfl) ?_;refine wD_quiet rfl rfl rfl (by exact rfl) (by exact rfl) (by exact rfl) (a_pickT (by exact rfl) (by exact rfl)) ?_
        refine qM ?_;refine wD_nil ?_;refine y1 ?_
        exact⟨rfl,rfl,rfl,rfl⟩
       ·cases tu with
        |false=>
         rw[dF (by simp;omega)]
         refine wE_draw ?_;refine qF ?_
         refine qL ?_
         refine qM ?_;refine qM ?_;refine wD_quiet rfl rfl rfl (by exact rfl) (by exact rfl) (by exact rfl) (a_iaddrS (by exact rfl) (by exact rfl) (by omega)) ?_
         refine wD_quiet rfl rfl rfl (by exact rfl) (by exact rfl) (by exact rfl) (a_iaddrA (i:=0) (by exact rfl) (by exact rfl) (by omega)) ?_;refine wD_quiet rfl rfl rfl (by exact rfl) (by exact rfl) (by exact rfl) (a_load (by exact rfl) (by assumption) (by assumption)) ?_
         refine wD_quiet rfl rfl rfl (by exact rfl) (by exact rfl) (by exact rfl) (a_num (by exact rfl) (by exact rfl) (by exact m_geqT (by omega))) ?_;refine qM ?_;refine qF ?_
         refine qL ?_
         refine qM ?_;refine qM ?_;refine wD_quiet rfl rfl rfl (by exact rfl) (by exact rfl) (by exact rfl) (a_iaddrS (by exact rfl) (by exact rfl) (by omega)) ?_
         refine wD_quiet rfl rfl rfl (by exact rfl) (by exact rfl) (by exact rfl) (a_iaddrA (i:=1) (by exact rfl) (by exact rfl) (by omega)) ?_;refine wD_quiet rfl rfl rfl (by exact rfl) (by exact rfl) (by exact rfl) (a_load (by exact rfl) (by assumption) (by assumption)) ?_
         refine wD_quiet rfl rfl rfl (by exact rfl) (by exact rfl) (by exact rfl) (a_num (by exact rfl) (by exact rfl) (by exact m_geqF (by omega))) ?_;refine wD_quiet rfl rfl rfl (by exact rfl) (by exact rfl) (by exact rfl) (a_pickT (by exact rfl) (by exact rfl)) ?_;refine qM ?_
         refine qF ?_
         refine qL ?_
         refine qM ?_;refine wD_off rfl rfl rfl (by exact rfl) ?_;refine wD_off rfl rfl rfl (by exact rfl) ?_;refine wD_off rfl rfl rfl (by exact rfl) ?_;refine wD_off rfl rfl rfl (by exact rfl) ?_;refine wD_off rfl rfl rfl (by exact rfl) ?_;refine wD_off rfl rfl rfl (by exact rfl) ?_
         refine wD_off rfl rfl rfl (by exact rfl) ?_;refine wD_off rfl rfl rfl (by exact rfl) ?_;refine wD_quiet rfl rfl rfl (by exact rfl) (by exact rfl) (by exact rfl) (a_pickF (by exact rfl) (by exact rfl)) ?_;refine qM ?_;refine wD_off rfl rfl rfl (by exact rfl) ?_;refine wD_off rfl rfl rfl (by exact rfl) ?_
         refine wD_off rfl rfl rfl (by exact rfl) ?_;refine wD_off rfl rfl rfl (by exact rfl) ?_;refine wD_off rfl rfl rfl (by exact rfl) ?_;refine wD_off rfl rfl rfl (by exact rfl) ?_;refine wD_off rfl rfl rfl (by exact rfl) ?_;refine wD_off rfl rfl rfl (by exact rfl) ?_;refine wD_quiet rfl rfl rfl (by exact rfl) (by exact rfl) (by exact rfl) (a_pickF (by exact rfl) (by exact rfl)) ?_
         refine wD_quiet rfl rfl rfl (by exact rfl) (by exact rfl) (by exact rfl) (a_pickF (by exact rfl) (by exact rfl)) ?_;refine qM ?_;refine wD_nil ?_;refine y1 ?_
         exact⟨rfl,rfl,rfl,rfl⟩
        |true=>
         by_cases c3:D1≤kh
         ·by_cases c4:D2≤kw
          ·rw[dT (.inr ⟨rfl,c3,c4⟩)]
           refine wE_draw ?_;refine qF ?_
           refine qL ?_
           refine qM ?_;refine qM ?_;refine wD_quiet rfl rfl rfl (by exact rfl) (by exact rfl) (by exact rfl) (a_iaddrS (by exact rfl) (by exact rfl) (by omega)) ?_
           refine wD_quiet rfl rfl rfl (by exact rfl) (by exact rfl) (by exact rfl) (a_iaddrA (i:=0) (by exact rfl) (by exact rfl) (by omega)) ?_;refine wD_quiet rfl rfl rfl (by exact rfl) (by exact rfl) (by exact rfl) (a_load (by exact rfl) (by assumption) (by assumption)) ?_
           refine wD_quiet rfl rfl rfl (by exact rfl) (by exact rfl) (by exact rfl) (a_num (by exact rfl) (by exact rfl) (by exact m_geqT (by omega))) ?_;refine qM ?_;refine qF ?_
           refine qL ?_
           refine qM ?_;refine qM ?_;refine wD_quiet rfl rfl rfl (by exact rfl) (by exact rfl) (by exact rfl) (a_iaddrS (by exact rfl) (by exact rfl) (by omega)) ?_
           refine wD_quiet rfl rfl rfl (by exact rfl) (by exact rfl) (by exact rfl) (a_iaddrA (i:=1) (by exact rfl) (by exact rfl) (by omega)) ?_;refine wD_quiet rfl rfl rfl (by exact rfl) (by exact rfl) (by exact rfl) (a_load (by exact rfl) (by assumption) (by assumption)) ?_
           refine wD_quiet rfl rfl rfl (by exact rfl) (by exact rfl) (by exact rfl) (a_num (by exact rfl) (by exact rfl) (by exact m_geqF (by omega))) ?_;refine wD_quiet rfl rfl rfl (by exact rfl) (by exact rfl) (by exact rfl) (a_pickT (by exact rfl) (by exact rfl)) ?_;refine qM ?_
           refine qF ?_
           refine qL ?_
           refine qM ?_;refine qF ?_
           refine qL ?_
           refine qM ?_;refine qM ?_;refine wD_quiet rfl rfl rfl (by exact rfl) (by exact rfl) (by exact rfl) (a_iaddrS (by exact rfl) (by exact rfl) (by omega)) ?_
           refine wD_quiet rfl rfl rfl (by exact rfl) (by exact rfl) (by exact rfl) (a_iaddrA (i:=0) (by exact rfl) (by exact rfl) (by omega)) ?_;refine wD_quiet rfl rfl rfl (by exact rfl) (by exact rfl) (by exact rfl) (a_load (by exact rfl) (by assumption) (by assumption)) ?_
           refine wD_quiet rfl rfl rfl (by exact rfl) (by exact rfl) (by exact rfl) (a_num (by exact rfl) (by exact rfl) (by exact m_geqT (by omega))) ?_;refine wD_quiet rfl rfl rfl (by exact rfl) (by exact rfl) (by exact rfl) (a_pickT (by exact rfl) (by exact rfl)) ?_;refine qM ?_
           refine qF ?_
           refine qL ?_
           refine qM ?_;refine qM ?_;refine wD_quiet rfl rfl rfl (by exact rfl) (by exact rfl) (by exact rfl) (a_iaddrS (by exact rfl) (by exact rfl) (by omega)) ?_
           refine wD_quiet rfl rfl rfl (by exact rfl) (by exact rfl) (by exact rfl) (a_iaddrA (i:=1) (by exact rfl) (by exact rfl) (by omega)) ?_;refine wD_quiet rfl rfl rfl (by exact rfl) (by exact rfl) (by exact rfl) (a_load (by exact rfl) (by assumption) (by assumption)) ?_
           refine wD_quiet rfl rfl rfl (by exact rfl) (by exact rfl) (by exact rfl) (a_num (by exact rfl) (by exact rfl) (by exact m_geqT (by omega))) ?_;refine wD_quiet rfl rfl rfl (by exact rfl) (by exact rfl) (by exact rfl) (a_pickT (by exact rfl) (by exact rfl)) ?_;refine wD_quiet rfl rfl rfl (by exact rfl) (by exact rfl) (by exact rfl) (a_pickF (by exact rfl) (by exact rfl)) ?_
           refine qM ?_;refine wD_nil ?_;refine y1 ?_
           exact⟨rfl,rfl,rfl,rfl⟩
          ·rw[dF (by simp;omega)]
           refine wE_draw ?_;refine qF ?_
           refine qL ?_
           refine qM ?_;refine qM ?_;refine wD_quiet rfl rfl rfl (by exact rfl) (by exact rfl) (by exact rfl) (a_iaddrS (by exact rfl) (by exact rfl) (by omega)) ?_
           refine wD_quiet rfl rfl rfl (by exact rfl) (by exact rfl) (by exact rfl) (a_iaddrA (i:=0) (by exact rfl) (by exact rfl) (by omega)) ?_;refine wD_quiet rfl rfl rfl (by exact rfl) (by exact rfl) (by exact rfl) (a_load (by exact rfl) (by assumption) (by assumption)) ?_
           refine wD_quiet rfl rfl rfl (by exact rfl) (by exact rfl) (by exact rfl) (a_num (by exact rfl) (by exact rfl) (by exact m_geqT (by omega))) ?_;refine qM ?_;refine qF ?_
           refine qL ?_
           refine qM ?_;refine qM ?_;refine wD_quiet rfl rfl rfl (by exact rfl) (by exact rfl) (by exact rfl) (a_iaddrS (by exact rfl) (by exact rfl) (by omega)) ?_
           refine wD_quiet rfl rfl rfl (by exact rfl) (by exact rfl) (by exact rfl) (a_iaddrA (i:=1) (by exact rfl) (by exact rfl) (by omega)) ?_;refine wD_quiet rfl rfl rfl (by exact rfl) (by exact rfl) (by exact rfl) (a_load (by exact rfl) (by assumption) (by assumption)) ?_
           refine wD_quiet rfl rfl rfl (by exact rfl) (by exact rfl) (by exact rfl) (a_num (by exact rfl) (by exact rfl) (by exact m_geqF (by omega))) ?_;refine wD_quiet rfl rfl rfl (by exact rfl) (by exact rfl) (by exact rfl) (a_pickT (by exact rfl) (by exact rfl)) ?_;refine qM ?_
           refine qF ?_
           refine qL ?_
           refine qM ?_;refine qF ?_
           refine qL ?_
           refine qM ?_;refine qM ?_;refine wD_quiet rfl rfl rfl (by exact rfl) (by exact rfl) (by exact rfl) (a_iaddrS (by exact rfl) (by exact rfl) (by omega)) ?_
           refine wD_quiet rfl rfl rfl (by exact rfl) (by exact rfl) (by exact rfl) (a_iaddrA (i:=0) (by exact rfl) (by exact rfl) (by omega)) ?_;refine wD_quiet rfl rfl rfl (by exact rfl) (by exact rfl) (by exact rfl) (a_load (by exact rfl) (by assumption) (by assumption)) ?_
           refine wD_quiet rfl rfl rfl (by exact rfl) (by exact rfl) (by exact rfl) (a_num (by exact rfl) (by exact rfl) (by exact m_geqT (by omega))) ?_;refine wD_quiet rfl rfl rfl (by exact rfl) (by exact rfl) (by exact rfl) (a_pickT (by exact rfl) (by exact rfl)) ?_;refine qM ?_
           refine qF ?_
           refine qL ?_
           refine qM ?_;refine qM ?_;refine wD_quiet rfl rfl rfl (by exact rfl) (by exact rfl) (by exact rfl) (a_iaddrS (by exact rfl) (by exact rfl) (by omega)) ?_
           refine wD_quiet rfl rfl rfl (by exact rfl) (by exact rfl) (by exact rfl) (a_iaddrA (i:=1) (by exact rfl) (by exact rfl) (by omega)) ?_;refine wD_quiet rfl rfl rfl (by exact rfl) (by exact rfl) (by exact rfl) (a_load (by exact rfl) (by assumption) (by assumption)) ?_
           refine wD_quiet rfl rfl rfl (by exact rfl) (by exact rfl) (by exact rfl) (a_num (by exact rfl) (by exact rfl) (by exact m_geqF (by omega))) ?_;refine wD_quiet rfl rfl rfl (by exact rfl) (by exact rfl) (by exact rfl) (a_pickT (by exact rfl) (by exact rfl)) ?_;refine wD_quiet rfl rfl rfl (by exact rfl) (by exact rfl) (by exact rfl) (a_pickF (by exact rfl) (by exact rfl)) ?_
           refine qM ?_;refine wD_nil ?_;refine y1 ?_
           exact⟨rfl,rfl,rfl,rfl⟩
         ·rw[dF (by simp;omega)]
          refine wE_draw ?_;refine qF ?_
          refine qL ?_
          refine qM ?_;refine qM ?_;refine wD_quiet rfl rfl rfl (by exact rfl) (by exact rfl) (by exact rfl) (a_iaddrS (by exact rfl) (by exact rfl) (by omega)) ?_
          refine wD_quiet rfl rfl rfl (by exact rfl) (by exact rfl) (by exact rfl) (a_iaddrA (i:=0) (by exact rfl) (by exact rfl) (by omega)) ?_;refine wD_quiet rfl rfl rfl (by exact rfl) (by exact rfl) (by exact rfl) (a_load (by exact rfl) (by assumption) (by assumption)) ?_
          refine wD_quiet rfl rfl rfl (by exact rfl) (by exact rfl) (by exact rfl) (a_num (by exact rfl) (by exact rfl) (by exact m_geqT (by omega))) ?_;refine qM ?_;refine qF ?_
          refine qL ?_
          refine qM ?_;refine qM ?_;refine wD_quiet rfl rfl rfl (by exact rfl) (by exact rfl) (by exact rfl) (a_iaddrS (by exact rfl) (by exact rfl) (by omega)) ?_
          refine wD_quiet rfl rfl rfl (by exact rfl) (by exact rfl) (by exact rfl) (a_iaddrA (i:=1) (by exact rfl) (by exact rfl) (by omega)) ?_;refine wD_quiet rfl rfl rfl (by exact rfl) (by exact rfl) (by exact rfl) (a_load (by exact rfl) (by assumption) (by assumption)) ?_
          refine wD_quiet rfl rfl rfl (by exact rfl) (by exact rfl) (by exact rfl) (a_num (by exact rfl) (by exact rfl) (by exact m_geqF (by omega))) ?_;refine wD_quiet rfl rfl rfl (by exact rfl) (by exact rfl) (by exact rfl) (a_pickT (by exact rfl) (by exact rfl)) ?_;refine qM ?_
          refine qF ?_
          refine qL ?_
          refine qM ?_;refine qF ?_
          refine qL ?_
          refine qM ?_;refine qM ?_;refine wD_quiet rfl rfl rfl (by exact rfl) (by exact rfl) (by exact rfl) (a_iaddrS (by exact rfl) (by exact rfl) (by omega)) ?_
          refine wD_quiet rfl rfl rfl (by exact rfl) (by exact rfl) (by exact rfl) (a_iaddrA (i:=0) (by exact rfl) (by exact rfl) (by omega)) ?_;refine wD_quiet rfl rfl rfl (by exact rfl) (by exact rfl) (by exact rfl) (a_load (by exact rfl) (by assumption) (by assumption)) ?_
          refine wD_quiet rfl rfl rfl (by exact rfl) (by exact rfl) (by exact rfl) (a_num (by exact rfl) (by exact rfl) (by exact m_geqF (by omega))) ?_;refine wD_quiet rfl rfl rfl (by exact rfl) (by exact rfl) (by exact rfl) (a_pickT (by exact rfl) (by exact rfl)) ?_;refine qM ?_
          refine wD_off rfl rfl rfl (by exact rfl) ?_;refine wD_off rfl rfl rfl (by exact rfl) ?_;refine wD_off rfl rfl rfl (by exact rfl) ?_;refine wD_off rfl rfl rfl (by exact rfl) ?_;refine wD_off rfl rfl rfl (by exact rfl) ?_;refine wD_off rfl rfl rfl (by exact rfl) ?_;refine wD_off rfl rfl rfl (by exact rfl) ?_;refine wD_off rfl rfl rfl (by exact rfl) ?_
          refine wD_quiet rfl rfl rfl (by exact rfl) (by exact rfl) (by exact rfl) (a_pickF (by exact rfl) (by exact rfl)) ?_;refine wD_quiet rfl rfl rfl (by exact rfl) (by exact rfl) (by exact rfl) (a_pickF (by exact rfl) (by exact rfl)) ?_;refine qM ?_;refine wD_nil ?_
          refine y1 ?_
          exact⟨rfl,rfl,rfl,rfl⟩
      ·cases tu with
       |false=>
        rw[dF (by simp;omega)]
        refine wE_draw ?_;refine qF ?_
        refine qL ?_
        refine qM ?_;refine qM ?_;refine wD_quiet rfl rfl rfl (by exact rfl) (by exact rfl) (by exact rfl) (a_iaddrS (by exact rfl) (by exact rfl) (by omega)) ?_
        refine wD_quiet rfl rfl rfl (by exact rfl) (by exact rfl) (by exact rfl) (a_iaddrA (i:=0) (by exact rfl) (by exact rfl) (by omega)) ?_;refine wD_quiet rfl rfl rfl (by exact rfl) (by exact rfl) (by exact rfl) (a_load (by exact rfl) (by assumption) (by assumption)) ?_
        refine wD_quiet rfl rfl rfl (by exact rfl) (by exact rfl) (by exact rfl) (a_num (by exact rfl) (by exact rfl) (by exact m_geqF (by omega))) ?_;refine qM ?_;refine wD_off rfl rfl rfl (by exact rfl) ?_;refine wD_off rfl rfl rfl (by exact rfl) ?_;refine wD_off rfl rfl rfl (by exact rfl) ?_
        refine wD_off rfl rfl rfl (by exact rfl) ?_;refine wD_off rfl rfl rfl (by exact rfl) ?_;refine wD_off rfl rfl rfl (by exact rfl) ?_;refine wD_off rfl rfl rfl (by exact rfl) ?_;refine wD_off rfl rfl rfl (by exact rfl) ?_;refine wD_quiet rfl rfl rfl (by exact rfl) (by exact rfl) (by exact rfl) (a_pickF (by exact rfl) (by exact rfl)) ?_
        refine qM ?_;refine qF ?_
        refine qL ?_
        refine qM ?_;refine wD_off rfl rfl rfl (by exact rfl) ?_;refine wD_off rfl rfl rfl (by exact rfl) ?_;refine wD_off rfl rfl rfl (by exact rfl) ?_;refine wD_off rfl rfl rfl (by exact rfl) ?_;refine wD_off rfl rfl rfl (by exact rfl) ?_;refine wD_off rfl rfl rfl (by exact rfl) ?_
        refine wD_off rfl rfl rfl (by exact rfl) ?_;refine wD_off rfl rfl rfl (by exact rfl) ?_;refine wD_quiet rfl rfl rfl (by exact rfl) (by exact rfl) (by exact rfl) (a_pickF (by exact rfl) (by exact rfl)) ?_;refine qM ?_;refine wD_off rfl rfl rfl (by exact rfl) ?_;refine wD_off rfl rfl rfl (by exact rfl) ?_
        refine wD_off rfl rfl rfl (by exact rfl) ?_;refine wD_off rfl rfl rfl (by exact rfl) ?_;refine wD_off rfl rfl rfl (by exact rfl) ?_;refine wD_off rfl rfl rfl (by exact rfl) ?_;refine wD_off rfl rfl rfl (by exact rfl) ?_;refine wD_off rfl rfl rfl (by exact rfl) ?_;refine wD_quiet rfl rfl rfl (by exact rfl) (by exact rfl) (by exact rfl) (a_pickF (by exact rfl) (by exact rfl)) ?_
        refine wD_quiet rfl rfl rfl (by exact rfl) (by exact rfl) (by exact rfl) (a_pickF (by exact rfl) (by exact rfl)) ?_;refine qM ?_;refine wD_nil ?_;refine y1 ?_
        exact⟨rfl,rfl,rfl,rfl⟩
       |true=>
        by_cases c3:D1≤kh
        ·by_cases c4:D2≤kw
         ·rw[dT (.inr ⟨rfl,c3,c4⟩)]
          refine wE_draw ?_;refine qF ?_
          refine qL ?_
          refine qM ?_;refine qM ?_;refine wD_quiet rfl rfl rfl (by exact rfl) (by exact rfl) (by exact rfl) (a_iaddrS (by exact rfl) (by exact rfl) (by omega)) ?_
          refine wD_quiet rfl rfl rfl (by exact rfl) (by exact rfl) (by exact rfl) (a_iaddrA (i:=0) (by exact rfl) (by exact rfl) (by omega)) ?_;refine wD_quiet rfl rfl rfl (by exact rfl) (by exact rfl) (by exact rfl) (a_load (by exact rfl) (by assumption) (by assumption)) ?_
          refine wD_quiet rfl rfl rfl (by exact rfl) (by exact rfl) (by exact rfl) (a_num (by exact rfl) (by exact rfl) (by exact m_geqF (by omega))) ?_;refine qM ?_;refine wD_off rfl rfl rfl (by exact rfl) ?_;refine wD_off rfl rfl rfl (by exact rfl) ?_;refine wD_off rfl rfl rfl (by exact rfl) ?_
          refine wD_off rfl rfl rfl (by exact rfl) ?_;refine wD_off rfl rfl rfl (by exact rfl) ?_;refine wD_off rfl rfl rfl (by exact rfl) ?_;refine wD_off rfl rfl rfl (by exact rfl) ?_;refine wD_off rfl rfl rfl (by exact rfl) ?_;refine wD_quiet rfl rfl rfl (by exact rfl) (by exact rfl) (by exact rfl) (a_pickF (by exact rfl) (by exact rfl)) ?_
          refine qM ?_;refine qF ?_
          refine qL ?_
          refine qM ?_;refine qF ?_
          refine qL ?_
          refine qM ?_;refine qM ?_;refine wD_quiet rfl rfl rfl (by exact rfl) (by exact rfl) (by exact rfl) (a_iaddrS (by exact rfl) (by exact rfl) (by omega)) ?_
          refine wD_quiet rfl rfl rfl (by exact rfl) (by exact rfl) (by exact rfl) (a_iaddrA (i:=0) (by exact rfl) (by exact rfl) (by omega)) ?_;refine wD_quiet rfl rfl rfl (by exact rfl) (by exact rfl) (by exact rfl) (a_load (by exact rfl) (by assumption) (by assumption)) ?_
          refine wD_quiet rfl rfl rfl (by exact rfl) (by exact rfl) (by exact rfl) (a_num (by exact rfl) (by exact rfl) (by exact m_geqT (by omega))) ?_;refine wD_quiet rfl rfl rfl (by exact rfl) (by exact rfl) (by exact rfl) (a_pickT (by exact rfl) (by exact rfl)) ?_;refine qM ?_
          refine qF ?_
          refine qL ?_
          refine qM ?_;refine qM ?_;refine wD_quiet rfl rfl rfl (by exact rfl) (by exact rfl) (by exact rfl) (a_iaddrS (by exact rfl) (by exact rfl) (by omega)) ?_
          refine wD_quiet rfl rfl rfl (by exact rfl) (by exact rfl) (by exact rfl) (a_iaddrA (i:=1) (by exact rfl) (by exact rfl) (by omega)) ?_;refine wD_quiet rfl rfl rfl (by exact rfl) (by exact rfl) (by exact rfl) (a_load (by exact rfl) (by assumption) (by assumption)) ?_
          refine wD_quiet rfl rfl rfl (by exact rfl) (by exact rfl) (by exact rfl) (a_num (by exact rfl) (by exact rfl) (by exact m_geqT (by omega))) ?_;refine wD_quiet rfl rfl rfl (by exact rfl) (by exact rfl) (by exact rfl) (a_pickT (by exact rfl) (by exact rfl)) ?_;refine wD_quiet rfl rfl rfl (by exact rfl) (by exact rfl) (by exact rfl) (a_pickF (by exact rfl) (by exact rfl)) ?_
          refine qM ?_;refine wD_nil ?_;refine y1 ?_
          exact⟨rfl,rfl,rfl,rfl⟩
         ·rw[dF (by simp;omega)]
          refine wE_draw ?_;refine qF ?_
          refine qL ?_
          refine qM ?_;refine qM ?_;refine wD_quiet rfl rfl rfl (by exact rfl) (by exact rfl) (by exact rfl) (a_iaddrS (by exact rfl) (by exact rfl) (by omega)) ?_
          refine wD_quiet rfl rfl rfl (by exact rfl) (by exact rfl) (by exact rfl) (a_iaddrA (i:=0) (by exact rfl) (by exact rfl) (by omega)) ?_;refine wD_quiet rfl rfl rfl (by exact rfl) (by exact rfl) (by exact rfl) (a_load (by exact rfl) (by assumption) (by assumption)) ?_
          refine wD_quiet rfl rfl rfl (by exact rfl) (by exact rfl) (by exact rfl) (a_num (by exact rfl) (by exact rfl) (by exact m_geqF (by omega))) ?_;refine qM ?_;refine wD_off rfl rfl rfl (by exact rfl) ?_;refine wD_off rfl rfl rfl (by exact rfl) ?_;refine wD_off rfl rfl rfl (by exact rfl) ?_
          refine wD_off rfl rfl rfl (by exact rfl) ?_;refine wD_off rfl rfl rfl (by exact rfl) ?_;refine wD_off rfl rfl rfl (by exact rfl) ?_;refine wD_off rfl rfl rfl (by exact rfl) ?_;refine wD_off rfl rfl rfl (by exact rfl) ?_;refine wD_quiet rfl rfl rfl (by exact rfl) (by exact rfl) (by exact rfl) (a_pickF (by exact rfl) (by exact rfl)) ?_
          refine qM ?_;refine qF ?_
          refine qL ?_
          refine qM ?_;refine qF ?_
          refine qL ?_
          refine qM ?_;refine qM ?_;refine wD_quiet rfl rfl rfl (by exact rfl) (by exact rfl) (by exact rfl) (a_iaddrS (by exact rfl) (by exact rfl) (by omega)) ?_
          refine wD_quiet rfl rfl rfl (by exact rfl) (by exact rfl) (by exact rfl) (a_iaddrA (i:=0) (by exact rfl) (by exact rfl) (by omega)) ?_;refine wD_quiet rfl rfl rfl (by exact rfl) (by exact rfl) (by exact rfl) (a_load (by exact rfl) (by assumption) (by assumption)) ?_
          refine wD_quiet rfl rfl rfl (by exact rfl) (by exact rfl) (by exact rfl) (a_num (by exact rfl) (by exact rfl) (by exact m_geqT (by omega))) ?_;refine wD_quiet rfl rfl rfl (by exact rfl) (by exact rfl) (by exact rfl) (a_pickT (by exact rfl) (by exact rfl)) ?_;refine qM ?_
          refine qF ?_
          refine qL ?_
          refine qM ?_;refine qM ?_;refine wD_quiet rfl rfl rfl (by exact rfl) (by exact rfl) (by exact rfl) (a_iaddrS (by exact rfl) (by exact rfl) (by omega)) ?_
          refine wD_quiet rfl rfl rfl (by exact rfl) (by exact rfl) (by exact rfl) (a_iaddrA (i:=1) (by exact rfl) (by exact rfl) (by omega)) ?_;refine wD_quiet rfl rfl rfl (by exact rfl) (by exact rfl) (by exact rfl) (a_load (by exact rfl) (by assumption) (by assumption)) ?_
          refine wD_quiet rfl rfl rfl (by exact rfl) (by exact rfl) (by exact rfl) (a_num (by exact rfl) (by exact rfl) (by exact m_geqF (by omega))) ?_;refine wD_quiet rfl rfl rfl (by exact rfl) (by exact rfl) (by exact rfl) (a_pickT (by exact rfl) (by exact rfl)) ?_;refine wD_quiet rfl rfl rfl (by exact rfl) (by exact rfl) (by exact rfl) (a_pickF (by exact rfl) (by exact rfl)) ?_
          refine qM ?_;refine wD_nil ?_;refine y1 ?_
          exact⟨rfl,rfl,rfl,rfl⟩
        ·rw[dF (by simp;omega)]
         refine wE_draw ?_;refine qF ?_
         refine qL ?_
         refine qM ?_;refine qM ?_;refine wD_quiet rfl rfl rfl (by exact rfl) (by exact rfl) (by exact rfl) (a_iaddrS (by exact rfl) (by exact rfl) (by omega)) ?_
         refine wD_quiet rfl rfl rfl (by exact rfl) (by exact rfl) (by exact rfl) (a_iaddrA (i:=0) (by exact rfl) (by exact rfl) (by omega)) ?_;refine wD_quiet rfl rfl rfl (by exact rfl) (by exact rfl) (by exact rfl) (a_load (by exact rfl) (by assumption) (by assumption)) ?_
         refine wD_quiet rfl rfl rfl (by exact rfl) (by exact rfl) (by exact rfl) (a_num (by exact rfl) (by exact rfl) (by exact m_geqF (by omega))) ?_;refine qM ?_;refine wD_off rfl rfl rfl (by exact rfl) ?_;refine wD_off rfl rfl rfl (by exact rfl) ?_;refine wD_off rfl rfl rfl (by exact rfl) ?_
         refine wD_off rfl rfl rfl (by exact rfl) ?_;refine wD_off rfl rfl rfl (by exact rfl) ?_;refine wD_off rfl rfl rfl (by exact rfl) ?_;refine wD_off rfl rfl rfl (by exact rfl) ?_;refine wD_off rfl rfl rfl (by exact rfl) ?_;refine wD_quiet rfl rfl rfl (by exact rfl) (by exact rfl) (by exact rfl) (a_pickF (by exact rfl) (by exact rfl)) ?_
         refine qM ?_;refine qF ?_
         refine qL ?_
         refine qM ?_;refine qF ?_
         refine qL ?_
         refine qM ?_;refine qM ?_;refine wD_quiet rfl rfl rfl (by exact rfl) (by exact rfl) (by exact rfl) (a_iaddrS (by exact rfl) (by exact rfl) (by omega)) ?_
         refine wD_quiet rfl rfl rfl (by exact rfl) (by exact rfl) (by exact rfl) (a_iaddrA (i:=0) (by exact rfl) (by exact rfl) (by omega)) ?_;refine wD_quiet rfl rfl rfl (by exact rfl) (by exact rfl) (by exact rfl) (a_load (by exact rfl) (by assumption) (by assumption)) ?_
         refine wD_quiet rfl rfl rfl (by exact rfl) (by exact rfl) (by exact rfl) (a_num (by exact rfl) (by exact rfl) (by exact m_geqF (by omega))) ?_;refine wD_quiet rfl rfl rfl (by exact rfl) (by exact rfl) (by exact rfl) (a_pickT (by exact rfl) (by exact rfl)) ?_;refine qM ?_
         refine wD_off rfl rfl rfl (by exact rfl) ?_;refine wD_off rfl rfl rfl (by exact rfl) ?_;refine wD_off rfl rfl rfl (by exact rfl) ?_;refine wD_off rfl rfl rfl (by exact rfl) ?_;refine wD_off rfl rfl rfl (by exact rfl) ?_;refine wD_off rfl rfl rfl (by exact rfl) ?_;refine wD_off rfl rfl rfl (by exact rfl) ?_;refine wD_off rfl rfl rfl (by exact rfl) ?_
         refine wD_quiet rfl rfl rfl (by exact rfl) (by exact rfl) (by exact rfl) (a_pickF (by exact rfl) (by exact rfl)) ?_;refine wD_quiet rfl rfl rfl (by exact rfl) (by exact rfl) (by exact rfl) (a_pickF (by exact rfl) (by exact rfl)) ?_;refine qM ?_;refine wD_nil ?_
         refine y1 ?_
         exact⟨rfl,rfl,rfl,rfl⟩
     clear g1 ex ey dT dF
     by_cases hL:Large ⟨id,kw,kh,kwo,tu⟩ D1 D2
     ·rw[decide_eq_true hL]
      by_cases hneg:found l D1 D2 j<0
      ·rw[if_pos ⟨hL, .inl hneg⟩]at hfs
       refine wE_seq ?_;refine wE_draw ?_;refine qM ?_;refine qM ?_;refine qM ?_
       refine wD_quiet rfl rfl rfl (by exact rfl) (by exact rfl) (by exact rfl) (a_num (by exact rfl) (by exact rfl) (by exact m_geqT (by omega))) ?_;refine qM ?_;refine wD_off rfl rfl rfl (by exact rfl) ?_;refine wD_off rfl rfl rfl (by exact rfl) ?_;refine wD_off rfl rfl rfl (by exact rfl) ?_
       refine wD_off rfl rfl rfl (by exact rfl) ?_;refine wD_off rfl rfl rfl (by exact rfl) ?_;refine wD_off rfl rfl rfl (by exact rfl) ?_;refine wD_off rfl rfl rfl (by exact rfl) ?_;refine wD_off rfl rfl rfl (by exact rfl) ?_;refine wD_off rfl rfl rfl (by exact rfl) ?_;refine wD_quiet rfl rfl rfl (by exact rfl) (by exact rfl) (by exact rfl) (a_pickT (by exact rfl) (by exact rfl)) ?_
       refine wD_quiet rfl rfl rfl (by exact rfl) (by exact rfl) (by exact rfl) (a_pickT (by exact rfl) (by exact rfl)) ?_;refine wD_nil ?_;refine y1 ?_;refine kS_n ?_;refine yY ?_;refine wE_region ?_;refine yM ?_;refine yM ?_
       refine wO_nil ?_;refine y1 ?_;refine kB_n ?_;refine kS_n ?_;refine wE_region ?_;refine yM ?_;refine yinc ?_;refine yM ?_;refine y3 ?_
       exact⟨l.length-(j+1),by omega,j+1,by omega,rfl,by rw[hfs],rfl,hx6⟩
      ·generalize hfd:found l D1 D2 j=fd at*
       obtain⟨f,rfl⟩:=Int.eq_ofNat_of_zero_le (show 0≤fd by omega)
       have hfl:f<l.length:=by omega
       obtain⟨kf,hkf⟩:∃kf,l[f]? =some kf:=⟨l[f],List.getElem?_eq_getElem hfl⟩
       have hwf:wAt l (f:Int)=kf.worth:=by rw[wAt,Int.toNat_natCast,hkf]
       rw[hwf]at hfs
       obtain⟨vf,ownf,tf,gf1,gf2⟩:=slice_elem (sk.ext hx6') hkf
       have e0:lget vf (ko+f*5+3)=some (.int .i64 kf.worth):=elem_get gf2 3 (by omega)
       clear hfd hwf
       by_cases hw:kwo<kf.worth
       ·rw[if_pos ⟨hL, .inr hw⟩]at hfs
        refine wE_seq ?_;refine wE_draw ?_;refine qM ?_;refine qM ?_;refine qM ?_
        refine wD_quiet rfl rfl rfl (by exact rfl) (by exact rfl) (by exact rfl) (a_num (by exact rfl) (by exact rfl) (by exact m_geqF (by omega))) ?_;refine qM ?_;refine qF ?_
        refine qL ?_
        refine qF ?_
        refine qL ?_
        refine qM ?_;refine wD_quiet rfl rfl rfl (by exact rfl) (by exact rfl) (by exact rfl) (a_iaddrS (by exact rfl) (by exact rfl) (by omega)) ?_;refine qF ?_
        refine wD_quiet rfl rfl rfl (by exact rfl) (by exact rfl) (by exact rfl) (a_load (by exact rfl) (by assumption) (by assumption)) ?_;refine wD_quiet rfl rfl rfl (by exact rfl) (by exact rfl) (by exact rfl) (a_num (by exact rfl) (by exact rfl) (by exact m_geqT (by omega))) ?_;refine wD_quiet rfl rfl rfl (by exact rfl) (by exact rfl) (by exact rfl) (a_pickF (by exact rfl) (by exact rfl)) ?_
        refine wD_quiet rfl rfl rfl (by exact rfl) (by exact rfl) (by exact rfl) (a_pickT (by exact rfl) (by exact rfl)) ?_;refine wD_nil ?_;refine y1 ?_;refine kS_n ?_;refine yY ?_;refine wE_region ?_;refine yM ?_;refine yM ?_
        refine wO_nil ?_;refine y1 ?_;refine kB_n ?_;refine kS_n ?_;refine wE_region ?_;refine yM ?_;refine yinc ?_;refine yM ?_;refine y3 ?_
        exact⟨l.length-(j+1),by omega,j+1,by omega,rfl,by rw[hfs],rfl,hx6⟩
       ·rw[if_neg (fun q=>q.2.elim hneg hw)]at hfs
        refine wE_seq ?_;refine wE_draw ?_;refine qM ?_;refine qM ?_;refine qM ?_
        refine wD_quiet rfl rfl rfl (by exact rfl) (by exact rfl) (by exact rfl) (a_num (by exact rfl) (by exact rfl) (by exact m_geqF (by omega))) ?_;refine qM ?_;refine qF ?_
        refine qL ?_
        refine qF ?_
        refine qL ?_
        refine qM ?_;refine wD_quiet rfl rfl rfl (by exact rfl) (by exact rfl) (by exact rfl) (a_iaddrS (by exact rfl) (by exact rfl) (by omega)) ?_;refine qF ?_
        refine wD_quiet rfl rfl rfl (by exact rfl) (by exact rfl) (by exact rfl) (a_load (by exact rfl) (by assumption) (by assumption)) ?_;refine wD_quiet rfl rfl rfl (by exact rfl) (by exact rfl) (by exact rfl) (a_num (by exact rfl) (by exact rfl) (by exact m_geqF (by omega))) ?_;refine wD_quiet rfl rfl rfl (by exact rfl) (by exact rfl) (by exact rfl) (a_pickF (by exact rfl) (by exact rfl)) ?_
        refine wD_quiet rfl rfl rfl (by exact rfl) (by exact rfl) (by exact rfl) (a_pickT (by exact rfl) (by exact rfl)) ?_;refine wD_nil ?_;refine y1 ?_;refine kS_n ?_;refine yX ?_;refine wE_skip ?_;refine kB_n ?_;refine kS_n ?_;refine wE_region ?_;refine yM ?_
        refine yinc ?_;refine yM ?_;refine y3 ?_
        exact⟨l.length-(j+1),by omega,j+1,by omega,rfl,by rw[hfs],rfl,hx6⟩
     ·rw[decide_eq_false hL]
      rw[if_neg (fun q=>hL q.1)]at hfs
      refine wE_seq ?_;refine wE_draw ?_;refine qM ?_;refine qM ?_;refine wD_off rfl rfl rfl (by exact rfl) ?_;refine wD_off rfl rfl rfl (by exact rfl) ?_;refine wD_off rfl rfl rfl (by exact rfl) ?_
      refine wD_off rfl rfl rfl (by exact rfl) ?_;refine wD_off rfl rfl rfl (by exact rfl) ?_;refine wD_off rfl rfl rfl (by exact rfl) ?_;refine wD_off rfl rfl rfl (by exact rfl) ?_;refine wD_off rfl rfl rfl (by exact rfl) ?_;refine wD_off rfl rfl rfl (by exact rfl) ?_;refine wD_off rfl rfl rfl (by exact rfl) ?_;refine wD_off rfl rfl rfl (by exact rfl) ?_
      refine wD_off rfl rfl rfl (by exact rfl) ?_;refine wD_off rfl rfl rfl (by exact rfl) ?_;refine wD_quiet rfl rfl rfl (by exact rfl) (by exact rfl) (by exact rfl) (a_pickF (by exact rfl) (by exact rfl)) ?_;refine wD_nil ?_;refine y1 ?_;refine kS_n ?_;refine yX ?_;refine wE_skip ?_
      refine kB_n ?_;refine kS_n ?_;refine wE_region ?_;refine yM ?_;refine yinc ?_;refine yM ?_;refine y3 ?_
      exact⟨l.length-(j+1),by omega,j+1,by omega,rfl,by rw[hfs],rfl,hx6⟩
    ·obtain rfl:j=l.length:=by omega
     rw[←hBdef]at hfb⊢
     by_cases hneg:B<0
     ·have hE1:timE kerf l pl=51:=by rw[hE,if_pos ⟨by omega,hneg⟩]
      refine wE_seq ?_;refine y4 ?_;refine yM ?_;refine yF ?_;refine yL ?_;refine yD ?_;refine yf ?_;refine y3 ?_;refine yX ?_;refine wE_exit ?_;refine kS_e ?_;refine kS_e ?_;refine kB_e ?_;refine kS_n ?_;refine wE_seq ?_;refine y4 ?_;refine yM ?_
      refine yt ?_;refine y3 ?_;refine yY ?_;refine y4 ?_;refine yM ?_;refine yM ?_
      refine yM ?_;refine y3 ?_;refine wE_ret ?_;refine kS_r ?_;refine kB_r ?_;refine kS_r ?_;refine kS_r ?_;refine kB_r ?_;refine kS_r ?_
      refine endA_ret (vs:=[.slice none 0 0, .int .i64 0, .int .i64 51]) ((hx'.trans hx'').log.trans hlg2) rfl ?_
      have t1:timL kerf l pl=[]:=by rw[timL,if_neg (by omega)]
      have t2:timW kerf l pl=0:=by rw[timW,if_neg (by omega)]
      unfold TimQ
      rw[t1,t2,hE1]
      exact⟨none,0,rfl, .nil⟩
     ·obtain⟨va,vc,rfl⟩:∃va vc,v= .slice va i vc:=(own.slice (by omega)).form
      obtain⟨f,rfl⟩:=Int.eq_ofNat_of_zero_le (show 0≤B by omega)
      have hfl:f<l.length:=by omega
      obtain⟨kf,hkf⟩:∃kf,l[f]? =some kf:=⟨l[f],List.getElem?_eq_getElem hfl⟩
      have hwf:wAt l (f:Int)=kf.worth:=by rw[wAt,Int.toNat_natCast,hkf]
      rw[hwf]at hwb hW
      rcases hks2.inv with⟨_,_,h0,_⟩|⟨kb,ko,kcap,hv,sk0,hkcap⟩
      ·omega
      cases hv
      have hx7:=(hx'.trans hx'').push (.cells [.int .i64 f] true 1)
      have kkb:kb<h2.next:=sk0.lt
      clear hBdef
      refine wE_seq ?_;refine y4 ?_;refine yM ?_;refine yF ?_;refine yL ?_;refine yD ?_;refine yf ?_;refine y3 ?_;refine yX ?_;refine wE_exit ?_;refine kS_e ?_;refine kS_e ?_;refine kB_e ?_;refine kS_n ?_;refine wE_seq ?_;refine y4 ?_;refine yM ?_
      refine yf ?_;refine y3 ?_;refine yX ?_;refine wE_skip ?_;refine kS_n ?_;refine y4 ?_;refine yM ?_
      refine yM ?_;refine wO_val (a_bslice (by exact rfl) (by exact rfl)) ?_
      refine wO_app1 (lo:=h2.next) (c1:=[.int .i64 f]) (own.ext (hx''.push (.cells [.int .i64 f] true 1))) (by omega) (by omega) (by omega) hx7.next (by omega) (by exact rfl) (by exact rfl) (src_slice (cs:=[.int .i64 f]) (by(simp(disch:=first|omega|(simp only[z1,z2];omega))only[z3,z4,z5,z6,z7,z1,z2, *];exact rfl)) rfl rfl) (by exact rfl) (by exact rfl) ?_
      intro v' h3 own' hx8
      have g3b:=(hx8.old h.next kb2).trans ((z4 (by omega)).trans gb'')
      have hx9:Ext h2 h3:=((hx7.lx (Nat.le_refl _)).trans hx8).ext
      obtain⟨vf,ownf,tf,gf1,gf2⟩:=slice_elem (sk0.ext hx9) hkf
      have e0:lget vf (ko+f*5+3)=some (.int .i64 kf.worth):=elem_get gf2 3 (by omega)
      clear gb'' gb' gb2 hx8
      refine yM ?_;refine y3 ?_;refine wE_region ?_;refine yM ?_;refine yF ?_;refine yL ?_;refine yM ?_
      refine wO_val (a_iaddrS (by exact rfl) (by exact rfl) (by omega)) ?_;refine yF ?_;refine wO_val (a_load (by exact rfl) (by assumption) (by assumption)) ?_;refine yadd ?_;refine yM ?_;refine wO_nil ?_
      refine y1 ?_;refine kB_n ?_;refine kS_n ?_;refine wE_region ?_;refine yM ?_;refine yinc ?_;refine yM ?_;refine y3 ?_
      refine⟨N-(i+1),by omega,i+1,v',W+kf.worth,by omega,rfl,?_,rfl,rfl,hx9,?_,fun _=>by omega⟩
      ·rw[hwf,hW,Int.natCast_add,Int.add_mul];simp
      ·rw[ints_rep];exact own'
   ·obtain rfl:i=N:=by omega
    have hE0:timE kerf l pl=0:=by rw[hE,if_neg (fun q=>by have:=hi0 (by omega);omega)]
    refine wE_seq ?_;refine y4 ?_;refine yM ?_;refine yM ?_;refine yD ?_;refine yf ?_;refine y3 ?_
    refine yX ?_;refine wE_exit ?_;refine kS_e ?_;refine kS_e ?_;refine kB_e ?_;refine kS_n ?_;refine y4 ?_;refine yM ?_;refine yM ?_;refine yM ?_;refine yM ?_;refine yM ?_;refine y3 ?_;refine wE_ret ?_
    refine endA_ret (vs:=[v, .int .i64 W, .int .i64 0]) (hx'.log.trans hlg2) rfl ?_
    unfold TimQ
    rw[hTL hE0,hTW hE0,hE0,←hW,List.length_replicate]
    have:=own.slice (by omega)
    obtain⟨a1,c1,rfl⟩:=this.form
    exact⟨a1,c1,rfl,this⟩
 ·have ha:asked kerf l (NZ pl)=chk kerf l:=by unfold asked;rw[if_neg hc]
  have hE:timE kerf l pl=chk kerf l:=by rw[timE,ha,if_neg hc]
  have t1:timL kerf l pl=[]:=by rw[timL,if_neg (by omega)]
  have t2:timW kerf l pl=0:=by rw[timW,if_neg (by omega)]
  generalize chk kerf l=ck at*
  refine yM ?_;refine y3 ?_;refine wE_seq ?_;refine y4 ?_;refine yM ?_;refine yf ?_;refine yM ?_
  refine yP ?_;refine yP ?_;refine yP ?_;refine yU ?_;refine y3 ?_;refine yX ?_;refine wE_skip ?_
  refine kS_n ?_;refine wE_seq ?_;refine y4 ?_;refine yM ?_;refine yt ?_;refine y3 ?_;refine yY ?_;refine y4 ?_;refine yM ?_;refine yM ?_;refine yM ?_;refine yM ?_;refine y3 ?_;refine wE_ret ?_;refine kS_r ?_
  refine endA_ret (vs:=[.slice none 0 0, .int .i64 0, .int .i64 ck]) (hx1.log.trans hr.log) rfl ?_
  unfold TimQ
  rw[t1,t2,hE]
  exact⟨none,0,rfl, .nil⟩
end Go.A.Pk
end
section
set_option maxRecDepth 100000
namespace Go.A.Pk
variable {T:Nat→Option AFunc}
set_option maxHeartbeats 4000000 in
theorem sameInts48w(hp:primAS T)(hf:T 48=some f48){h:Heap}(hr:Rdy h){a b:Option Addr}{c d:Nat}{xs:List Int}(h1:SliceOf h 1 (.slice a xs.length c) xs.length (ints xs))(h2:SliceOf h 1 (.slice b xs.length d) xs.length (ints xs))(hn:xs.length<1000000):Pu T 48 [.slice a xs.length c, .slice b xs.length d] h (.bool true):=by
 refine .of hp hf hr rfl ?_
 refine y4 ?_;refine yM ?_;refine y3 ?_;refine wE_seq ?_;refine y4 ?_;refine yM ?_;refine yD ?_;refine yM ?_
 refine yD ?_;refine yf ?_;refine y3 ?_;refine yX ?_;refine wE_skip ?_;refine kS_n ?_;refine wE_seq ?_;refine y4 ?_
 refine yM ?_;refine y3 ?_;refine wE_block ?_
 refine wE_loop (fun m e ds h'=>∃i:Nat,i≤xs.length∧m=xs.length-i∧e=[(0, .slice a xs.length c),(1, .slice b xs.length d),(5, .int .i64 i)]∧ds=[]∧h'=h)
  ⟨0,Nat.zero_le _,rfl,rfl,rfl,rfl⟩ ?_
 rintro m e ds h' ⟨i,hin,rfl,rfl,rfl,rfl⟩
 by_cases hlt:i<xs.length
 ·rcases h1.inv with⟨_,_,h0,_⟩|⟨b1,o1,cap1,hv1,s1,hcap1⟩
  ·omega
  cases hv1
  rcases h2.inv with⟨_,_,h0,_⟩|⟨b2,o2,cap2,hv2,s2,hcap2⟩
  ·omega
  cases hv2
  obtain⟨vs,own,t,g1,g2⟩:=slice_elem1 s1 (ints_get (l:=xs) (i:=i) hlt)
  obtain⟨vs2,own2,t2,g3,g4⟩:=slice_elem1 s2 (ints_get (l:=xs) (i:=i) hlt)
  refine wE_seq ?_;refine y4 ?_;refine yM ?_;refine yM ?_;refine yD ?_;refine yt ?_;refine y3 ?_
  refine yY ?_;refine wE_skip ?_;refine kS_n ?_;refine wE_seq ?_;refine wE_block ?_;refine wE_seq ?_;refine wE_draw ?_;refine qM ?_;refine qM ?_
  refine wD_quiet rfl rfl rfl (by exact rfl) (by exact rfl) (by exact rfl) (a_iaddrS (by exact rfl) (by exact rfl) (by omega)) ?_;refine wD_quiet rfl rfl rfl (by exact rfl) (by exact rfl) (by exact rfl) (a_load (by exact rfl) (by assumption) (by assumption)) ?_;refine qM ?_
  refine qM ?_;refine wD_quiet rfl rfl rfl (by exact rfl) (by exact rfl) (by exact rfl) (a_iaddrS (by exact rfl) (by exact rfl) (by omega)) ?_;refine wD_quiet rfl rfl rfl (by exact rfl) (by exact rfl) (by exact rfl) (a_load (by exact rfl) (by assumption) (by assumption)) ?_
  refine wD_quiet rfl rfl rfl (by exact rfl) (by exact rfl) (by exact rfl) (a_num (by exact rfl) (by exact rfl) (by exact m_neqF (by omega))) ?_;refine wD_nil ?_;refine y1 ?_;refine kS_n ?_;refine yX ?_;refine wE_skip ?_;refine kB_n ?_;refine kS_n ?_;refine wE_region ?_
  refine yM ?_;refine yinc ?_;refine yM ?_;refine y3 ?_
  exact⟨xs.length-(i+1),by omega,i+1,by omega,rfl,rfl,rfl,rfl⟩
 ·obtain rfl:i=xs.length:=by omega
  refine wE_seq ?_;refine y4 ?_;refine yM ?_;refine yM ?_;refine yD ?_;refine yf ?_;refine y3 ?_
  refine yX ?_;refine wE_exit ?_;refine kS_e ?_;refine kS_e ?_;refine kB_e ?_;refine kS_n ?_;refine y4 ?_;refine yM ?_;refine y3 ?_;refine wE_ret ?_
  exact endP_ret hr.log rfl rfl
end Go.A.Pk
end
section
set_option maxRecDepth 100000
namespace Go.A.Pk
variable {T:Nat→Option AFunc}
structure FnsWd (T:Nat→Option AFunc):Prop extends FnsTi T,FnsRT T where
 f16:T 16=some f16
 f71:T 71=some f71
 f48:T 48=some f48
 c19:∀{h:Heap},Rdy h→Pu T 19 [] h (.bool true)
set_option maxHeartbeats 16000000 in
theorem law16(F:FnsWd T){h:Heap}(hr:Rdy h){a:Option Addr}{n c:Nat}{l:List Kd}(hs:SliceOf h 5 (.slice a n c) n (kcs l))(kerf:Int){pl:List Nat}(hl:pl.length=8)(hp:∀x∈pl,x<18446744073709551616):
 Pu T 16 [.agg #[.slice a n c, .int .i64 kerf], .agg (us pl).toArray] h (.bool true):=by
 have hpA:=F.toFnsTi.toFnsE.toFnsA.p
 refine .of hpA F.f16 hr rfl ?_
 have hx:Ext h ((h.push (.cells [.slice a n c, .int .i64 kerf] true 1)).push (.cells (us pl) true 1)):=((Ext.refl h).push _).push _
 obtain rfl:n=l.length:=by have:=hs.len;rw[kcs_length]at this;omega
 have hu:(us pl).length=8:=by rw[us,List.length_map,hl]
 have u1:ltake 8 (ldrop 0 (us pl))=us pl:=by rw[ltake_eq,ldrop_eq,List.drop_zero,List.take_of_length_le (by omega)]
 have u2:Nat.beq (llen (us pl)) 8=true:=by rw[llen_eq,hu];rfl
 have hL8:(timL kerf l pl).length≤8:=by
  have:=boxN_bd hp
  unfold timL
  split
  ·rw[List.length_replicate];exact this
  ·simp
 refine y4 ?_
 refine wO_val (a_box (vs:=[.slice a l.length c, .int .i64 kerf]) (by exact rfl) (by exact rfl)) ?_
 refine wO_val (a_box (vs:=us pl) (by exact rfl) (by show(us pl).toArray.toList=us pl;simp)) ?_
 refine yM ?_;refine y3 ?_;refine wE_seq ?_;refine y4 ?_
 refine yN ?_
 refine yC ?_
 refine FW.pu (few18 F.toFnsTi.toFnsE.toFnsC (.of (hx.wf hr.wf)) kerf) ?_
 by_cases hfew:l.length≤16
 ·have hn:l.length<1000000:=by omega
  rw[decide_eq_true hfew]
  refine yA ?_;refine y3 ?_;refine yX ?_;refine wE_skip ?_;refine kS_n ?_;refine y4 ?_
  refine yN ?_
  refine wO_val (a_loadN (by exact rfl) (by(simp(disch:=first|omega|(simp only[z1,z2];omega)|(simp only[z1,z2];done)|fail)only[z8,z4,z5,z9,z7,z1,z2, *];exact rfl)) (by assumption) (by assumption)) ?_
  refine yC ?_
  refine FW.al (timber69 F.toFnsTi (.of (hx.wf hr.wf)) ((hs.ext hx).log []) kerf hn hl hp) (fun v h' m q=>TimQ.log v h' m q) ?_
  rintro _ h2 hx2 ⟨a2,c2,rfl,q2⟩
  have hx02:=hx.trans hx2
  have w2:=hx02.wf hr.wf
  have g2:h2.get h.next=some (.cells [.slice a l.length c, .int .i64 kerf] true 1):=by rw[hx2.old _ (by(simp only[z1,z2];omega))];(simp(disch:=first|omega|(simp only[z1,z2];omega))only[z3,z4,z5,z6,z7,z1,z2, *];done)
  have g3:h2.get (h.next+1)=some (.cells (us pl) true 1):=by rw[hx2.old _ (by(simp only[z1,z2];omega))];(simp(disch:=first|omega|(simp only[z1,z2];omega)|(simp only[z1,z2];done)|fail)only[z8,z4,z5,z9,z7,z1,z2, *];done)
  have k2:h.next+2≤h2.next:=hx2.next
  clear hx2 hx
  refine yM ?_;refine yE ?_;refine yE ?_;refine yE ?_;refine yM ?_;refine yM ?_;refine yM ?_;refine y3 ?_;refine y4 ?_;refine yN ?_;refine wO_val (a_loadN (by exact rfl) (by assumption) (by assumption) (by assumption)) ?_
  refine yC ?_
  refine FW.al (timber70 F.toFnsRT (.of w2) ((hs.ext hx02).log []) kerf hn hl hp) (fun v h' m q=>TimQ.log v h' m q) ?_
  rintro _ h3 hx3 ⟨a3,c3,rfl,q3⟩
  have w3:=hx3.wf w2
  have G3:=(hx3.old _ (by omega)).trans g3
  have k3:=hx3.next
  have q2':=q2.ext hx3
  have hlg3:h3.log=[]:=(hx3.log.trans hx02.log).trans hr.log
  clear g2 g3 q2 hx3
  generalize timL kerf l pl=L at*
  generalize timW kerf l pl=W at*
  generalize timE kerf l pl=E at*
  refine yM ?_;refine yE ?_;refine yE ?_;refine yE ?_;refine yM ?_;refine yM ?_;refine yM ?_;refine y3 ?_;refine wE_seq ?_;refine wE_draw ?_
  refine qC ?_
  refine FW.puD (F.c19 (.of w3)) (by exact ra_nil) ?_
  refine qM ?_;refine wD_quiet rfl rfl rfl (by exact rfl) (by exact rfl) (by exact rfl) (a_loadN (by exact rfl) (by assumption) (by assumption) (by assumption)) ?_;refine wD_quiet rfl rfl rfl (by exact rfl) (by exact rfl) (by exact rfl) (a_loadN (by exact rfl) (by assumption) (by assumption) (by assumption)) ?_
  refine qC ?_
  refine FW.alD (boxes72 F.toFnsZ (.of w3) hl hp) (fun v h' m q=>BoxQ.log v h' m q) ?_
  rintro _ h4 hx4 ⟨a4,c4,rfl,q4⟩
  have w4:=hx4.wf w3
  have G4:=(hx4.old _ (by omega)).trans G3
  have k4:=hx4.next
  clear G3
  refine⟨_,by apply ra_keepC rfl (rq_quiet rfl (a_loadN (by exact rfl) (by assumption) (by assumption) (by assumption)) (by exact sv_us _)) rfl;apply ra_dropC rfl;apply ra_dropC rfl;exact ra_nil,?_⟩
  skip
  refine qC ?_
  refine FW.alD (al_mono (rboxes73 F.toFnsRZ (.of w4) hl hp) fun v h' q=>q.box hp) (fun v h' m q=>BoxQ.log v h' m q) ?_
  rintro _ h5 hx5 ⟨a5,c5,rfl,q5⟩
  have w5:=hx5.wf w4
  refine⟨_,by apply ra_dropC rfl;exact ra_nil,?_⟩
  have hN8:=boxN_bd hp
  unfold boxL at q4 q5
  skip
  refine qC ?_
  refine FW.puD (sameBoxes71 hpA F.f71 (.of w5) ((q4.ext hx5).log []) (q5.log []) (by omega)) (by exact ra_nil) ?_
  refine wD_quiet rfl rfl rfl (by exact rfl) (by exact rfl) (by exact rfl) (a_pickT (by exact rfl) (by exact rfl)) ?_;refine qM ?_;refine qM ?_
  refine qM ?_
  refine qC ?_
  refine FW.puD (sameInts48w hpA F.f48 (.of w5) (((q2'.ext hx4).ext hx5).log []) (((q3.ext hx4).ext hx5).log []) (by omega)) (by apply ra_dropC rfl;apply ra_dropC rfl;apply ra_dropC rfl;apply ra_dropC rfl;exact ra_nil) ?_
  refine wD_quiet rfl rfl rfl (by exact rfl) (by exact rfl) (by exact rfl) (a_pickT (by exact rfl) (by exact rfl)) ?_;refine qM ?_;refine qM ?_
  refine qM ?_;refine wD_quiet rfl rfl rfl (by exact rfl) (by exact rfl) (by exact rfl) (a_num (by exact rfl) (by exact rfl) (by exact m_eqlT (by omega))) ?_;refine wD_quiet rfl rfl rfl (by exact rfl) (by exact rfl) (by exact rfl) (a_pickT (by exact rfl) (by exact rfl)) ?_
  refine qM ?_;refine qM ?_;refine qM ?_
  refine wD_quiet rfl rfl rfl (by exact rfl) (by exact rfl) (by exact rfl) (a_num (by exact rfl) (by exact rfl) (by exact m_eqlT (by omega))) ?_;refine wD_quiet rfl rfl rfl (by exact rfl) (by exact rfl) (by exact rfl) (a_pickT (by exact rfl) (by exact rfl)) ?_;refine qM ?_;refine wD_nil ?_
  refine y1 ?_;refine kS_n ?_;refine wE_ret ?_
  exact endP_ret ((hx4.trans hx5).log.trans hlg3) rfl rfl
 ·rw[decide_eq_false hfew]
  refine yA ?_;refine y3 ?_;refine yY ?_;refine y4 ?_
  refine yC ?_
  refine FW.pu (F.c19 (.of (hx.wf hr.wf))) ?_
  refine yM ?_;refine y3 ?_;refine wE_ret ?_;refine kS_r ?_
  exact endP_ret (hx.log.trans hr.log) rfl rfl
end Go.A.Pk
end
section
set_option maxRecDepth 100000
open Go Go.A Go.Proofs Go.RowKit
namespace Go.A.Pk
theorem c16:compF Tryz.prog Tryz.f16 [[2,3],[2,3,13],[4],[2,3,5,6,7],[3,5,6,7,8,9,10],[4]]=some f16:=by kernel_rfl
theorem c69:compF Tryz.prog Tryz.f69 [[2,3,4,5],[3,4,5,6,7],[3,4,5,6,7,23],[4,5,6],[4,5,7,26,27,28],[4,5,7,26,27,28,29],[4,5,7,9,26,27,28],[4,5,7,9,10,26,27,28],[4,5,7,9,10,26,27,28,36,37,38],[4,5,7,9,10,26,27,28,36,37,38,39],[4,5,7,9,10,11,12,26,27,28,36,37,38],[4,5,7,9,10,11,26,27,28,36,37,38,63],[4,5,7,9,10,26,27,28,36,37,38],[4,5,7,9,10,26,27,28,36,37,38],[4,5,7,10,26,27,28,67],[4,5,6],[4,5,7,26,27,28],[4,5,7,26,27,28],[4,5,6]]=some f69:=by kernel_rfl
theorem c72:compF Tryz.prog Tryz.f72 [[1],[1,3],[1,3,4,5],[3,4,5,13,14],[3,4,5,13,14,15],[3,4,5,6,7,13,14],[3,4,5,6,7,13,14,19],[3,4,6,13,14],[3,4,5,6,13,14],[3,4,5,6,13,14,25],[3,4,5,13,14],[3,4,5,13,14],[3,4,5,29],[2],[3,4,5,8,9],[3,4,5,8,9,32],[3,4,5,8,9,32,33],[3,4,5,8,9,10,32],[3,4,5,8,9,10,32,39],[3,4,5,8,9,32,44,45],[3,4,5,8,9,32,44,45,46],[3,4,5,8,9,11,12,32,44,45],[3,4,5,8,9,32,44,45],[3,4,5,8,9,32,44,45],[3,4,5,8,9,32],[2]]=some f72:=by kernel_rfl
theorem c120:compF Tryz.prog Tryz.f120 [[2,3],[4]]=some f120:=by kernel_rfl
theorem c121:compF Tryz.prog Tryz.f121 [[0,1],[0,1,10],[0,1],[0,5,6],[0,6,26],[0,6],[0,7],[7,8],[7,8,37],[7,8],[4]]=some f121:=by kernel_rfl
theorem c148:compF Tryz.prog Tryz.f148 [[0,1],[6,7],[4,5],[8,9],[4,5]]=some f148:=by kernel_rfl
theorem c175:compF Tryz.prog Tryz.f175 [[0,1],[0,1,6],[0,1,6,7],[0,1,6,7,8],[0,1,6,7,8,9],[0,1,6,7,8,9,10],[0,1,6,7,9,11],[0,1,6,7,9,11,12],[0,1,6,7,9,12,13],[0,1,7,9,12,13],[0,1,4],[4,5]]=some f175:=by kernel_rfl
theorem c70:compF Tryz.prog Tryz.f70 [[2,3],[2,3,7],[2,3,7,24],[2,3,7],[2,3,7,26],[4,5,6],[2,8],[2,8,9],[2,8,9,10],[2,8,9,10,11],[2,8,9,10,11,33],[2,8,9,10,11,12],[2,8,9,10,11,12,13],[2,8,9,10,11,12,13,40],[2,8,9,10,11,12,13,14],[2,8,9,10,11,12,13,14,15],[2,8,9,10,11,12,13,105],[2,8,9,10,11,12,13],[2,8,9,10,11,12,13],[2,8,9,10,11,12,108],[4,5,6],[2,8,9,10,11,12],[2,8,9,10,11],[2,8,9,10,11],[4,5,6]]=some f70:=by kernel_rfl
theorem c71:compF Tryz.prog Tryz.f71 [[0,1],[0,1,10],[4],[0,1,5],[0,1,5,14],[0,1,5,25],[4],[0,1,5],[4]]=some f71:=by kernel_rfl
theorem c73:compF Tryz.prog Tryz.f73 [[1],[1,3],[1,3,4],[1,3,4,5],[1,3,4,5,6],[1,3,4,5,6,7],[1,3,4,5,6,7,8],[1,3,4,5,6,7,8,9],[1,3,4,5,6,7,8,9,14],[1,3,4,5,6,7,8,9,10],[1,3,4,5,6,7,8,9,10,18],[1,3,4,5,6,7,8,9,10,27],[1,3,4,5,6,7,8,9,10],[1,3,4,5,6,7,8,9,10],[1,3,4,5,6,7,8,9,10],[1,3,4,5,6,7,8,9,10],[1,3,4,5,6,7,8,9,10],[1,3,4,5,6,7,8,9,10],[1,3,4,5,6,7,8,9,10],[1,3,4,5,6,7,8,9],[3,4,5,6,7,8,11],[3,4,5,6,8,11,12],[3,4,5,6,8,11,12,53],[3,4,5,6,8,11,12],[3,4,5,6,8,11,12],[2]]=some f73:=by kernel_rfl
def tree16:Tr:=(.node (.node (.node (.node (.node .nil 16 f16 .nil) 18 f18 (.node .nil 19 (.prim (pConst (.bool true))) .nil)) 48 f48 (.node (.node .nil 66 f66 .nil) 67 f67 .nil)) 69 f69 (.node (.node (.node .nil 70 f70 .nil) 71 f71 (.node .nil 72 f72 .nil)) 73 f73 (.node (.node .nil 75 f75 .nil) 77 f77 .nil))) 80 f80 (.node (.node (.node (.node .nil 96 f96 .nil) 97 f97 (.node .nil 113 f113 .nil)) 117 f117 (.node (.node .nil 118 f118 .nil) 119 f119 .nil)) 120 f120 (.node (.node (.node .nil 121 f121 .nil) 122 f122 (.node .nil 147 f147 .nil)) 148 f148 (.node (.node .nil 149 f149 .nil) 175 f175 .nil))))
def T16:Nat→Option AFunc:=tree16.get
theorem all16:tree16.all (Entry Tryz.prog):=by
 unfold tree16
 exact(Tr.all_node (Tr.all_node (Tr.all_node (Tr.all_node (Tr.all_node Tr.all_nil (.of Tryz.func16 c16) Tr.all_nil) (.of Tryz.func18 c18) (Tr.all_node Tr.all_nil ok19 Tr.all_nil)) (.of Tryz.func48 c48) (Tr.all_node (Tr.all_node Tr.all_nil (.of Tryz.func66 c66) Tr.all_nil) (.of Tryz.func67 c67) Tr.all_nil)) (.of Tryz.func69 c69) (Tr.all_node (Tr.all_node (Tr.all_node Tr.all_nil (.of Tryz.func70 c70) Tr.all_nil) (.of Tryz.func71 c71) (Tr.all_node Tr.all_nil (.of Tryz.func72 c72) Tr.all_nil)) (.of Tryz.func73 c73) (Tr.all_node (Tr.all_node Tr.all_nil (.of Tryz.func75 c75) Tr.all_nil) (.of Tryz.func77 c77) Tr.all_nil))) (.of Tryz.func80 c80) (Tr.all_node (Tr.all_node (Tr.all_node (Tr.all_node Tr.all_nil (.of Tryz.func96 c96) Tr.all_nil) (.of Tryz.func97 c97) (Tr.all_node Tr.all_nil (.of Tryz.func113 c113) Tr.all_nil)) (.of Tryz.func117 c117) (Tr.all_node (Tr.all_node Tr.all_nil (.of Tryz.func118 c118) Tr.all_nil) (.of Tryz.func119 c119) Tr.all_nil)) (.of Tryz.func120 c120) (Tr.all_node (Tr.all_node (Tr.all_node Tr.all_nil (.of Tryz.func121 c121) Tr.all_nil) (.of Tryz.func122 c122) (Tr.all_node Tr.all_nil (.of Tryz.func147 c147) Tr.all_nil)) (.of Tryz.func148 c148) (Tr.all_node (Tr.all_node Tr.all_nil (.of Tryz.func149 c149) Tr.all_nil) (.of Tryz.func175 c175) Tr.all_nil))))
theorem sound16:SoundT Tryz.prog T16:=soundT_of (by kernel_rfl) all16
theorem fnsA16:FnsA T16:={p:=sound16.primAS,f77:=by kernel_rfl,f117:=by kernel_rfl,f119:=by kernel_rfl,f147:=by kernel_rfl,f118:=by kernel_rfl,f66:=by kernel_rfl}
theorem fnsC16:FnsC T16:={p:=sound16.primAS,f18:=by kernel_rfl,f77:=by kernel_rfl,f97:=by kernel_rfl,f122:=by kernel_rfl,f149:=by kernel_rfl}
theorem fnsE16:FnsE T16:={fnsA16,fnsC16 with f75:=by kernel_rfl,f96:=by kernel_rfl,f113:=by kernel_rfl}
theorem pu19K{h:Heap}:Pu T16 19 [] h (.bool true):= .prim (p:=pConst (.bool true)) (by kernel_rfl) rfl ⟨rfl,rfl⟩
theorem fnsK16:FnsK T16:={p:=sound16.primAS,f121:=by kernel_rfl,f148:=by kernel_rfl,f175:=by kernel_rfl}
theorem fnsZ16:FnsZ T16:={fnsK16 with f72:=by kernel_rfl}
theorem fnsTi16:FnsTi T16:={fnsE16,fnsZ16 with f69:=by kernel_rfl,f120:=by kernel_rfl}
theorem fnsB16:FnsB T16:={p:=sound16.primAS,f80:=by kernel_rfl,f67:=by kernel_rfl}
theorem fnsRZ16:FnsRZ T16:={p:=sound16.primAS,f73:=by kernel_rfl}
theorem fnsRT16:FnsRT T16:={fnsB16,fnsRZ16 with f70:=by kernel_rfl}
theorem fnsWd:FnsWd T16:={fnsTi16,fnsRT16 with f16:=by kernel_rfl,f71:=by kernel_rfl,f48:=by kernel_rfl,c19:=fun _=>pu19K}
theorem noRef_us(pl:List Nat):noRef (.agg (us pl).toArray)=true:=by
 have:scalL (us pl)=true:=by
  induction pl with
  |nil=>rfl
  |cons p pl ih=>exact ih
 simp[noRef,flatL,flat,this,List.toList_toArray]
theorem wood_calls{W:World}{sl:Value}{l:List Kd}(hk:KindsAt W sl l)(kerf:Int){pl:List Nat}(hl:pl.length=8)(hp:∀x∈pl,x<18446744073709551616):Calls Tryz.prog 16 #[.agg #[sl, .int .i64 kerf], .agg (us pl).toArray] W fun e W'=>e= .returned (.bool true)∧Below W.heap.size W W':=by
 obtain⟨h,μ,u,n,c,a,L⟩:=hk.laid
 obtain⟨r,h',⟨m,hm⟩,rfl,rfl⟩:=law16 fnsWd L.rdy L.at' kerf hl hp
 have hrun:=hm m (Nat.le_refl _)
 have hu:VR μ (.slice a n c) sl:=L.form▸L.val
 have ha:LR μ [.agg #[.slice a n c, .int .i64 kerf], .agg (us pl).toArray] [.agg #[sl, .int .i64 kerf], .agg (us pl).toArray]:=
  .cons (VR.aggL (.cons hu (.cons (.int _ _) .nil))) (.cons (VR.noRef (noRef_us pl)).1 .nil)
 refine(acall_calls sound16 hrun L.rdy.log (by kernel_rfl) L.rel ha).mono fun e W' hq=> ?_
 obtain⟨μ',q1,q2,q3⟩:=hq
 cases e with
 |returned v'=>
  have hv:VR μ' (.bool true) v':=q1
  cases hv
  exact⟨rfl,St.below q3 L.ro⟩
 |panicked _=>exact q1.elim
 |outgrown=>exact q1.elim
end Go.A.Pk
end
