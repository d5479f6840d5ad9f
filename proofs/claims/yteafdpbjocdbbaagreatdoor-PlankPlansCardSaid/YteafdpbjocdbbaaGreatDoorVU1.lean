/- Walks of functions, plain laws, the table. -/
import Derived.Test.YteafdpbjocdbbaaGreatDoorVU0
import Derived.Test.YteafdpbjocdbbaaGreatDoorVD
import Derived.Test.YteafdpbjocdbbaaGreatDoorVF
set_option linter.all false
section
set_option maxRecDepth 100000
namespace Go.A.Pk
variable {T:Nat→Option AFunc}
theorem SliceOf.agree{h h':Heap}{sz n:Nat}{v:Value}{cs:List Value}(s:SliceOf h sz v n cs)(hn:h.next≤h'.next)(ha:∀b vs o t,b<h.next→h.get b=some (.cells vs o t)→h'.get b=h.get b):SliceOf h' sz v n cs:=by
 cases s with
 |nil=>exact .nil
 |mem s hc=>
  obtain⟨vs,own,t,h1,h2⟩:=s.obj
  exact .mem ⟨Nat.lt_of_lt_of_le s.lt hn,⟨vs,own,t,(ha _ _ _ _ s.lt h1).trans h1,h2⟩,s.len⟩ hc
def leafM(ws:List Int)(xs:List (Nat×Nat))(m:Int):Int:=xs.foldl (fun m x=>mx m (ws.getD x.2 0)) m
def cutM(kerf:Int)(t:Tab)(a b:Nat)(xs:List (Nat×Nat))(m:Int):Int:=xs.foldl (fun m x=>mx m (look t (oneB x a b)+look t (twoB kerf x a b))) m
def val(kerf:Int)(ws:List Int)(kl:List Kd)(t:Tab)(a b:Nat):Int:=cutM kerf t a b (cutsL a b) (leafM ws (leavesL a b kl 0) 0)
theorem WO.gen{base:Nat}{rnd:Option Nat}{Q:XQ}{ops:List AOper}{e:Env}{ds:Dfs}{h:Heap}(hK:∀hA,hA=h→WO T base rnd Q ops e ds hA):WO T base rnd Q ops e ds h:=hK h rfl
end Go.A.Pk
end
section
set_option maxRecDepth 100000
namespace Go.A.Pk
variable {T:Nat→Option AFunc}
def Bd(W:Int)(t:Tab):Prop:=∀e∈t,1≤e.1.1∧1≤e.1.2∧0≤e.2∧e.2≤W*((e.1.1:Int)*(e.1.2:Int))
theorem upd_bd{W:Int}{x:Nat×Nat}{v:Int}(hx:1≤x.1∧1≤x.2)(hv:0≤v∧v≤W*((x.1:Int)*(x.2:Int))):∀{t:Tab},Bd W t→Bd W (upd t x v)
 |[],_,e,he=>by
  simp only[upd,List.mem_singleton]at he
  subst he
  exact⟨hx.1,hx.2,hv.1,hv.2⟩
 |e0::t,h,e,he=>by
  simp only[upd]at he
  split at he
  ·rcases List.mem_cons.1 he with rfl|he
   ·exact⟨hx.1,hx.2,hv.1,hv.2⟩
   ·exact h e (List.mem_cons_of_mem _ he)
  ·rcases List.mem_cons.1 he with rfl|he
   ·exact h e (List.mem_cons_self ..)
   ·exact upd_bd hx hv (fun e he=>h e (List.mem_cons_of_mem _ he)) e he
def tabL(kerf:Int)(ws:List Int)(kl:List Kd)(done:List (Nat×Nat)):Tab:=done.foldl (fun t x=>upd t x (val kerf ws kl t x.1 x.2)) []
end Go.A.Pk
end
section
set_option maxRecDepth 100000
namespace Go.A.Pk
variable {T:Nat→Option AFunc}
inductive WslB (lo:Nat) (h:Heap):Value→List Int→Prop
 |nil:WslB lo h (.slice none 0 0) []
 |full {q xs}:lo≤q→q<h.next→h.get q=some (.cells (ints xs) true 1)→xs≠[]→WslB lo h (.slice (some ⟨q,0,none⟩) xs.length UNK) xs
theorem worth_succ{l:List Kd}{i:Nat}{x:Kd}(h:l[i]? =some x):(l.take (i+1)).map (·.worth)=(l.take i).map (·.worth)++[x.worth]:=by
 rw[List.take_add_one,h];simp
def StartO(lo:Nat)(a:Option Addr)(n c:Nat)(kerf:Int)(l:List Kd)(er:Int)(v:Value)(h':Heap):Prop:=∃p,v= .tuple #[.pointer p, .int .i64 er]∧
 (er=0→∃w,p=some ⟨lo+1,0,none⟩∧h'.get (lo+1)=some (.cells [.slice a n c, .int .i64 kerf,w] true 1)∧WslB (lo+2) h' w (l.map (·.worth)))
theorem StartO.gc{lo:Nat}{a:Option Addr}{n c:Nat}{kerf:Int}{l:List Kd}{er:Int}(h:Heap)(v:Value)(h1:Heap)(hv:noRef v=true)(q:StartO lo a n c kerf l er v h1):StartO lo a n c kerf l er v h:=by
 obtain⟨p,rfl,h2⟩:=q
 refine⟨p,rfl,fun he=> ?_⟩
 obtain⟨w,rfl,_⟩:=h2 he
 simp[noRef,flatL,flat,scalL,scal,scal1]at hv
theorem WslB.keep{lo:Nat}{h h':Heap}{v:Value}{xs:List Int}(w:WslB lo h v xs)(hn:h.next≤h'.next)(hg:∀z,lo≤z→z<h.next→h'.get z=h.get z):WslB lo h' v xs:=by
 cases w with
 |nil=>exact .nil
 |full a b c d=>exact .full a (by omega) ((hg _ a b).trans c) d
theorem StartO.logs{lo:Nat}{a:Option Addr}{n c:Nat}{kerf:Int}{l:List Kd}{er:Int}(v:Value)(h':Heap)(m:List Nat)(q:StartO lo a n c kerf l er v h'):StartO lo a n c kerf l er v {h' with log:=m}:=by
 obtain⟨p,h1,h2⟩:=q
 refine⟨p,h1,fun he=> ?_⟩
 obtain⟨w,h3,h4,h5⟩:=h2 he
 exact⟨w,h3,h4,h5.keep (Nat.le_refl _) fun _ _ _=>rfl⟩
theorem WslB.slice{lo:Nat}{h:Heap}{v:Value}{xs:List Int}(w:WslB lo h v xs)(hx:xs.length<1000000):∃a c,v= .slice a xs.length c∧SliceOf h 1 (.slice a xs.length c) xs.length (ints xs):=by
 cases w with
 |nil=>exact⟨none,0,rfl, .nil⟩
 | @full q _ h1 h2 h3 h5=>
   refine⟨some ⟨q,0,none⟩,UNK,rfl, .mem ⟨h2,⟨_,_,_,h3,?_⟩,by simp[ints]⟩ (by unfold UNK;omega)⟩
   rw[ltake_eq,ldrop_eq,List.drop_zero,List.take_of_length_le (by simp[ints])]
set_option maxHeartbeats 4000000 in
theorem startedO75(G:FnsE T){h:Heap}(hr:Rdy h){a:Option Addr}{n c:Nat}{l:List Kd}(hs:SliceOf h 5 (.slice a n c) n (kcs l))(kerf:Int)(hn:n<1000000){v:Value}{m:Nat}{bl:List Bool}(hb:SliceOf h 1 v m (bcs bl))(hm:m<1000000):
 Al T 75 [.agg #[.slice a n c, .int .i64 kerf],v] h (StartO h.next a n c kerf l (startE kerf l bl)):=by
 refine .of G.toFnsA.p G.f75 hr (StartO.gc h) ?_
 have hx:Ext h (h.push (.cells [.slice a n c, .int .i64 kerf] true 1)):=(Ext.refl h).push _
 have hlen:l.length=n:=by have:=hs.len;rw[kcs_length]at this;omega
 refine y4 ?_;refine yB ?_;refine yM ?_;refine yM ?_;refine y3 ?_;refine wE_seq ?_;refine y4 ?_
 refine yN ?_
 refine yC ?_
 refine FW.pu (check66 G.toFnsA (.of (hx.wf hr.wf)) ((hs.ext hx).log []) kerf hn) ?_
 unfold startE
 by_cases hc:chk kerf l=0
 ·rw[if_pos hc,hc]
  refine yM ?_;refine y3 ?_;refine y4 ?_;refine yM ?_;refine yf ?_;refine y3 ?_;refine yX ?_;refine wE_skip ?_;refine kS_n ?_;refine wE_seq ?_;refine y4 ?_;refine yM ?_
  refine yC ?_
  refine FW.pu (contains122 G.toFnsC (.of (hx.wf hr.wf)) ((hb.ext hx).log []) hm) ?_
  cases hbl:bl.all id with
  |false=>
   refine y3 ?_;refine yY ?_;refine y4 ?_;refine yM ?_;refine yM ?_;refine y3 ?_;refine wE_ret ?_;refine kS_r ?_
   exact endA_ret (vs:=[.pointer none, .int .i64 1]) hr.log rfl ⟨_,rfl,fun e=>by cases e⟩
  |true=>
   refine y3 ?_;refine yX ?_;refine wE_skip ?_;refine kS_n ?_;refine y4 ?_
   refine yN ?_;refine wO_val (a_build (by exact rfl)) ?_;refine yB ?_
   refine yM ?_;refine y3 ?_;refine wE_seq ?_;refine y4 ?_;refine yF ?_
   refine yL ?_;refine yD ?_;refine yM ?_;refine y3 ?_;refine wE_block ?_
   refine wE_loop (fun k e ds h'=>∃(i:Nat) (w:Value) (xs:List Int),i≤n∧k=n-i∧e=[(7, .pointer (some ⟨h.next+1,0,none⟩)),(21, .slice a n c),(22, .int .i64 n),(23, .int .i64 i)]∧ds=[]∧Ext (h.push (.cells [.slice a n c, .int .i64 kerf] true 1)) h'∧
    h.next+1<h'.next∧h'.get (h.next+1)=some (.cells [.slice a n c, .int .i64 kerf,w] true 1)∧WslB (h.next+2) h' w xs∧Nonempty (PLift (xs=(l.take i).map (·.worth))))
    ⟨0, .slice none 0 0,[],Nat.zero_le _,rfl,rfl,rfl,(Ext.refl _).push _,Nat.lt_succ_self _,by(simp(disch:=first|omega|(simp only[z1,z2];omega)|(simp only[z1,z2];done)|fail)only[z8,z4,z5,z9,z7,z1,z2, *];exact rfl), .nil,⟨⟨rfl⟩⟩⟩ ?_
   rintro k e ds hi ⟨i,w,xs,hin,rfl,rfl,rfl,hx1,hnx,hW,hw,⟨⟨hxs⟩⟩⟩
   by_cases hlt:i<n
   ·obtain⟨x,hxl⟩:∃x,l[i]? =some x:=⟨l[i],List.getElem?_eq_getElem (by omega)⟩
    have hs':=hs.ext (((Ext.refl h).push _).trans hx1)
    rcases hs'.inv with⟨_,_,h0,_⟩|⟨b,o,cap',hv,s,hcap⟩
    ·omega
    ·cases hv
     obtain⟨vs,own,t,g1,g2⟩:=slice_elem s hxl
     have hx3:=(hx1.push (.cells [.int .i64 0, .int .i64 0, .int .i64 0, .int .i64 0, .bool false] true 1)).wr (base:=h.next) (x:=hi.next) (o:= .cells (kc x) true 1) hx1.next (by omega)
     have hx4:=hx3.push (.cells [.int .i64 x.worth] true 1)
     have hsu:=worth_succ hxl
     have hxl2:xs.length=i:=by rw[hxs];simp;omega
     have hsu2:(l.take (i+1)).map (·.worth)=xs++[x.worth]:=by rw[hsu,←hxs]
     have hid:PLift (xs.length=i∧(l.take (i+1)).map (·.worth)=xs++[x.worth]):=⟨hxl2,hsu2⟩
     clear hsu hxs hxl2 hsu2
     cases hw with
     |nil=>
      refine y4 ?_;refine yt ?_;refine y3 ?_;refine wE_seq ?_;refine yY ?_;refine wE_skip ?_;refine kS_n ?_;refine wE_seq ?_;refine wE_block ?_;refine y4 ?_;refine wO_val (a_iaddrS (by exact rfl) (by exact rfl) (by omega)) ?_
      refine wO_val (a_loadN (by exact rfl) g1 g2 (by exact rfl)) ?_
      refine wO_val a_new ?_;refine yS ?_;refine y3 ?_;refine wE_draw ?_;refine qM ?_;refine qM ?_
      refine wD_quiet rfl rfl rfl (by exact rfl) (by exact rfl) (by exact rfl) (a_nilchk (by exact rfl)) ?_;refine qF ?_
      refine qL ?_
      refine qF ?_
      refine qL ?_
      refine wD_new rfl rfl rfl (by exact rfl) (by exact rfl) (by exact rfl) (a_bslice (by exact rfl) (by exact rfl)) (by refine rs_cons (rq_quiet rfl (a_load (by exact rfl) (by(simp(disch:=first|omega|(simp only[z1,z2];omega))only[z3,z4,z5,z6,z7,z1,z2, *];exact rfl)) (by exact rfl)) (by exact sv_int _ _)) ?_;refine rs_cons (rq_quiet rfl (a_faddr (by exact rfl)) (by exact sv_ptr _)) ?_;refine rs_cons (rq_quiet rfl (a_load (by exact rfl) (by(simp(disch:=first|omega|(simp only[z1,z2];omega))only[z3,z4,z5,z6,z7,z1,z2, *];exact rfl)) (by exact rfl)) (by exact sv_slice _ _ _)) ?_;refine rs_cons (rq_quiet rfl (a_faddr (by exact rfl)) (by exact sv_ptr _)) ?_;refine rs_cons (rq_quiet rfl (a_nilchk (by exact rfl)) (by exact sv_ptr _)) ?_;refine rs_cons (rq_quiet rfl (a_mov (by exact rfl)) (by exact sv_ptr _)) ?_;refine rs_cons (rq_quiet rfl (a_mov (by exact rfl)) (by exact sv_ptr _)) ?_;exact rs_nil) ?_
      refine wD_app_nil (n:=1) rfl rfl rfl (by exact rfl) (by exact rfl) (by exact rfl) (src_log (src_slice (cs:=[.int .i64 x.worth]) (by(simp(disch:=first|omega|(simp only[z1,z2];omega)|(simp only[z1,z2];done)|fail)only[z8,z4,z5,z9,z7,z1,z2, *];exact rfl)) rfl rfl)) (by omega) (by omega) (by apply ra_dropC rfl;apply ra_dropC rfl;apply ra_dropC rfl;apply ra_dropC rfl;apply ra_dropC rfl;apply ra_dropC rfl;apply ra_dropC rfl;apply ra_keepC rfl (rq_quiet rfl (a_mov (by exact rfl)) (by exact sv_ptr _)) rfl;exact ra_nil) ?_
      refine wD_quiet rfl rfl rfl (by exact rfl) (by exact rfl) (by exact rfl) (a_nilchk (by exact rfl)) ?_;refine qF ?_
      refine wD_store rfl rfl rfl (by exact rfl) (by exact rfl) (by exact rfl) (by(simp(disch:=first|omega|(simp only[z1,z2];omega))only[z3,z4,z5,z6,z7,z1,z2, *];exact rfl)) (by exact rfl) (by exact rfl) (by(simp only[z1,z2];omega)) (by omega) (by apply ra_dropC rfl;apply ra_dropC rfl;apply ra_dropC rfl;exact ra_nil) ?_
      refine wD_nil ?_;refine y1 ?_;refine kB_n ?_;refine kS_n ?_;refine wE_region ?_;refine yinc ?_;refine yM ?_;refine y3 ?_
      obtain⟨hxl2,hsu2⟩:=hid
      obtain rfl:i=0:=hxl2.symm
      refine⟨n-1,by omega,1, .slice (some ⟨hi.next+2,0,none⟩) 1 UNK,[x.worth],by omega,rfl,rfl,rfl,?_,?_,?_,?_,?_⟩
      ·exact(hx4.push (.cells [.int .i64 x.worth] true 1)).wr (Nat.le_refl _) (Nat.le_succ _)
      ·(simp only[z1,z2];omega)
      ·(simp(disch:=first|omega|(simp only[z1,z2];omega))only[z3,z4,z5,z6,z7,z1,z2, *];exact rfl)
      ·exact .full (xs:=[x.worth]) (by omega) (by(simp only[z1,z2];omega)) (by(simp(disch:=first|omega|(simp only[z1,z2];omega)|(simp only[z1,z2];done)|fail)only[z8,z4,z5,z9,z7,z1,z2, *];exact rfl)) (by simp)
      ·exact⟨⟨hsu2.symm⟩⟩
     | @full q _ h1 h2 h3 h5=>
       have h4:(ints xs).length=xs.length:=by simp[ints]
       have h7:xs.length<1000000:=by have:=hid.down.1;omega
       have h6:xs.length≠0:=by cases xs with|nil=>exact absurd rfl h5|cons _ _=>simp
       have hwr:lcat (ints xs) [.int .i64 x.worth]=ints (xs++[x.worth]):=by rw[lcat_eq];simp[ints]
       refine y4 ?_;refine yt ?_;refine y3 ?_;refine wE_seq ?_;refine yY ?_;refine wE_skip ?_;refine kS_n ?_;refine wE_seq ?_;refine wE_block ?_;refine y4 ?_;refine wO_val (a_iaddrS (by exact rfl) (by exact rfl) (by omega)) ?_
       refine wO_val (a_loadN (by exact rfl) g1 g2 (by exact rfl)) ?_
       refine wO_val a_new ?_;refine yS ?_;refine y3 ?_;refine wE_draw ?_;refine qM ?_;refine qM ?_
       refine wD_quiet rfl rfl rfl (by exact rfl) (by exact rfl) (by exact rfl) (a_nilchk (by exact rfl)) ?_;refine qF ?_
       refine qL ?_
       refine qF ?_
       refine qL ?_
       refine wD_new rfl rfl rfl (by exact rfl) (by exact rfl) (by exact rfl) (a_bslice (by exact rfl) (by exact rfl)) (by refine rs_cons (rq_quiet rfl (a_load (by exact rfl) (by(simp(disch:=first|omega|(simp only[z1,z2];omega))only[z3,z4,z5,z6,z7,z1,z2, *];exact rfl)) (by exact rfl)) (by exact sv_int _ _)) ?_;refine rs_cons (rq_quiet rfl (a_faddr (by exact rfl)) (by exact sv_ptr _)) ?_;refine rs_cons (rq_quiet rfl (a_load (by exact rfl) (by(simp(disch:=first|omega|(simp only[z1,z2];omega))only[z3,z4,z5,z6,z7,z1,z2, *];exact rfl)) (by exact rfl)) (by exact sv_slice _ _ _)) ?_;refine rs_cons (rq_quiet rfl (a_faddr (by exact rfl)) (by exact sv_ptr _)) ?_;refine rs_cons (rq_quiet rfl (a_nilchk (by exact rfl)) (by exact sv_ptr _)) ?_;refine rs_cons (rq_quiet rfl (a_mov (by exact rfl)) (by exact sv_ptr _)) ?_;refine rs_cons (rq_quiet rfl (a_mov (by exact rfl)) (by exact sv_ptr _)) ?_;exact rs_nil) ?_
       refine wD_app_open (n:=1) (vs:=ints xs) (ws:=ints (xs++[x.worth])) rfl rfl rfl (by exact rfl) (by exact rfl) (by exact rfl) (src_log (src_slice (cs:=[.int .i64 x.worth]) (by(simp(disch:=first|omega|(simp only[z1,z2];omega)|(simp only[z1,z2];done)|fail)only[z8,z4,z5,z9,z7,z1,z2, *];exact rfl)) rfl rfl)) (by omega) (by(simp(disch:=first|omega|(simp only[z1,z2];omega))only[z3,z4,z5,z6,z7,z1,z2, *];done)) (by omega) (by omega) rfl (by omega) hwr (by(simp only[z1,z2];omega)) (by omega) (by apply ra_dropC rfl;apply ra_dropC rfl;apply ra_dropC rfl;apply ra_dropC rfl;apply ra_dropC rfl;apply ra_dropC rfl;apply ra_dropC rfl;apply ra_keepC rfl (rq_quiet rfl (a_mov (by exact rfl)) (by exact sv_ptr _)) rfl;exact ra_nil) ?_
       refine wD_quiet rfl rfl rfl (by exact rfl) (by exact rfl) (by exact rfl) (a_nilchk (by exact rfl)) ?_;refine qF ?_
       refine wD_store rfl rfl rfl (by exact rfl) (by exact rfl) (by exact rfl) (by(simp(disch:=first|omega|(simp only[z1,z2];omega))only[z3,z4,z5,z6,z7,z1,z2, *];exact rfl)) (by exact rfl) (by exact rfl) (by(simp only[z1,z2];omega)) (by omega) (by apply ra_dropC rfl;apply ra_dropC rfl;apply ra_dropC rfl;exact ra_nil) ?_
       refine wD_nil ?_;refine y1 ?_;refine kB_n ?_;refine kS_n ?_;refine wE_region ?_;refine yinc ?_;refine yM ?_;refine y3 ?_
       have hxi:=hid.down.1
       refine⟨n-(i+1),by omega,i+1, .slice (some ⟨hi.next+2,0,none⟩) (xs.length+1) UNK,xs++[x.worth],by omega,rfl,rfl,rfl,?_,?_,?_,?_,?_⟩
       ·exact((hx4.wr (x:=q) (base:=h.next) (o:= .dead) (show h.next+1≤q by omega) (by omega)).push (.cells (ints (xs++[x.worth])) true 1)).wr (Nat.le_refl _) (Nat.le_succ _)
       ·(simp only[z1,z2];omega)
       ·(simp(disch:=first|omega|(simp only[z1,z2];omega))only[z3,z4,z5,z6,z7,z1,z2, *];exact rfl)
       ·have:=WslB.full (lo:=h.next+2) (q:=hi.next+2) (xs:=xs++[x.worth]) (h:=(((((hi.push (.cells [.int .i64 0, .int .i64 0, .int .i64 0, .int .i64 0, .bool false] true 1)).wr h.next hi.next (.cells (kc x) true 1)).push (.cells [.int .i64 x.worth] true 1)).wr h.next q .dead).push (.cells (ints (xs++[x.worth])) true 1)).wr h.next (h.next+1) (.cells [.slice (some ⟨b,o,none⟩) n c, .int .i64 kerf, .slice (some ⟨hi.next+2,0,none⟩) (xs.length+1) UNK] true 1)) (by omega) (by(simp only[z1,z2];omega)) (by(simp(disch:=first|omega|(simp only[z1,z2];omega)|(simp only[z1,z2];done)|fail)only[z8,z4,z5,z9,z7,z1,z2, *];done)) (by simp)
        rw[List.length_append]at this
        exact this
       ·exact⟨⟨hid.down.2.symm⟩⟩
   ·obtain rfl:i=n:=by omega
    refine y4 ?_;refine yf ?_;refine y3 ?_;refine wE_seq ?_;refine yX ?_;refine wE_exit ?_;refine kS_e ?_;refine kS_e ?_;refine kB_e ?_;refine kS_n ?_
    refine y4 ?_;refine yM ?_;refine yM ?_;refine yM ?_;refine y3 ?_;refine wE_ret ?_
    refine endA_ret (vs:=[.pointer (some ⟨h.next+1,0,none⟩), .int .i64 0]) (hx1.log.trans hr.log) rfl ⟨_,rfl,fun _=> ?_⟩
    rw[List.take_of_length_le (by omega)]at hxs
    obtain rfl:xs=l.map (·.worth):=hxs
    exact⟨w,rfl,hW,hw⟩
 ·rw[if_neg hc]
  refine yM ?_;refine y3 ?_;refine y4 ?_;refine yM ?_;refine yt ?_;refine y3 ?_;refine yY ?_;refine y4 ?_;refine yM ?_;refine yM ?_;refine yM ?_;refine y3 ?_;refine wE_ret ?_;refine kS_r ?_
  exact endA_ret (vs:=[.pointer none, .int .i64 (chk kerf l)]) hr.log rfl ⟨_,rfl,fun e=>(hc e).elim⟩
def StartQ(a:Option Addr)(n c:Nat)(kerf:Int)(l:List Kd)(er:Int)(v:Value)(h':Heap):Prop:=∃p,v= .tuple #[.pointer p, .int .i64 er]∧
 (er=0→∃bb wa wc,p=some ⟨bb,0,none⟩∧h'.get bb=some (.cells [.slice a n c, .int .i64 kerf, .slice wa n wc] true 1)∧SliceOf h' 1 (.slice wa n wc) n (ints (l.map (·.worth))))
theorem StartQ.gc{a:Option Addr}{n c:Nat}{kerf:Int}{l:List Kd}{er:Int}(h:Heap)(v:Value)(h1:Heap)(hv:noRef v=true)(q:StartQ a n c kerf l er v h1):StartQ a n c kerf l er v h:=by
 obtain⟨p,rfl,h2⟩:=q
 refine⟨p,rfl,fun he=> ?_⟩
 obtain⟨bb,wa,wc,rfl,_⟩:=h2 he
 simp[noRef,flatL,flat,scalL,scal,scal1]at hv
set_option maxHeartbeats 4000000 in
theorem startedB75(G:FnsE T){h:Heap}(hr:Rdy h){a:Option Addr}{n c:Nat}{l:List Kd}(hs:SliceOf h 5 (.slice a n c) n (kcs l))(kerf:Int)(hn:n<1000000){v:Value}{m:Nat}{bl:List Bool}(hb:SliceOf h 1 v m (bcs bl))(hm:m<1000000):
 Al T 75 [.agg #[.slice a n c, .int .i64 kerf],v] h (StartQ a n c kerf l (startE kerf l bl)):=by
 have hlen:l.length=n:=by have:=hs.len;rw[kcs_length]at this;omega
 refine CW.mono (startedO75 G hr hs kerf hn hb hm) fun r h' ⟨hx,v,hv,q⟩=>⟨hx,v,hv,?_⟩
 obtain⟨p,rfl,h2⟩:=q
 refine⟨p,rfl,fun he=> ?_⟩
 obtain⟨w,rfl,g,s⟩:=h2 he
 have e:(l.map (·.worth)).length=n:=by rw[List.length_map,hlen]
 obtain⟨a2,c2,rfl,s2⟩:=s.slice (by omega)
 rw[e]at g s2
 exact⟨_,a2,c2,rfl,g,s2⟩
end Go.A.Pk
end
section
set_option maxRecDepth 100000
namespace Go.A.Pk
variable {T:Nat→Option AFunc}
def OnB(w ht:Int):Prop:=(1≤w∧w≤16)∧(1≤ht∧ht≤16)
instance(w ht:Int):Decidable (OnB w ht):=by unfold OnB;infer_instance
theorem board76a(hp:primAS T)(hf6:T 76=some f76)(hf7:T 77=some f77){h:Heap}(hr:Rdy h)(w ht:Int):Pu T 76 [.int .i64 w, .int .i64 ht] h (.bool (decide (OnB w ht))):=by
 refine .of hp hf6 hr rfl ?_
 by_cases c1:1≤w∧w≤16
 ·by_cases c2:1≤ht∧ht≤16
  ·rw[decide_eq_true (show OnB w ht from⟨c1,c2⟩)]
   refine y4 ?_;refine yM ?_;refine y3 ?_;refine y4 ?_;refine yM ?_
   refine yC ?_
   refine FW.pu (in77T hp hf7 (.of hr.wf) c1) ?_
   refine yM ?_;refine yO ?_;refine yM ?_;refine yO ?_
   refine yC ?_
   refine FW.pu (in77T hp hf7 (.of hr.wf) c2) ?_
   refine yT ?_;refine yM ?_;refine y3 ?_;refine wE_ret ?_
   exact endP_ret hr.log rfl rfl
  ·rw[decide_eq_false (show¬OnB w ht from fun q=>c2 q.2)]
   refine y4 ?_;refine yM ?_;refine y3 ?_;refine y4 ?_;refine yM ?_
   refine yC ?_
   refine FW.pu (in77T hp hf7 (.of hr.wf) c1) ?_
   refine yM ?_;refine yO ?_;refine yM ?_;refine yO ?_
   refine yC ?_
   refine FW.pu (in77F hp hf7 (.of hr.wf) c2) ?_
   refine yT ?_;refine yM ?_;refine y3 ?_;refine wE_ret ?_
   exact endP_ret hr.log rfl rfl
 ·rw[decide_eq_false (show¬OnB w ht from fun q=>c1 q.1)]
  refine y4 ?_;refine yM ?_;refine y3 ?_;refine y4 ?_;refine yM ?_
  refine yC ?_
  refine FW.pu (in77F hp hf7 (.of hr.wf) c1) ?_
  refine yM ?_;refine yP ?_;refine yP ?_;refine yU ?_;refine yM ?_;refine y3 ?_;refine wE_ret ?_
  exact endP_ret hr.log rfl rfl
theorem StartQ.logs{a:Option Addr}{n c:Nat}{kerf:Int}{l:List Kd}{er:Int}(v:Value)(h':Heap)(m:List Nat)(q:StartQ a n c kerf l er v h'):StartQ a n c kerf l er v {h' with log:=m}:=by
 obtain⟨p,h1,h2⟩:=q
 refine⟨p,h1,fun e=> ?_⟩
 obtain⟨bb,wa,wc,q1,q2,q3⟩:=h2 e
 exact⟨bb,wa,wc,q1,q2,q3.log _⟩
end Go.A.Pk
end
section
namespace Go.A.Pk
def foldM{α:Type}(f:α→Int)(xs:List α)(m:Int):Int:=xs.foldl (fun m x=>mx m (f x)) m
def VF(kerf:Int)(ws:List Int)(kl:List Kd):Nat→Int×Int→Int
 |0,_=>0
 |n+1,p=>if 1≤p.1∧1≤p.2 then foldM (fun x=>VF kerf ws kl n (oneB x p.1.toNat p.2.toNat)+VF kerf ws kl n (twoB kerf x p.1.toNat p.2.toNat)) (cutsL p.1.toNat p.2.toNat) (leafM ws (leavesL p.1.toNat p.2.toNat kl 0) 0)else 0
def sz(p:Int×Int):Nat:=p.1.toNat+p.2.toNat
def V(kerf:Int)(ws:List Int)(kl:List Kd)(p:Int×Int):Int:=VF kerf ws kl (sz p) p
end Go.A.Pk
end
section
set_option maxRecDepth 100000
namespace Go.A.Pk
variable {T:Nat→Option AFunc}
section
variable {base:Nat} {h:Heap} {e:Env}
end
def nd(x:Nat×Nat):List Value:=[.int .u8 x.1, .int .i64 x.2]
end Go.A.Pk
end
section
set_option maxRecDepth 100000
namespace Go.A.Pk
variable {T:Nat→Option AFunc}
def ncs:List (Nat×Nat)→List Value
 |[]=>[]
 |x::l=>nd x++ncs l
inductive PlanR (kerf:Int) (ws:List Int) (kl:List Kd) (t:Tab):Int×Int→List (Nat×Nat)→Prop
 |none {p:Int×Int}:¬ (1≤p.1∧1≤p.2)→PlanR kerf ws kl t p []
 |leaf {a b:Nat} {x:Nat×Nat}:1≤a→1≤b→x∈leavesL a b kl 0→ws.getD x.2 0=look t ((a:Int),(b:Int))→PlanR kerf ws kl t ((a:Int),(b:Int)) [x]
 |cut {a b:Nat} {x:Nat×Nat} {n1 n2:List (Nat×Nat)}:1≤a→1≤b→x∈cutsL a b→look t (oneB x a b)+look t (twoB kerf x a b)=look t ((a:Int),(b:Int))→PlanR kerf ws kl t (oneB x a b) n1→PlanR kerf ws kl t (twoB kerf x a b) n2→PlanR kerf ws kl t ((a:Int),(b:Int)) (x::(n1++n2))
 |waste {a b:Nat}:1≤a→1≤b→(∀x∈leavesL a b kl 0,ws.getD x.2 0≠look t ((a:Int),(b:Int)))→(0<look t ((a:Int),(b:Int))→∀x∈cutsL a b,look t (oneB x a b)+look t (twoB kerf x a b)≠look t ((a:Int),(b:Int)))→PlanR kerf ws kl t ((a:Int),(b:Int)) [(0,0)]
def U2(h:Heap)(v:Value):Prop:=∀b o n,v= .slice (some ⟨b,o,none⟩) n UNK→∃vs own,h.get b=some (.cells vs own 2)
def PlanQ(kerf:Int)(ws:List Int)(kl:List Kd)(t:Tab)(p:Int×Int)(v:Value)(h:Heap):Prop:=∃ns a c,PlanR kerf ws kl t p ns∧v= .slice a ns.length c∧SliceOf h 2 (.slice a ns.length c) ns.length (ncs ns)∧U2 h v∧(c=UNK∨c<1000000)
theorem PlanQ.log{kerf:Int}{ws:List Int}{kl:List Kd}{t:Tab}{p:Int×Int}(v:Value)(h':Heap)(m:List Nat)(q:PlanQ kerf ws kl t p v h'):PlanQ kerf ws kl t p v {h' with log:=m}:=by
 obtain⟨ns,a,c,h1,h2,h3,h4⟩:=q
 exact⟨ns,a,c,h1,h2,h3.log m,h4⟩
structure BenchT (h:Heap) (bb mb:Nat) (sa:Option Addr) (n c:Nat) (kerf:Int) (wa:Option Addr) (wc:Nat) (kl:List Kd) (ws:List Int) (t:Tab):Prop where
 gb:h.get bb=some (.cells [.slice sa n c, .int .i64 kerf, .slice wa n wc] true 1)
 gm:h.get mb=some (.map (ents t))
 hks:SliceOf h 5 (.slice sa n c) n (kcs kl)
 hws:SliceOf h 1 (.slice wa n wc) n (ints ws)
theorem BenchT.keep{h h':Heap}{bb mb:Nat}{sa:Option Addr}{n c:Nat}{kerf:Int}{wa:Option Addr}{wc:Nat}{kl:List Kd}{ws:List Int}{t:Tab}(B:BenchT h bb mb sa n c kerf wa wc kl ws t)(hw:WF h)(hn:h.next≤h'.next)(ha:∀z,z<h.next→(∃v o s,h.get z=some (.cells v o s))∨(∃m,h.get z=some (.map m))→h'.get z=h.get z):BenchT h' bb mb sa n c kerf wa wc kl ws t:=
 ⟨(ha _ (WF.get_lt hw B.gb) (.inl ⟨_,_,_,B.gb⟩)).trans B.gb,(ha _ (WF.get_lt hw B.gm) (.inr ⟨_,B.gm⟩)).trans B.gm,SliceOf.agree B.hks hn fun b vs o s hb he=>ha b hb (.inl ⟨_,_,_,he⟩),SliceOf.agree B.hws hn fun b vs o s hb he=>ha b hb (.inl ⟨_,_,_,he⟩)⟩
theorem BenchT.ext{h h':Heap}{bb mb:Nat}{sa:Option Addr}{n c:Nat}{kerf:Int}{wa:Option Addr}{wc:Nat}{kl:List Kd}{ws:List Int}{t:Tab}(B:BenchT h bb mb sa n c kerf wa wc kl ws t)(hw:WF h)(x:Ext h h'):BenchT h' bb mb sa n c kerf wa wc kl ws t:=B.keep hw x.next fun z hz _=>x.old z hz
structure PX (H:Heap) (l p6:Nat) (L2:AObj) (D:List (Nat×Nat)→Prop) (H':Heap):Prop where
 old:∀z,z<H.next→z≠l→z≠p6→H'.get z=H.get z
 nx:H.next≤H'.next
 loop:H'.get l=some L2
 out:∃ns q c,D ns∧H.next≤q∧q<H'.next∧(ns.length≤c∧(c=UNK∨c<1000000))∧H'.get p6=some (.cells [.slice (some ⟨q,0,none⟩) ns.length c] true 1)∧H'.get q=some (.cells (ncs ns) true 2)
end Go.A.Pk
end
section
set_option maxRecDepth 100000
namespace Go.A.Pk
variable {T:Nat→Option AFunc}
def NoughtP(x:Int×Int):Prop:=x.1<1∨x.2<1
instance(x:Int×Int):Decidable (NoughtP x):=by unfold NoughtP;infer_instance
theorem PlanQ.gc{kerf:Int}{ws:List Int}{kl:List Kd}{t:Tab}{p:Int×Int}{h:Heap}(v:Value)(h1:Heap)(hv:noRef v=true)(q:PlanQ kerf ws kl t p v h1):PlanQ kerf ws kl t p v h:=by
 obtain⟨ns,a,c,R,rfl,s,u⟩:=q
 have hu:U2 h (.slice a ns.length c):=fun b o n e=>by cases e;simp[noRef,flatL,flat,scalL,scal,scal1]at hv
 refine⟨ns,a,c,R,rfl,?_,hu,u.2⟩
 clear u
 generalize ns.length=n at*
 generalize ncs ns=cs at*
 cases s with
 |nil=>exact .nil
 |mem s _=>simp[noRef,flatL,flat,scalL,scal,scal1]at hv
theorem PX.log{H:Heap}{l p6:Nat}{L2:AObj}{D:List (Nat×Nat)→Prop}{H':Heap}(m:List Nat)(p:PX H l p6 L2 D H'):PX H l p6 L2 D {H' with log:=m}:=⟨p.old,p.nx,p.loop,p.out⟩
theorem PX.up{H H0:Heap}{l p6:Nat}{L2:AObj}{D D':List (Nat×Nat)→Prop}{H':Heap}(p:PX H l p6 L2 D H')(hn:H0.next≤H.next)(ho:∀z,z<H0.next→z≠l→z≠p6→H.get z=H0.get z)(hD:∀ns,D ns→D' ns):PX H0 l p6 L2 D' H':=by
 obtain⟨ns,q,c,d,h1,h2,h3,h4,h5⟩:=p.out
 exact⟨fun z hz h6 h7=>(p.old z (by omega) h6 h7).trans (ho z hz h6 h7),Nat.le_trans hn p.nx,p.loop,ns,q,c,hD ns d,by omega,h2,h3,h4,h5⟩
end Go.A.Pk
end
section
set_option maxRecDepth 100000
namespace Go.A.Pk
variable {T:Nat→Option AFunc}
def wsP(l:List Kd):List Int:=l.map (·.worth)
def tabP(kerf:Int)(l:List Kd)(w ht:Int):Tab:=tabL kerf (wsP l) l (boardsL w.toNat ht.toNat)
def PlanO(kerf:Int)(l:List Kd)(w ht:Int)(v:Value)(h:Heap):Prop:=∃ns a c,v= .tuple #[.slice a ns.length c, .int .i64 (asked kerf l (OnB w ht))]∧SliceOf h 2 (.slice a ns.length c) ns.length (ncs ns)∧(U2 h (.slice a ns.length c)∧(c=UNK∨c<1000000))∧
 (asked kerf l (OnB w ht)=0→PlanR kerf (wsP l) l (tabP kerf l w ht) (w,ht) ns)∧(asked kerf l (OnB w ht)≠0→ns=[])
theorem PlanO.log{kerf:Int}{l:List Kd}{w ht:Int}(v:Value)(h':Heap)(m:List Nat)(q:PlanO kerf l w ht v h'):PlanO kerf l w ht v {h' with log:=m}:=by
 obtain⟨ns,a,c,h1,h2,h3,h4⟩:=q
 exact⟨ns,a,c,h1,h2.log m,h3,h4⟩
theorem PlanO.gc{kerf:Int}{l:List Kd}{w ht:Int}{h:Heap}(v:Value)(h1:Heap)(hv:noRef v=true)(q:PlanO kerf l w ht v h1):PlanO kerf l w ht v h:=by
 obtain⟨ns,a,c,rfl,s,u,r⟩:=q
 have hu:U2 h (.slice a ns.length c):=fun b o n e=>by cases e;simp[noRef,flatL,flat,scalL,scal,scal1]at hv
 refine⟨ns,a,c,rfl,?_,⟨hu,u.2⟩,r⟩
 clear r u hu
 generalize ns.length=n at*
 generalize ncs ns=cs at*
 cases s with
 |nil=>exact .nil
 |mem s _=>simp[noRef,flatL,flat,scalL,scal,scal1]at hv
end Go.A.Pk
end
section
set_option maxRecDepth 100000
namespace Go.A.Pk
variable {T:Nat→Option AFunc}
def ncI:List (Nat×Int)→List Value
 |[]=>[]
 |x::l=>[.int .u8 x.1, .int .i64 x.2]++ncI l
theorem ncI_len:∀l,(ncI l).length=l.length*2
 |[]=>rfl
 |x::l=>by simp[ncI,ncI_len l];omega
theorem ncI_drop:∀(l:List (Nat×Int)) (i:Nat),(ncI l).drop (i*2)=ncI (l.drop i)
 |[],i=>by simp[ncI]
 |x::l,0=>by simp
 |x::l,i+1=>by
  rw[List.drop_succ_cons,←ncI_drop l i,show(i+1)*2=2+i*2 by omega,←List.drop_drop]
  rfl
structure Sm where
 ok:Bool
 worth:Int
 cells:Int
 depth:Int
 used:List Int
def smC(s:Sm):List Value:= .bool s.ok:: .int .i64 s.worth:: .int .i64 s.cells:: .int .i64 s.depth::ints s.used
def z12:List Int:=[0,0,0,0,0,0,0,0,0,0,0,0]
def sm0:Sm:=⟨false,0,0,0,z12⟩
def isP(k:Kd)(kind:Nat)(p:Int×Int):Prop:=(kind=1∧k.w=p.1∧k.h=p.2)∨(kind=2∧k.turn=true∧k.h=p.1∧k.w=p.2)
instance(k:Kd)(kind:Nat)(p:Int×Int):Decidable (isP k kind p):=by unfold isP;infer_instance
def oneI(x:Nat×Int)(p:Int×Int):Int×Int:=if x.1=3 then(x.2,p.2)else(p.1,x.2)
def twoI(kerf:Int)(x:Nat×Int)(p:Int×Int):Int×Int:=if x.1=3 then(p.1-x.2-kerf,p.2)else(p.1,p.2-x.2-kerf)
def sizeI(x:Nat×Int)(p:Int×Int):Int:=if x.1=3 then p.1 else p.2
def plankS(l:List Kd)(x:Nat×Int)(p:Int×Int):Sm×Nat:=
 if 0≤x.2∧x.2≤(l.length:Int)-1 then(match l[x.2.toNat]? with
  |some k=>(⟨decide (isP k x.1 p),k.worth,p.1*p.2,0,z12.set x.2.toNat 1⟩,1)
  |none=>(sm0,0))else(sm0,0)
def nodeS(l:List Kd)(x:Nat×Int)(p:Int×Int):Sm×Nat:=
 if x.1=0 then({sm0 with ok:=decide (x.2=0)},1)else if x.1=1∨x.1=2 then plankS l x p else(sm0,0)
def joinS(kerf size at1:Int)(one two:Sm×Nat):Sm×Nat:=
 if one.1.ok=true then
  if size-at1-kerf<1 then({one.1 with depth:=one.1.depth+1},one.2+1)
  else if two.1.ok=true then(⟨true,one.1.worth+two.1.worth,one.1.cells+two.1.cells,1+mx one.1.depth two.1.depth,List.zipWith (· + ·) one.1.used two.1.used⟩,1+one.2+two.2)
  else(sm0,0)
 else(sm0,0)
def treeS(kerf:Int)(l:List Kd):Nat→Int×Int→List (Nat×Int)→Sm×Nat
 |_,_,[]=>(sm0,0)
 |0,p,x::_=>if x.1=3∨x.1=4 then(sm0,0)else nodeS l x p
 |f+1,p,x::ns=>if x.1=3∨x.1=4 then
   (if 1≤x.2∧x.2≤sizeI x p-1 then joinS kerf (sizeI x p) x.2 (treeS kerf l f (oneI x p) ns) (treeS kerf l f (twoI kerf x p) (ns.drop (treeS kerf l f (oneI x p) ns).2))else(sm0,0))
  else nodeS l x p
structure TB (s:Sm) (m:Nat):Prop where
 worth:0≤s.worth∧s.worth≤1000000*m
 cells:0≤s.cells∧s.cells≤256*m
 depth:0≤s.depth∧s.depth≤m
 len:s.used.length=12
 used:∀u∈s.used,0≤u∧u≤m
theorem TB.zero(b:Bool)(m:Nat):TB {sm0 with ok:=b} m:=⟨by show(0:Int)≤0∧(0:Int)≤_;omega,by show(0:Int)≤0∧(0:Int)≤_;omega,by show(0:Int)≤0∧(0:Int)≤_;omega,rfl,fun u hu=>by
 have:u=0:=by simpa[sm0,z12]using hu
 omega⟩
theorem node_bd{kerf:Int}{l:List Kd}(hc:chk kerf l=0)(x:Nat×Int){p:Int×Int}(h1:1≤p.1∧p.1≤16)(h2:1≤p.2∧p.2≤16):TB (nodeS l x p).1 (nodeS l x p).2∧(nodeS l x p).2≤1:=by
 unfold nodeS
 split
 ·exact⟨TB.zero _ _,Nat.le_refl _⟩
 ·split
  ·unfold plankS
   split
   ·split
    ·rename_i k hk
     have:=(chk_iff.1 hc).2.2.1 k (List.mem_of_getElem? hk)
     refine⟨⟨by dsimp only;have:=this.2.2.2;omega,?_,by show(0:Int)≤0∧(0:Int)≤_;omega,by simp[z12],fun u hu=> ?_⟩,Nat.le_refl _⟩
     ·have q1:=Int.mul_nonneg (show 0≤p.1 by omega) (show 0≤p.2 by omega)
      have q2:=Int.mul_le_mul h1.2 h2.2 (by omega) (by omega)
      dsimp only
      omega
     ·rcases List.mem_or_eq_of_mem_set hu with hu|rfl
      ·have:u=0:=by simpa[z12]using hu
       omega
      ·omega
    ·exact⟨TB.zero false _,Nat.zero_le _⟩
   ·exact⟨TB.zero false _,Nat.zero_le _⟩
  ·exact⟨TB.zero false _,Nat.zero_le _⟩
theorem zip_mem{a b:List Int}{u:Int}(h:u∈List.zipWith (· + ·) a b):∃x∈a,∃y∈b,u=x+y:=by
 induction a generalizing b with
 |nil=>simp at h
 |cons x a ih=>
  cases b with
  |nil=>simp at h
  |cons y b=>
   rw[List.zipWith_cons_cons,List.mem_cons]at h
   rcases h with rfl|h
   ·exact⟨x,List.mem_cons_self ..,y,List.mem_cons_self ..,rfl⟩
   ·obtain⟨x',hx,y',hy,e⟩:=ih h
    exact⟨x',List.mem_cons_of_mem _ hx,y',List.mem_cons_of_mem _ hy,e⟩
theorem tree_bd{kerf:Int}{l:List Kd}(hc:chk kerf l=0):∀(f:Nat) (p:Int×Int) (ns:List (Nat×Int)),1≤p.1∧p.1≤16→1≤p.2∧p.2≤16→TB (treeS kerf l f p ns).1 (treeS kerf l f p ns).2∧(treeS kerf l f p ns).2≤ns.length
 |f,p,[],_,_=>by cases f<;>exact⟨TB.zero false _,Nat.le_refl _⟩
 |0,p,x::ns,h1,h2=>by
  rw[treeS]
  split
  ·exact⟨TB.zero false _,Nat.zero_le _⟩
  ·have:=node_bd hc x h1 h2
   exact⟨this.1,by simp;omega⟩
 |f+1,p,x::ns,h1,h2=>by
  rw[treeS]
  split
  ·split
   ·rename_i hk hat
    have hk0:=(chk_iff.1 hc).2.1
    have g1:1≤(oneI x p).1∧(oneI x p).1≤16:=by unfold oneI;unfold sizeI at hat;split<;>(split at hat)<;>dsimp only<;>omega
    have g2:1≤(oneI x p).2∧(oneI x p).2≤16:=by unfold oneI;unfold sizeI at hat;split<;>(split at hat)<;>dsimp only<;>omega
    obtain⟨t1,n1⟩:=tree_bd hc f (oneI x p) ns g1 g2
    generalize treeS kerf l f (oneI x p) ns=one at*
    unfold joinS
    split
    ·split
     ·refine⟨⟨?_,?_,?_,t1.len,fun u hu=> ?_⟩,by simp;omega⟩
      ·have:=t1.worth;dsimp only;omega
      ·have:=t1.cells;dsimp only;omega
      ·have:=t1.depth;dsimp only;omega
      ·have:=t1.used u hu;omega
     ·rename_i hr
      have g3:1≤(twoI kerf x p).1∧(twoI kerf x p).1≤16:=by unfold twoI;unfold sizeI at hat hr;split<;>(split at hat)<;>(split at hr)<;>dsimp only<;>omega
      have g4:1≤(twoI kerf x p).2∧(twoI kerf x p).2≤16:=by unfold twoI;unfold sizeI at hat hr;split<;>(split at hat)<;>(split at hr)<;>dsimp only<;>omega
      obtain⟨t2,n2⟩:=tree_bd hc f (twoI kerf x p) (ns.drop one.2) g3 g4
      generalize treeS kerf l f (twoI kerf x p) (ns.drop one.2)=two at*
      rw[List.length_drop]at n2
      split
      ·refine⟨⟨?_,?_,?_,?_,fun u hu=> ?_⟩,by simp;omega⟩
       ·have:=t1.worth;have:=t2.worth;dsimp only;omega
       ·have:=t1.cells;have:=t2.cells;dsimp only;omega
       ·have:=t1.depth;have:=t2.depth;dsimp only;unfold mx;split<;>omega
       ·simp[t1.len,t2.len]
       ·obtain⟨a,ha,b,hb,rfl⟩:=zip_mem hu
        have:=t1.used a ha;have:=t2.used b hb;omega
      ·exact⟨TB.zero false _,Nat.zero_le _⟩
    ·exact⟨TB.zero false _,Nat.zero_le _⟩
   ·exact⟨TB.zero false _,Nat.zero_le _⟩
  ·have:=node_bd hc x h1 h2
   exact⟨this.1,by simp;omega⟩
theorem smC_len{s:Sm}(h:s.used.length=12):(smC s).length=16:=by simp[smC,ints,h]
theorem ones_smC(s:Sm):ones (smC s)=true:=by
 have:∀xs:List Int,ones (ints xs)=true:=fun xs=>by
  induction xs with
  |nil=>rfl
  |cons x xs ih=>exact ih
 exact this s.used
theorem smC_take{s:Sm}(h:s.used.length=12):ltake 16 (ldrop 0 (smC s))=smC s∧Nat.beq (llen (smC s)) 16=true:=
 ⟨by rw[ltake_eq,ldrop_eq,List.drop_zero,List.take_of_length_le (by rw[smC_len h];omega)],by rw[llen_eq,smC_len h];rfl⟩
theorem noRef_smC(s:Sm)(m:Int):noRef (.tuple #[.agg (smC s).toArray, .int .i64 m])=true:=by
 have:∀xs:List Int,scalL (ints xs)=true:=fun xs=>by
  induction xs with
  |nil=>rfl
  |cons x xs ih=>exact ih
 have h2:scalL (smC s)=true:=this s.used
 simp[noRef,flatL,flat,h2,scalL,scal,scal1]
section
variable {base:Nat} {h:Heap} {e:Env}
theorem a_storeAll{x y:Operand}{b n sz:Nat}{vs cs:List Value}(hx:ev h e x=some (.pointer (some ⟨b,0,none⟩)))(hy:ev h e y=some (.agg cs.toArray))(hb:h.get b=some (.cells vs true sz))(hn:cs.length=n)(hv:vs.length=n)(h1:ones cs=true):
 aop h base e (.store n x y)=some (.val (.tuple #[]) (h.wr base b (.cells cs true sz))):=by
 have hc:cellsOf (.agg cs.toArray)=cs:=by show cs.toArray.toList=cs;simp
 refine a_store hx hy hb ?_ ?_
 ·rw[hc,llen_eq,llen_eq,hn,hv,h1,nbeq_self,Nat.zero_add,nble_of (Nat.le_refl n)];rfl
 ·rw[hc,lputs_mid (by omega)]
  simp only[List.take_zero,List.nil_append,Nat.zero_add]
  rw[List.drop_of_length_le (by omega),List.append_nil]
theorem a_store1{x y:Operand}{b o sz:Nat}{vs:List Value}{v:Value}(hx:ev h e x=some (.pointer (some ⟨b,o,none⟩)))(hy:ev h e y=some v)(hb:h.get b=some (.cells vs true sz))(hc:cellsOf v=[v])(h1:ones [v]=true)(ho:o<vs.length):
 aop h base e (.store 1 x y)=some (.val (.tuple #[]) (h.wr base b (.cells (vs.set o v) true sz))):=by
 refine a_store hx hy hb ?_ ?_
 ·rw[hc,h1,llen_eq,llen_eq,nble_of (by omega)];rfl
 ·rw[hc]
  show lset vs o v=vs.set o v
  clear hx hy hb
  induction vs generalizing o with
  |nil=>simp at ho
  |cons w vs ih=>
   cases o with
   |zero=>rfl
   |succ o=>simp only[lset,List.set_cons_succ];rw[ih (by simpa using ho)]
end
def recsIn(m:Nat):List Rec→Bool
 |[]=>true
 |r::rs=>Nat.testBit m r.i&&recsIn m rs
theorem recs_all{base:Nat}{h:Heap}{mask:Nat}{lg:List Nat}:∀{rs:List Rec},recsIn mask rs=true→recsAfter h base lg mask rs=some []
 |[],_=>rfl
 |r::rs,hm=>by
  simp only[recsIn,Bool.and_eq_true]at hm
  exact ra_drop hm.1 (recs_all hm.2)
theorem a_sliceU{base:Nat}{h:Heap}{e:Env}{size b o n c i j:Nat}{x:Operand}{lo hi:Option Operand}(hx:ev h e x=some (.slice (some ⟨b,o,none⟩) n c))(hl:bnd h e 0 lo=some i)(hh:bnd h e n hi=some j)(h1:i≤j)(h2:j≤c)(h3:i<c)(h4:c<UNK):
 aop h base e (.slice (.sl size) x lo hi none)=some (.val (.slice (some ⟨b,o+i*size,none⟩) (j-i) (c-i)) h):=by
 simp only[aop,hx,sliceOp,hl,hh,nbeq_not (show c≠UNK by omega),nble_of h1,nble_of h2,nbeq_not (show c≠i by omega),Bool.and_self,cond_true,cond_false,asPair]
theorem wD_sliceLo{base:Nat}{h:Heap}{e:Env}{ops:List AOper}{bf:List Nat}{rs rsM:List Rec}{Q:Env→Heap→Prop}{i mask m2 n c k:Nat}{is:List Nat}{dst:Option Nat}{g:Option (Nat×Bool)}{er:Env}{x y:Operand}{a:Option Addr}{cs:List Value}{kd:IntKind}
 (s:SliceOf h 2 (.slice a n c) n cs)(u:U2 h (.slice a n c))(hk:k≤n)(h0:0<n)(hn:n<1000000)(hcap:c<UNK∨c=UNK)(ho:lget ops i=some ⟨dst, .slice (.sl 2) x (some y) none none,g⟩)(hm:lget bf i=some mask)(he:keepE e (slotsA ⟨dst, .slice (.sl 2) x (some y) none none,g⟩)=er)(hwt:wantedA er g=some true)
 (hx:∀H:Heap,ev H er x=some (.slice a n c))(hy:∀H:Heap,ev H er y=some (.int kd (k:Nat)))(hall:allIn bf i is=true)(hrs:recsAfter (h.push (.cells [] false 2)) base [] mask rs=some rsM)(hs1:recsIn m2 rs=true)(hs2:recsIn m2 rsM=true)(hid:Nat.testBit m2 i=true)
 (hK:∀v h' rs',Ext h h'→SliceOf h' 2 v (n-k) (cs.drop (k*2))→U2 h' v→(∃a' c',v= .slice a' (n-k) c'∧(c'<UNK∨c'=UNK))→recsIn m2 rs'=true→WD T base ops bf Q is rs' (dstE e dst v) h'):WD T base ops bf Q (i::is) rs e h:=by
 rcases s.inv with⟨_,_,hz,_⟩|⟨b,o,cap,hv,s1,hc⟩
 ·omega
 cases hv
 obtain⟨vs,own,t,g1,g2⟩:=s1.obj
 have hdrop:ltake ((n-k)*2) (ldrop (o+k*2) vs)=cs.drop (k*2):=by
  rw[←g2]
  simp only[ltake_eq,ldrop_eq,List.drop_take,List.drop_drop]
  rw[Nat.sub_mul]
 have hlen:(cs.drop (k*2)).length=(n-k)*2:=by rw[List.length_drop,s1.len,Nat.sub_mul]
 have hr2:∀v:Value,recsIn m2 (⟨i,⟨dst, .slice (.sl 2) x (some y) none none,g⟩,er,v, .quiet⟩::rs:List Rec)=true:=fun v=>by
  simp only[recsIn,Bool.and_eq_true];exact⟨hid,hs1⟩
 by_cases hU:c=UNK
 ·subst hU
  obtain⟨vs',own',g3⟩:=u b o n rfl
  rw[g1]at g3
  cases g3
  by_cases hlt:k<n
  ·refine wD_quiet ho hm he hwt rfl rfl (a_slice_lo (hx h) (hy h) g1 hlt) (hK _ _ _ (.refl h) (.mem ⟨s1.lt,⟨vs,own,2,g1,hdrop⟩,hlen⟩ (by unfold UNK;omega)) (fun b' o' n' e'=>by cases e';exact⟨vs,own,g1⟩) ⟨_,_,rfl, .inr rfl⟩ (hr2 _))
  ·obtain rfl:k=n:=by omega
   have hy':=hy {h with log:=[]}
   refine wD_made ho hm he hwt rfl rfl (a_slice_end (hx h) (hy h) g1 (by omega)) ?_ hall (a_slice_end (h:={h with log:=[]}) (hx _) hy' g1 (by omega)) (eq_push _) (lg_push _) hrs ?_
   ·show Nat.beq (h.next+1) h.next=false
    exact nbeq_not (by omega)
   ·refine hK _ _ _ ((Ext.refl h).push _) ?_ (fun b' o' n' e'=>by cases e';exact⟨[],false,z3 _ _⟩) ⟨some ⟨h.next,0,none⟩,UNK,by rw[Nat.sub_self], .inr rfl⟩ hs2
    rw[Nat.sub_self,List.drop_of_length_le (by rw[s1.len];omega)]
    exact .mem ⟨Nat.lt_succ_self _,⟨[],false,2,z3 _ _,rfl⟩,rfl⟩ (Nat.zero_le _)
 ·have hcl:c<UNK:=hcap.elim id fun q=>absurd q hU
  by_cases hck:c=k
  ·have hbk:Nat.beq c k=true:=by rw[hck];exact nbeq_self k
   have hop:∀H:Heap,aop H base er (.slice (.sl 2) x (some y) none none)=some (.val (.slice (some ⟨b,o,none⟩) (n-k) (c-k)) H):=fun H=>by
    simp only[aop,hx H,sliceOp,bnd_some (hy H),bnd_none,nbeq_not hU,nble_of hk,nble_of hc,hbk,Bool.and_self,cond_true,cond_false,asPair]
   obtain rfl:k=n:=by omega
   refine wD_quiet ho hm he hwt rfl rfl (hop h) (hK _ _ _ (.refl h) ?_ (fun b' o' n' e'=>by injection e' with e1 e2 e3;unfold UNK at e3 hcl;omega) ⟨_,_,rfl, .inl (by omega)⟩ (hr2 _))
   rw[Nat.sub_self,List.drop_of_length_le (by rw[s1.len];omega)]
   exact .mem ⟨s1.lt,⟨vs,own,t,g1,by rw[Nat.zero_mul];cases ldrop o vs<;>rfl⟩,rfl⟩ (Nat.zero_le _)
  ·refine wD_quiet ho hm he hwt rfl rfl (a_sliceU (hi:=none) (hx h) (bnd_some (hy h)) bnd_none hk hc (by omega) hcl) (hK _ _ _ (.refl h) (.mem ⟨s1.lt,⟨vs,own,t,g1,hdrop⟩,hlen⟩ (by omega)) (fun b' o' n' e'=>by injection e' with e1 e2 e3;unfold UNK at e3 hcl;omega) ⟨_,_,rfl, .inl (by omega)⟩ (hr2 _))
theorem wD_storeAll{base:Nat}{h:Heap}{e:Env}{ops:List AOper}{bf:List Nat}{rs rs':List Rec}{Q:Env→Heap→Prop}{i mask:Nat}{is:List Nat}{dst:Option Nat}{g:Option (Nat×Bool)}{er:Env}{x y:Operand}{b n sz:Nat}{vs cs:List Value}
 (ho:lget ops i=some ⟨dst, .store n x y,g⟩)(hm:lget bf i=some mask)(he:keepE e (slotsA ⟨dst, .store n x y,g⟩)=er)(hwt:wantedA er g=some true)(hx:ev {h with log:=[]} er x=some (.pointer (some ⟨b,0,none⟩)))(hy:ev {h with log:=[]} er y=some (.agg cs.toArray))(hb:h.get b=some (.cells vs true sz))
 (hn:cs.length=n)(hv:vs.length=n)(h1:ones cs=true)(hlt:b<h.next)(hbb:base≤b)(hrs:recsAfter (h.wr base b (.cells cs true sz)) base [b] mask rs=some rs')
 (H:WD T base ops bf Q is rs' (dstE e dst (.tuple #[])) (h.wr base b (.cells cs true sz))):WD T base ops bf Q (i::is) rs e h:=
 wD_actH ho hm he hwt rfl (a_storeAll (h:={h with log:=[]}) hx hy hb hn hv h1) (eq_wr hlt hbb _) (lg_wr hlt _) hrs H
end Go.A.Pk
end
section
set_option maxRecDepth 100000
namespace Go.A.Pk
variable {T:Nat→Option AFunc}
structure FnsTr (T:Nat→Option AFunc):Prop where
 p:primAS T
 f80:T 80=some f80
 f137:T 137=some f137
def blkB:ACode→ACode
 | .block _ b=>b
 |c=>c
def cnA:ACode→ACode
 | .cond _ a _=>a
 |c=>c
def cnB:ACode→ACode
 | .cond _ _ b=>b
 |c=>c
def tB0:ACode:=blkB (cR (cL (cR (cR (cR (codeOf f137))))))
def tA12:ACode:=cnA (cR (cnB (cR tB0)))
def tA34:ACode:=cnA (cR (cnB (cR (cnB (cR tB0)))))
theorem wE_cutT{base:Nat}{rnd:Option Nat}{Q:XQ}{e:Env}{E0:Env}{ds:Dfs}{h H0:Heap}{a b:ACode}(H1:WE T base rnd a (fun x e' ds' h'=>x= .normal∧e'=E0∧ds'=[]∧h'=H0) e ds h)(H2:WE T base rnd b Q E0 [] H0):WE T base rnd (.seq a b) Q e ds h:=by
 refine wE_seq (H1.mono ?_)
 rintro x e' ds' h' ⟨rfl,rfl,rfl,rfl⟩
 exact kS_n H2
theorem WE.genT{base:Nat}{rnd:Option Nat}{c:ACode}{Q:XQ}{e:Env}{ds:Dfs}{h:Heap}(hK:∀hA,hA=h→WE T base rnd c Q e ds hA):WE T base rnd c Q e ds h:=hK h rfl
theorem set_smC(b:Bool)(w c d:Int)(us:List Int)(i:Nat)(v:Int):(smC ⟨b,w,c,d,us⟩).set (0+4+i*1) (.int .i64 v)=smC ⟨b,w,c,d,us.set i v⟩:=by
 rw[show 0+4+i*1=i+4 by omega]
 simp[smC,ints,List.map_set]
def treeV(s:Sm×Nat):Value:= .tuple #[.agg (smC s.1).toArray, .int .i64 (s.2:Nat)]
def treeRs:List (Nat×Option (Option Nat)):=[(8,some (some 16)),(9,none)]
theorem tree_end{h:Heap}{e:Env}{p8:Nat}{s:Sm}{m:Nat}(hl:s.used.length=12)(hlog:h.log=[])(e8:geT e 8=some (.pointer (some ⟨p8,0,none⟩)))(e9:geT e 9=some (.int .i64 (m:Nat)))(g8:h.get p8=some (.cells (smC s) true 1)):endP treeRs (treeV (s,m)) .ret e [] h:=
 endP_ret hlog (res_cells e8 g8 (smC_take hl).1 (smC_take hl).2 (res_slot e9 res_nil)) rfl
set_option maxHeartbeats 16000000 in
theorem tree_plank(F:FnsTr T){base p4 p8 p10:Nat}{H:Heap}(hw:WF H)(hlog:H.log=[])(hb8:base≤p8)(hbase:base≤H.next){a:Option Addr}{c:Nat}{l:List Kd}{kerf:Int}{x:Nat×Int}{p:Int×Int}(hks:SliceOf H 5 (.slice a l.length c) l.length (kcs l))(hc:chk kerf l=0)
 (g4:H.get p4=some (.cells [.slice a l.length c, .int .i64 kerf] true 1))(g8:H.get p8=some (.cells (smC sm0) true 1))(g10:H.get p10=some (.cells [.int .u8 x.1, .int .i64 x.2] true 1))(hx:x.1=1∨x.1=2)(h1:1≤p.1∧p.1≤16)(h2:1≤p.2∧p.2≤16){v3 v32:Value}{Q:XQ}
 (hQ:∀e H',endP treeRs (treeV (plankS l x p)) .ret e [] H'→Q .ret e [] H'):
 WE T base none tA12 Q [(1, .int .i64 p.1),(2, .int .i64 p.2),(3,v3),(4, .pointer (some ⟨p4,0,none⟩)),(8, .pointer (some ⟨p8,0,none⟩)),(10, .pointer (some ⟨p10,0,none⟩)),(32,v32),(39, .bool true)] [] H:=by
 have k4:=WF.get_lt hw g4
 have k8:=WF.get_lt hw g8
 have k10:=WF.get_lt hw g10
 have hl12:=(chk_iff.1 hc).1
 obtain⟨xk,xa⟩:=x
 obtain⟨p1,p2⟩:=p
 dsimp only at g10 hx h1 h2⊢
 unfold tA12 tB0
 simp only[cR,cL,cnA,cnB,blkB,codeOf,f137]
 refine wE_seq ?_;refine y4 ?_;refine yF ?_;refine yL ?_;refine yF ?_;refine yL ?_;refine yD ?_
 refine ysub ?_
 refine yC ?_
 by_cases hin:0≤xa∧xa≤(l.length:Int)-1
 ·refine FW.pu (in80T F.p F.f80 (.of hw) hin) ?_
  obtain⟨i,rfl⟩:=Int.eq_ofNat_of_zero_le hin.1
  have hil:i<l.length:=by omega
  obtain⟨k,hkl⟩:∃k,l[i]? =some k:=⟨l[i],List.getElem?_eq_getElem hil⟩
  have hP:plankS l (xk,(i:Int)) (p1,p2)=(⟨decide (isP k xk (p1,p2)),k.worth,p1*p2,0,z12.set i 1⟩,1):=by
   unfold plankS
   rw[if_pos hin]
   simp only[Int.toNat_natCast,hkl]
  rw[hP]at hQ
  clear hP
  rcases hks.inv with⟨_,_,h0,_⟩|⟨kb,ko,kcap,hv,sk,hkcap⟩
  ·omega
  cases hv
  obtain⟨vk,ownk,tk,gk1,gk2⟩:=slice_elem sk hkl
  obtain⟨id,kw,kh,kwo,tu⟩:=k
  have gk2':ltake 5 (ldrop (ko+i*5) vk)=[.int .i64 id, .int .i64 kw, .int .i64 kh, .int .i64 kwo, .bool tu]:=gk2
  have em:numOp .mul (.int .i64 p1) (.int .i64 p2)=some (.int .i64 (p1*p2)):=by
   have q1:=Int.mul_nonneg (show 0≤p1 by omega) (show 0≤p2 by omega)
   have q2:=Int.mul_le_mul h1.2 h2.2 (by omega) (by omega)
   have e:wrapA .i64 (p1*p2)=p1*p2:=wrapA_i64 (by omega) (by omega)
   simp[numOp,arith,e]
  clear gk2
  refine yA ?_;refine y3 ?_;refine yX ?_;refine wE_skip ?_;refine kS_n ?_;refine y4 ?_;refine yF ?_;refine yL ?_
  refine yF ?_;refine yL ?_;refine wO_val (a_iaddrS (by exact rfl) (by exact rfl) (by omega)) ?_
  refine wO_val (a_loadN (by exact rfl) gk1 gk2' (by exact rfl)) ?_
  refine wO_val a_new ?_
  refine wO_val (a_store (ws:=[.int .i64 id, .int .i64 kw, .int .i64 kh, .int .i64 kwo, .bool tu]) (by exact rfl) (by exact rfl) (by(simp(disch:=first|omega|(simp only[z1,z2];omega))only[z3,z4,z5,z6,z7,z1,z2, *];exact rfl)) (by exact rfl) (by exact rfl)) ?_
  refine y3 ?_
  refine WE.genT ?_
  intro hA hAe
  have hxA:Ext H hA:=by rw[hAe];exact((Ext.refl H).push _).wr (by omega) (by omega)
  have A11:hA.get H.next=some (.cells [.int .i64 id, .int .i64 kw, .int .i64 kh, .int .i64 kwo, .bool tu] true 1):=by rw[hAe];(simp(disch:=first|omega|(simp only[z1,z2];omega))only[z3,z4,z5,z6,z7,z1,z2, *];done)
  have hnA:hA.next=H.next+1:=by rw[hAe];rfl
  have A8:=(hxA.old _ k8).trans g8
  have A10:=(hxA.old _ k10).trans g10
  have wA:=hxA.wf hw
  have lA:=hxA.log.trans hlog
  clear hAe gk1 gk2' g4 g8 g10
  refine wE_cutT (E0:=[(1, .int .i64 p1),(2, .int .i64 p2),(8, .pointer (some ⟨p8,0,none⟩)),(10, .pointer (some ⟨p10,0,none⟩)),(11, .pointer (some ⟨H.next,0,none⟩)),(12, .bool (decide (xk=1∧kw=p1∧kh=p2)))]) (H0:=hA) ?_ ?_
  ·by_cases c1:xk=1
   ·by_cases c2:kw=p1
    ·by_cases c3:kh=p2
     ·rw[decide_eq_true (show xk=1∧kw=p1∧kh=p2 from⟨c1,c2,c3⟩)]
      refine wE_region ?_;refine yF ?_;refine yL ?_;refine yt ?_;refine yM ?_;refine yO ?_;refine yF ?_;refine yO ?_
      refine yL ?_;refine yO ?_;refine yM ?_;refine yO ?_;refine yt ?_;refine yT ?_;refine yM ?_;refine yO ?_
      refine yF ?_;refine yO ?_;refine yL ?_;refine yO ?_;refine yM ?_;refine yO ?_;refine yt ?_;refine yT ?_
      refine yM ?_;refine wO_nil ?_;refine y1 ?_
      exact⟨rfl,rfl,rfl,rfl⟩
     ·rw[decide_eq_false (show¬ (xk=1∧kw=p1∧kh=p2)from fun q=>c3 q.2.2)]
      refine wE_region ?_;refine yF ?_;refine yL ?_;refine yt ?_;refine yM ?_;refine yO ?_;refine yF ?_;refine yO ?_
      refine yL ?_;refine yO ?_;refine yM ?_;refine yO ?_;refine yt ?_;refine yT ?_;refine yM ?_;refine yO ?_
      refine yF ?_;refine yO ?_;refine yL ?_;refine yO ?_;refine yM ?_;refine yO ?_;refine yf ?_;refine yT ?_
      refine yM ?_;refine wO_nil ?_;refine y1 ?_
      exact⟨rfl,rfl,rfl,rfl⟩
    ·rw[decide_eq_false (show¬ (xk=1∧kw=p1∧kh=p2)from fun q=>c2 q.2.1)]
     refine wE_region ?_;refine yF ?_;refine yL ?_;refine yt ?_;refine yM ?_;refine yO ?_;refine yF ?_;refine yO ?_
     refine yL ?_;refine yO ?_;refine yM ?_;refine yO ?_;refine yf ?_;refine yT ?_;refine yM ?_
     refine yP ?_;refine yP ?_;refine yP ?_;refine yP ?_;refine yU ?_;refine yM ?_;refine wO_nil ?_
     refine y1 ?_
     exact⟨rfl,rfl,rfl,rfl⟩
   ·rw[decide_eq_false (show¬ (xk=1∧kw=p1∧kh=p2)from fun q=>c1 q.1)]
    refine wE_region ?_;refine yF ?_;refine yL ?_;refine yf ?_;refine yM ?_;refine yP ?_;refine yP ?_
    refine yP ?_;refine yP ?_;refine yU ?_;refine yM ?_;refine yP ?_;refine yP ?_;refine yP ?_;refine yP ?_
    refine yU ?_;refine yM ?_;refine wO_nil ?_;refine y1 ?_
    exact⟨rfl,rfl,rfl,rfl⟩
  refine wE_cutT (E0:=[(1, .int .i64 p1),(2, .int .i64 p2),(8, .pointer (some ⟨p8,0,none⟩)),(10, .pointer (some ⟨p10,0,none⟩)),(11, .pointer (some ⟨H.next,0,none⟩)),(12, .bool (decide (xk=1∧kw=p1∧kh=p2))),(13, .bool (decide (xk=2∧tu=true∧kh=p1∧kw=p2)))]) (H0:=hA) ?_ ?_
  ·by_cases c1:xk=2
   ·cases tu with
    |false=>
     rw[decide_eq_false (show¬ (xk=2∧false=true∧kh=p1∧kw=p2)from fun q=>by cases q.2.1)]
     refine wE_region ?_;refine yF ?_;refine yL ?_;refine yt ?_;refine yM ?_;refine yO ?_;refine yF ?_;refine yO ?_
     refine yL ?_;refine yT ?_;refine yM ?_;refine yP ?_;refine yP ?_;refine yP ?_;refine yP ?_
     refine yU ?_;refine yM ?_;refine yP ?_;refine yP ?_;refine yP ?_;refine yP ?_;refine yU ?_;refine yM ?_
     refine wO_nil ?_;refine y1 ?_
     exact⟨rfl,rfl,rfl,rfl⟩
    |true=>
     by_cases c2:kh=p1
     ·by_cases c3:kw=p2
      ·rw[decide_eq_true (show xk=2∧true=true∧kh=p1∧kw=p2 from⟨c1,rfl,c2,c3⟩)]
       refine wE_region ?_;refine yF ?_;refine yL ?_;refine yt ?_;refine yM ?_;refine yO ?_;refine yF ?_;refine yO ?_
       refine yL ?_;refine yT ?_;refine yM ?_;refine yO ?_;refine yF ?_;refine yO ?_;refine yL ?_;refine yO ?_
       refine yM ?_;refine yO ?_;refine yt ?_;refine yT ?_;refine yM ?_;refine yO ?_;refine yF ?_;refine yO ?_
       refine yL ?_;refine yO ?_;refine yM ?_;refine yO ?_;refine yt ?_;refine yT ?_;refine yM ?_;refine wO_nil ?_
       refine y1 ?_
       exact⟨rfl,rfl,rfl,rfl⟩
      ·rw[decide_eq_false (show¬ (xk=2∧true=true∧kh=p1∧kw=p2)from fun q=>c3 q.2.2.2)]
       refine wE_region ?_;refine yF ?_;refine yL ?_;refine yt ?_;refine yM ?_;refine yO ?_;refine yF ?_;refine yO ?_
       refine yL ?_;refine yT ?_;refine yM ?_;refine yO ?_;refine yF ?_;refine yO ?_;refine yL ?_;refine yO ?_
       refine yM ?_;refine yO ?_;refine yt ?_;refine yT ?_;refine yM ?_;refine yO ?_;refine yF ?_;refine yO ?_
       refine yL ?_;refine yO ?_;refine yM ?_;refine yO ?_;refine yf ?_;refine yT ?_;refine yM ?_;refine wO_nil ?_
       refine y1 ?_
       exact⟨rfl,rfl,rfl,rfl⟩
     ·rw[decide_eq_false (show¬ (xk=2∧true=true∧kh=p1∧kw=p2)from fun q=>c2 q.2.2.1)]
      refine wE_region ?_;refine yF ?_;refine yL ?_;refine yt ?_;refine yM ?_;refine yO ?_;refine yF ?_;refine yO ?_
      refine yL ?_;refine yT ?_;refine yM ?_;refine yO ?_;refine yF ?_;refine yO ?_;refine yL ?_;refine yO ?_
      refine yM ?_;refine yO ?_;refine yf ?_;refine yT ?_;refine yM ?_;refine yP ?_;refine yP ?_;refine yP ?_
      refine yP ?_;refine yU ?_;refine yM ?_;refine wO_nil ?_;refine y1 ?_
      exact⟨rfl,rfl,rfl,rfl⟩
   ·rw[decide_eq_false (show¬ (xk=2∧tu=true∧kh=p1∧kw=p2)from fun q=>c1 q.1)]
    refine wE_region ?_;refine yF ?_;refine yL ?_;refine yf ?_;refine yM ?_;refine yP ?_;refine yP ?_
    refine yU ?_;refine yM ?_;refine yP ?_;refine yP ?_;refine yP ?_;refine yP ?_;refine yU ?_;refine yM ?_
    refine yP ?_;refine yP ?_;refine yP ?_;refine yP ?_;refine yU ?_;refine yM ?_;refine wO_nil ?_
    refine y1 ?_
    exact⟨rfl,rfl,rfl,rfl⟩
  have hor:decide (isP ⟨id,kw,kh,kwo,tu⟩ xk (p1,p2))=(decide (xk=1∧kw=p1∧kh=p2)||decide (xk=2∧tu=true∧kh=p1∧kw=p2)):=by
   by_cases q1:xk=1∧kw=p1∧kh=p2
   ·rw[decide_eq_true (show isP ⟨id,kw,kh,kwo,tu⟩ xk (p1,p2)from .inl q1),decide_eq_true q1];rfl
   ·by_cases q2:xk=2∧tu=true∧kh=p1∧kw=p2
    ·rw[decide_eq_true (show isP ⟨id,kw,kh,kwo,tu⟩ xk (p1,p2)from .inr q2),decide_eq_false q1,decide_eq_true q2];rfl
    ·rw[decide_eq_false (show¬isP ⟨id,kw,kh,kwo,tu⟩ xk (p1,p2)from fun q=>q.elim q1 q2),decide_eq_false q1,decide_eq_false q2];rfl
  rw[hor]at hQ
  dsimp only at hQ
  generalize decide (xk=1∧kw=p1∧kh=p2)=b12 at*
  generalize decide (xk=2∧tu=true∧kh=p1∧kw=p2)=b13 at*
  clear hor
  cases b12 with
  |true=>
   refine y4 ?_;refine yM ?_;refine yM ?_;refine yP ?_;refine yT ?_;refine yF ?_;refine yL ?_;refine yM ?_
   refine yM ?_;refine wO_val (a_num (by exact rfl) (by exact rfl) (by with_reducible assumption)) ?_;refine wO_val (a_build (by exact rfl)) ?_;refine wO_val a_new ?_
   refine yS ?_;refine y3 ?_;refine y4 ?_;refine yF ?_
   refine yL ?_;refine yF ?_;refine wO_val (a_iaddrA (by exact rfl) (by exact rfl) (by omega)) ?_
   refine wO_val (a_store1 (b:=hA.next) (o:=0+4+i*1) (vs:=smC ⟨true,kwo,p1*p2,0,z12⟩) (by exact rfl) (by exact rfl) (by(simp(disch:=first|omega|(simp only[z1,z2];omega)|(simp only[z1,z2];done)|fail)only[z8,z4,z5,z9,z7,z1,z2, *];exact rfl)) (by exact rfl) (by exact rfl) (by show 0+4+i*1<16;omega)) ?_
   rw[set_smC]
   refine y3 ?_;refine y4 ?_
   refine wO_val (a_loadN (l:=smC ⟨true,kwo,p1*p2,0,z12.set i 1⟩) (by exact rfl) (by(simp(disch:=first|omega|(simp only[z1,z2];omega)|(simp only[z1,z2];done)|fail)only[z8,z4,z5,z9,z7,z1,z2, *];exact rfl)) (smC_take (by simp[z12])).1 (smC_take (by simp[z12])).2) ?_
   refine wO_val (a_storeAll (cs:=smC ⟨true,kwo,p1*p2,0,z12.set i 1⟩) (vs:=smC sm0) (by exact rfl) (by exact rfl) (by(simp(disch:=first|omega|(simp only[z1,z2];omega))only[z3,z4,z5,z6,z7,z1,z2, *];exact rfl)) (smC_len (by simp[z12])) rfl (ones_smC _)) ?_
   refine yM ?_;refine y3 ?_;refine wE_ret ?_
   refine hQ _ _ (tree_end (p8:=p8) (by simp[z12]) ?_ rfl rfl (by(simp(disch:=first|omega|(simp only[z1,z2];omega))only[z3,z4,z5,z6,z7,z1,z2, *];exact rfl)))
   simp(disch:=first|omega|(simp only[z1,z2];omega))only[Heap.log_wr_new,Heap.log_push]
   exact lA
  |false=>
   refine y4 ?_;refine yM ?_;refine yM ?_;refine yO ?_;refine yM ?_;refine yU ?_;refine yF ?_;refine yL ?_
   refine yM ?_;refine yM ?_;refine wO_val (a_num (by exact rfl) (by exact rfl) (by with_reducible assumption)) ?_;refine wO_val (a_build (by exact rfl)) ?_;refine wO_val a_new ?_
   refine yS ?_;refine y3 ?_;refine y4 ?_;refine yF ?_
   refine yL ?_;refine yF ?_;refine wO_val (a_iaddrA (by exact rfl) (by exact rfl) (by omega)) ?_
   refine wO_val (a_store1 (b:=hA.next) (o:=0+4+i*1) (vs:=smC ⟨b13,kwo,p1*p2,0,z12⟩) (by exact rfl) (by exact rfl) (by(simp(disch:=first|omega|(simp only[z1,z2];omega)|(simp only[z1,z2];done)|fail)only[z8,z4,z5,z9,z7,z1,z2, *];exact rfl)) (by exact rfl) (by exact rfl) (by show 0+4+i*1<16;omega)) ?_
   rw[set_smC]
   refine y3 ?_;refine y4 ?_
   refine wO_val (a_loadN (l:=smC ⟨b13,kwo,p1*p2,0,z12.set i 1⟩) (by exact rfl) (by(simp(disch:=first|omega|(simp only[z1,z2];omega)|(simp only[z1,z2];done)|fail)only[z8,z4,z5,z9,z7,z1,z2, *];exact rfl)) (smC_take (by simp[z12])).1 (smC_take (by simp[z12])).2) ?_
   refine wO_val (a_storeAll (cs:=smC ⟨b13,kwo,p1*p2,0,z12.set i 1⟩) (vs:=smC sm0) (by exact rfl) (by exact rfl) (by(simp(disch:=first|omega|(simp only[z1,z2];omega))only[z3,z4,z5,z6,z7,z1,z2, *];exact rfl)) (smC_len (by simp[z12])) rfl (ones_smC _)) ?_
   refine yM ?_;refine y3 ?_;refine wE_ret ?_
   refine hQ _ _ (tree_end (p8:=p8) (by simp[z12]) ?_ rfl rfl (by(simp(disch:=first|omega|(simp only[z1,z2];omega))only[z3,z4,z5,z6,z7,z1,z2, *];exact rfl)))
   simp(disch:=first|omega|(simp only[z1,z2];omega))only[Heap.log_wr_new,Heap.log_push]
   exact lA
 ·refine FW.pu (in80F F.p F.f80 (.of hw) hin) ?_
  have hP:plankS l (xk,xa) (p1,p2)=(sm0,0):=by unfold plankS;rw[if_neg hin]
  rw[hP]at hQ
  refine yA ?_;refine y3 ?_;refine yY ?_;refine y4 ?_;refine wO_val (a_build (by exact rfl)) ?_;refine yS ?_
  refine yM ?_;refine y3 ?_;refine wE_ret ?_;refine kS_r ?_
  exact hQ _ _ (tree_end (p8:=p8) rfl ((Heap.log_wr_new hb8).trans hlog) rfl rfl (by(simp(disch:=first|omega|(simp only[z1,z2];omega))only[z3,z4,z5,z6,z7,z1,z2, *];exact rfl)))
end Go.A.Pk
end
