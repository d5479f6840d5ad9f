/- Walks of functions, plain laws, the table. -/
import Derived.Test.YteafdpbjocdbbaaGreatDoorOU2
import Derived.Test.YteafdpbjocdbbaaGreatDoorOU0
import Derived.Test.YteafdpbjocdbbaaGreatDoorOF
import Derived.Test.YteafdpbjocdbbaaGreatDoorOH
import Derived.Test.YteafdpbjocdbbaaGreatDoorOT
import Derived.Test.YteafdpbjocdbbaaGreatDoorOD
set_option linter.all false
section
set_option maxRecDepth 100000
namespace Go.A.Pk
variable {T:Nat→Option AFunc}
set_option maxHeartbeats 4000000 in
theorem raskK99(F:FnsD T){h:Heap}(hr:Rdy h){a:Option Addr}{n c:Nat}{l:List Kd}(hs:SliceOf h 5 (.slice a n c) n (kcs l))(kerf:Int)(hn:n<1000000)(w ht kind:Int):
 Pu T 99 [.agg #[.slice a n c, .int .i64 kerf], .int .i64 w, .int .i64 ht, .int .i64 kind] h (.int .i64 (askK kerf l w ht kind)):=by
 refine .of F.p F.f99 hr rfl ?_
 have hx:Ext h (h.push (.cells [.slice a n c, .int .i64 kerf] true 1)):=(Ext.refl h).push _
 obtain rfl:n=l.length:=by have:=hs.len;rw[kcs_length]at this;omega
 have C1:=asked79 F (.of (hx.wf hr.wf)) ((hs.ext hx).log []) kerf w ht hn
 change Pu T 79 _ _ (.int .i64 (asked kerf l (OnB w ht)))at C1
 refine y4 ?_;refine yB ?_;refine yM ?_;refine y3 ?_;refine y4 ?_
 refine yN ?_;refine yM ?_;refine yM ?_
 refine yC ?_
 refine FW.pu C1 ?_
 by_cases hA:asked kerf l (OnB w ht)=0
 ·obtain⟨hc,hb⟩:=asked_zero hA
  rw[hA]
  by_cases hk:0≤kind∧kind<(l.length:Int)
  ·rw[show askK kerf l w ht kind=0 from asked_ok hc ⟨hb,hk⟩]
   refine yM ?_;refine y3 ?_;refine wE_seq ?_;refine y4 ?_;refine yM ?_;refine yt ?_;refine yM ?_
   refine yO ?_;refine yM ?_;refine yO ?_;refine yF ?_;refine yO ?_
   refine yL ?_;refine yO ?_;refine yD ?_;refine yO ?_
   refine ysub ?_;refine yO ?_
   refine yC ?_
   refine FW.pu (in80T F.p F.f80 (.of (hx.wf hr.wf)) (by omega)) ?_
   refine yO ?_;refine yA ?_;refine yT ?_;refine y3 ?_;refine yX ?_;refine wE_skip ?_;refine kS_n ?_;refine y4 ?_
   refine yM ?_;refine yM ?_;refine y3 ?_;refine wE_ret ?_
   exact endP_ret hr.log rfl rfl
  ·rw[show askK kerf l w ht kind=1 by unfold askK asked;rw[if_pos hc,if_neg (fun q=>hk q.2)]]
   refine yM ?_;refine y3 ?_;refine wE_seq ?_;refine y4 ?_;refine yM ?_;refine yt ?_;refine yM ?_
   refine yO ?_;refine yM ?_;refine yO ?_;refine yF ?_;refine yO ?_
   refine yL ?_;refine yO ?_;refine yD ?_;refine yO ?_
   refine ysub ?_;refine yO ?_
   refine yC ?_
   refine FW.pu (in80F F.p F.f80 (.of (hx.wf hr.wf)) (by omega)) ?_
   refine yO ?_;refine yA ?_;refine yT ?_;refine y3 ?_;refine yY ?_;refine wE_region ?_;refine yM ?_;refine y3 ?_;refine y4 ?_;refine yM ?_;refine yM ?_;refine y3 ?_;refine wE_ret ?_
   exact endP_ret hr.log rfl rfl
 ·have e:askK kerf l w ht kind=asked kerf l (OnB w ht):=by
   unfold askK asked at*
   by_cases hc:chk kerf l=0
   ·rw[if_pos hc]at hA⊢
    rw[if_pos hc]
    by_cases hb:OnB w ht
    ·rw[if_pos hb]at hA;exact(hA rfl).elim
    ·rw[if_neg hb,if_neg (fun q=>hb q.1)]
   ·rw[if_neg hc,if_neg hc]
  rw[e]
  refine yM ?_;refine y3 ?_;refine wE_seq ?_;refine y4 ?_;refine yM ?_;refine yf ?_;refine yM ?_
  refine yP ?_;refine yP ?_;refine yP ?_;refine yP ?_;refine yP ?_;refine yP ?_;refine yP ?_;refine yU ?_
  refine y3 ?_;refine yX ?_;refine wE_skip ?_;refine kS_n ?_;refine y4 ?_;refine yM ?_;refine yM ?_;refine y3 ?_;refine wE_ret ?_
  exact endP_ret hr.log rfl rfl
set_option maxHeartbeats 8000000 in
theorem rwith41(F:FnsRC T){h:Heap}(hr:Rdy h){a:Option Addr}{n c:Nat}{l:List Kd}(hs:SliceOf h 5 (.slice a n c) n (kcs l))(kerf:Int)(hn:n<1000000)(w ht kind:Int):
 Pu T 41 [.agg #[.slice a n c, .int .i64 kerf], .int .i64 w, .int .i64 ht, .int .i64 kind] h (withR kerf l w ht kind):=by
 refine .of F.toFnsRW.p F.f41 hr rfl ?_
 have hx:Ext h (h.push (.cells [.slice a n c, .int .i64 kerf] true 1)):=(Ext.refl h).push _
 obtain rfl:n=l.length:=by have:=hs.len;rw[kcs_length]at this;omega
 refine y4 ?_;refine yB ?_;refine yM ?_;refine yM ?_;refine yM ?_;refine y3 ?_;refine y4 ?_
 refine yN ?_;refine yM ?_;refine yM ?_
 refine yM ?_
 refine yC ?_
 refine FW.pu (raskK99 F.toFnsD (.of (hx.wf hr.wf)) ((hs.ext hx).log []) kerf hn w ht kind) ?_
 by_cases hK:askK kerf l w ht kind=0
 ·obtain⟨hc,hb,k,rfl,hk⟩:=askK_zero hK
  obtain⟨q1,q2,q3,q4⟩:=chk_iff.1 hc
  have hb0:=hb
  obtain⟨⟨e1,e2⟩,e3,e4⟩:=hb0
  obtain⟨w,rfl⟩:=Int.eq_ofNat_of_zero_le (show 0≤w by omega)
  obtain⟨ht,rfl⟩:=Int.eq_ofNat_of_zero_le (show 0≤ht by omega)
  have C2:=rwith100 F.toFnsRW (.of (hx.wf hr.wf)) ((hs.ext hx).log []) (kind:=k) (W:=1000000) (by omega) hk ⟨q2.1,by omega⟩ (by omega) (wsOf_bd hc)
  have hq:=rwith_eq hc hb hk
  have c1:=grid_get (f:=Hf (-1000000000000) kerf (wsOf l) l k) (a:=w) (b:=ht) (by omega) (by omega)
  have hl:(ints (grid (Hf (-1000000000000) kerf (wsOf l) l k))).length=289:=by rw[ints_len,grid_len]
  have eC:ones (ints (grid (Hf (-1000000000000) kerf (wsOf l) l k)))=true:=ones_ints _
  have hlog:∀XS:List Value,(((h.push (.cells [.slice a l.length c, .int .i64 kerf] true 1)).push (.cells (lrep 289 (.int .i64 0)) true 1)).wr h.next (h.next+1) (.cells XS true 1)).log=[]:=fun XS=>(Heap.log_wr_new (Nat.le_succ _)).trans hr.log
  rw[hK]
  refine yM ?_;refine y3 ?_;refine wE_seq ?_;refine y4 ?_;refine yM ?_;refine yf ?_;refine y3 ?_;refine yX ?_;refine wE_skip ?_;refine kS_n ?_;refine y4 ?_
  refine yN ?_;refine yM ?_
  refine yC ?_
  refine FW.pu C2 ?_
  generalize ints (grid (Hf (-1000000000000) kerf (wsOf l) l k))=XS at*
  by_cases hneg:kw kerf l k ((w:Int),(ht:Int)) 0<0
  ·rw[withR_neg hK hneg]
   have hn2:Hf (-1000000000000) kerf (wsOf l) l k w ht<0:=by
    by_cases h:0≤Hf (-1000000000000) kerf (wsOf l) l k w ht
    ·have:=hq.1.2 h;omega
    ·omega
   clear hq
   refine wO_val a_new ?_
   refine wO_val (a_store (ws:=XS) (by exact rfl) (by exact rfl) (by(simp(disch:=first|omega|(simp only[z1,z2];omega)|(simp only[z1,z2];done)|fail)only[z8,z4,z5,z9,z7,z1,z2, *];exact rfl)) (st_all hl rep_len eC) (lputs_all (by show XS.length=_;rw[hl,rep_len]))) ?_
   refine y3 ?_;refine wE_seq ?_;refine y4 ?_;refine yM ?_;refine yM ?_;refine wO_val (a_iaddrA (by exact rfl) (by exact rfl) (by omega)) ?_
   refine wO_val (a_iaddrA (by exact rfl) (by exact rfl) (by omega)) ?_
   refine wO_val (a_load (by exact rfl) (by(simp(disch:=first|omega|(simp only[z1,z2];omega)|(simp only[z1,z2];done)|fail)only[z8,z4,z5,z9,z7,z1,z2, *];exact rfl)) (by assumption)) ?_
   refine yt ?_;refine y3 ?_;refine yY ?_;refine y4 ?_;refine yM ?_;refine yM ?_
   refine yM ?_;refine y3 ?_;refine wE_ret ?_;refine kS_r ?_
   exact endP_ret (hlog XS) rfl rfl
  ·rw[withR_ok hK (by omega),hq.2 (by omega)]
   have hn2:0≤Hf (-1000000000000) kerf (wsOf l) l k w ht:=hq.1.1 (by omega)
   clear hq
   refine wO_val a_new ?_
   refine wO_val (a_store (ws:=XS) (by exact rfl) (by exact rfl) (by(simp(disch:=first|omega|(simp only[z1,z2];omega)|(simp only[z1,z2];done)|fail)only[z8,z4,z5,z9,z7,z1,z2, *];exact rfl)) (st_all hl rep_len eC) (lputs_all (by show XS.length=_;rw[hl,rep_len]))) ?_
   refine y3 ?_;refine wE_seq ?_;refine y4 ?_;refine yM ?_;refine yM ?_;refine wO_val (a_iaddrA (by exact rfl) (by exact rfl) (by omega)) ?_
   refine wO_val (a_iaddrA (by exact rfl) (by exact rfl) (by omega)) ?_
   refine wO_val (a_load (by exact rfl) (by(simp(disch:=first|omega|(simp only[z1,z2];omega)|(simp only[z1,z2];done)|fail)only[z8,z4,z5,z9,z7,z1,z2, *];exact rfl)) (by assumption)) ?_
   refine yf ?_;refine y3 ?_;refine yX ?_;refine wE_skip ?_;refine kS_n ?_;refine y4 ?_;refine yM ?_
   refine yM ?_;refine wO_val (a_iaddrA (by exact rfl) (by exact rfl) (by omega)) ?_;refine wO_val (a_iaddrA (by exact rfl) (by exact rfl) (by omega)) ?_
   refine wO_val (a_load (by exact rfl) (by(simp(disch:=first|omega|(simp only[z1,z2];omega)|(simp only[z1,z2];done)|fail)only[z8,z4,z5,z9,z7,z1,z2, *];exact rfl)) (by assumption)) ?_;refine yM ?_
   refine yM ?_;refine yM ?_;refine y3 ?_;refine wE_ret ?_
   exact endP_ret (hlog XS) rfl rfl
 ·have e:withR kerf l w ht kind= .tuple #[.int .i64 0, .bool false, .int .i64 (askK kerf l w ht kind)]:=by
   unfold withR withN withIs
   rw[decide_eq_false hK,Bool.false_and];rfl
  rw[e]
  refine yM ?_;refine y3 ?_;refine wE_seq ?_;refine y4 ?_;refine yM ?_;refine yt ?_;refine y3 ?_;refine yY ?_;refine y4 ?_;refine yM ?_;refine yM ?_;refine yM ?_;refine yM ?_;refine y3 ?_;refine wE_ret ?_;refine kS_r ?_
  exact endP_ret hr.log rfl rfl
end Go.A.Pk
end
section
set_option maxRecDepth 100000
namespace Go.A.Pk
variable {T:Nat→Option AFunc}
theorem kcs_at:∀{l:List Kd} {i:Nat} {k:Kd},l[i]? =some k→lget (kcs l) (i*5+3)=some (.int .i64 k.worth)
 |[],_,_,h=>by simp at h
 |x::l,0,k,h=>by cases h;rfl
 |x::l,i+1,k,h=>by
  rw[show(i+1)*5+3=(i*5+3)+5 by omega]
  exact kcs_at (l:=l) h
theorem endA_gen{rs:List (Nat×Option (Option Nat))}{Q:Value→Heap→Prop}{x:AExit}{e:Env}{ds:Dfs}{h:Heap}(hK:∀hA,hA=h→endA rs Q x e ds hA):endA rs Q x e ds h:=hK h rfl
def SawV(kerf:Int)(l:List Kd)(v:Value)(h:Heap):Prop:=∃a c,v= .agg #[.slice a l.length c, .int .i64 kerf]∧SliceOf h 5 (.slice a l.length c) l.length (kcs l)
set_option maxHeartbeats 8000000 in
theorem risen102(hp:primAS T)(hf:T 102=some f102){h:Heap}(hr:Rdy h){a:Option Addr}{n c j:Nat}{l:List Kd}(hs:SliceOf h 5 (.slice a n c) n (kcs l))(kerf:Int)(hn:n<1000000)(hj:j<n){more:Int}(hm:0≤(wsOf l).getD j 0+more∧(wsOf l).getD j 0+more≤1000000000):
 Al T 102 [.agg #[.slice a n c, .int .i64 kerf], .int .i64 j, .int .i64 more] h (SawV kerf (raise l j ((wsOf l).getD j 0+more))):=by
 have hx:Ext h ((((h.push (.cells [.slice a n c, .int .i64 kerf] true 1)).push (.cells [.slice none 0 0, .int .i64 0] true 1)).push (.cells [] true 5)).push (.cells [.slice none 0 0, .int .i64 0] true 1)):=((((Ext.refl h).push _).push _).push _).push _
 obtain rfl:n=l.length:=by have:=hs.len;rw[kcs_length]at this;omega
 refine .of hp hf hr ?_ ?_
 ·rintro v h1 hv ⟨a',c',rfl,h2⟩
  refine⟨a',c',rfl,?_⟩
  rw[raise_len]at h2 hv⊢
  rcases h2.inv with⟨_,_,h0,_⟩|⟨b,o,cap,e,_,_⟩
  ·omega
  ·cases e
   simp[noRef,flatL,flat,scalL,scal,scal1]at hv
 obtain⟨x,hxl⟩:∃x,l[j]? =some x:=⟨l[j],List.getElem?_eq_getElem hj⟩
 have hwk:=ws_at hxl
 rw[hwk]at hm⊢
 have e3:lget (kcs l) (0+j*5+3)=some (.int .i64 x.worth):=by
  rw[Nat.zero_add];exact kcs_at hxl
 have s1:(Nat.beq (llen (cellsOf (.int .i64 (x.worth+more)))) 1&&Nat.ble (0+j*5+3+1) (llen (kcs l))&&ones (cellsOf (.int .i64 (x.worth+more))))=true:=by
  have:Nat.ble (0+j*5+3+1) (llen (kcs l))=true:=by rw[ble_eq,llen_eq,kcs_length];simp;omega
  rw[this];rfl
 have s2:lputs (kcs l) (0+j*5+3) (cellsOf (.int .i64 (x.worth+more)))=kcs (raise l j (x.worth+more)):=by
  show lset (kcs l) (0+j*5+3) (.int .i64 (x.worth+more))=_
  rw[Nat.zero_add];exact kcs_set l j _
 refine y4 ?_;refine yB ?_;refine wO_val a_new ?_;refine y3 ?_;refine wE_seq ?_;refine wE_draw ?_;refine qF ?_
 refine qL ?_
 refine wD_new rfl rfl rfl (by exact rfl) (by exact rfl) (by exact rfl) (a_bslice (by exact rfl) (by exact rfl)) (by refine rs_cons (rq_quiet rfl (a_load (by exact rfl) (by(simp(disch:=first|omega|(simp only[z1,z2];omega))only[z3,z4,z5,z6,z7,z1,z2, *];exact rfl)) (by exact rfl)) (by exact sv_int _ _)) ?_;refine rs_cons (rq_quiet rfl (a_faddr (by exact rfl)) (by exact sv_ptr _)) ?_;exact rs_nil) ?_
 refine qF ?_
 refine qL ?_
 refine wD_new rfl rfl rfl (by exact rfl) (by exact rfl) (by exact rfl) a_new (by refine rs_cons (rq_quiet rfl (a_load (by exact rfl) (by(simp(disch:=first|omega|(simp only[z1,z2];omega))only[z3,z4,z5,z6,z7,z1,z2, *];exact rfl)) (by exact rfl)) (by exact sv_slice _ _ _)) ?_;refine rs_cons (rq_quiet rfl (a_faddr (by exact rfl)) (by exact sv_ptr _)) ?_;refine rs_cons (rq_made rfl) ?_;refine rs_cons (rq_quiet rfl (a_load (by exact rfl) (by(simp(disch:=first|omega|(simp only[z1,z2];omega))only[z3,z4,z5,z6,z7,z1,z2, *];exact rfl)) (by exact rfl)) (by exact sv_int _ _)) ?_;refine rs_cons (rq_quiet rfl (a_faddr (by exact rfl)) (by exact sv_ptr _)) ?_;exact rs_nil) ?_
 refine wD_app_full (ws:=kcs l) rfl rfl rfl (by exact rfl) (by exact rfl) (by exact rfl) (src_of ((hs.ext hx).log [])) (by omega) (by omega) (by unfold UNK;omega) (by(simp(disch:=first|omega|(simp only[z1,z2];omega)|(simp only[z1,z2];done)|fail)only[z8,z4,z5,z9,z7,z1,z2, *];exact rfl)) (Nat.le_refl _) (by omega) rfl (by apply ra_keepC rfl (rq_made rfl) (by rfl);apply ra_dropC rfl;apply ra_dropC rfl;apply ra_dropC rfl;apply ra_keepC rfl (rq_quiet rfl (a_load (by exact rfl) (by(simp(disch:=first|omega|(simp only[z1,z2];omega))only[z3,z4,z5,z6,z7,z1,z2, *];exact rfl)) (by exact rfl)) (by exact sv_int _ _)) rfl;apply ra_keepC rfl (rq_quiet rfl (a_faddr (by exact rfl)) (by exact sv_ptr _)) rfl;exact ra_nil) ?_
 refine wD_quiet rfl rfl rfl (by exact rfl) (by exact rfl) (by exact rfl) (a_build (by exact rfl)) ?_
 refine wD_store rfl rfl rfl (by exact rfl) (by exact rfl) (by exact rfl) (by(simp(disch:=first|omega|(simp only[z1,z2];omega)|(simp only[z1,z2];done)|fail)only[z8,z4,z5,z9,z7,z1,z2, *];exact rfl)) (by exact rfl) (by exact rfl) (by(simp only[z1,z2];omega)) (by(simp only[z1,z2];omega)) (by apply ra_dropC rfl;apply ra_dropC rfl;apply ra_dropC rfl;apply ra_dropC rfl;exact ra_nil) ?_
 refine wD_nil ?_;refine y1 ?_;refine kS_n ?_;refine wE_seq ?_;refine wE_draw ?_;refine qF ?_
 refine qL ?_
 refine qM ?_;refine qF ?_
 refine qL ?_
 refine qM ?_;refine wD_quiet rfl rfl rfl (by exact rfl) (by exact rfl) (by exact rfl) (a_iaddrS (by exact rfl) (by exact rfl) (by omega)) ?_;refine qF ?_
 refine wD_quiet rfl rfl rfl (by exact rfl) (by exact rfl) (by exact rfl) (a_load (by exact rfl) (by(simp(disch:=first|omega|(simp only[z1,z2];omega)|(simp only[z1,z2];done)|fail)only[z8,z4,z5,z9,z7,z1,z2, *];exact rfl)) (by assumption)) ?_
 refine qM ?_;refine wD_quiet rfl rfl rfl (by exact rfl) (by exact rfl) (by exact rfl) (a_num (by exact rfl) (by exact rfl) (by exact m_add (wrapA_i64 (by omega) (by omega)))) ?_;refine wD_quiet rfl rfl rfl (by exact rfl) (by exact rfl) (by exact rfl) (a_iaddrS (by exact rfl) (by exact rfl) (by omega)) ?_
 refine qF ?_
 refine wD_store (vs:=kcs l) (ws:=kcs (raise l j (x.worth+more))) rfl rfl rfl (by exact rfl) (by exact rfl) (by exact rfl) (by(simp(disch:=first|omega|(simp only[z1,z2];omega)|(simp only[z1,z2];done)|fail)only[z8,z4,z5,z9,z7,z1,z2, *];exact rfl)) s1 s2 (by(simp only[z1,z2];omega)) (by omega) (by apply ra_dropC rfl;apply ra_dropC rfl;apply ra_dropC rfl;apply ra_dropC rfl;apply ra_dropC rfl;apply ra_dropC rfl;apply ra_dropC rfl;apply ra_dropC rfl;apply ra_dropC rfl;apply ra_dropC rfl;apply ra_dropC rfl;apply ra_dropC rfl;apply ra_dropC rfl;exact ra_nil) ?_
 refine wD_nil ?_;refine y1 ?_;refine kS_n ?_;refine y4 ?_
 refine yN ?_
 refine yS ?_;refine y3 ?_;refine wE_ret ?_
 refine endA_gen ?_
 intro hA hAe
 have e0:0+l.length=l.length:=Nat.zero_add _
 have A1:hA.get (h.next+1)=some (.cells [.slice (some ⟨h.next+4,0,none⟩) (0+l.length) UNK, .int .i64 kerf] true 1):=by rw[hAe];(simp(disch:=first|omega|(simp only[z1,z2];omega)|(simp only[z1,z2];done)|fail)only[z8,z4,z5,z9,z7,z1,z2, *];exact rfl)
 have A4:hA.get (h.next+4)=some (.cells (kcs (raise l j (x.worth+more))) true 5):=by rw[hAe];(simp(disch:=first|omega|(simp only[z1,z2];omega)|(simp only[z1,z2];done)|fail)only[z8,z4,z5,z9,z7,z1,z2, *];done)
 have A5:hA.next=h.next+5:=by rw[hAe];rfl
 have A6:hA.log=[]:=by rw[hAe];simp(disch:=first|omega|(simp only[z1,z2];omega))only[Heap.log_wr_new,Heap.log_push];exact hr.log
 clear hAe
 rw[e0]at A1
 refine endA_ret (vs:=[.agg (List.toArray [.slice (some ⟨h.next+4,0,none⟩) l.length UNK, .int .i64 kerf])]) A6 (res_cells (b:=h.next+1) rfl A1 rfl rfl res_nil) ⟨some ⟨h.next+4,0,none⟩,UNK,by rw[raise_len];rfl,?_⟩
 rw[raise_len]
 exact full_slice (by omega) A4 (raise_len ..) (by omega)
end Go.A.Pk
end
section
set_option maxRecDepth 100000
namespace Go.A.Pk
variable {T:Nat→Option AFunc}
theorem UBF_shape{bot kerf:Int}{ws:List Int}{l m:List Kd}{kind:Nat}(h:∀a b,leavesL a b l 0=leavesL a b m 0):∀(n:Nat) (p:Int×Int),UBF bot kerf ws l kind n p=UBF bot kerf ws m kind n p
 |0,_=>rfl
 |n+1,p=>by
  rw[UBF,UBF,h]
  simp only[UBF_shape h n,V,VF_shape h]
theorem want_eq{kerf:Int}{l:List Kd}(hc:chk kerf l=0){w ht k:Nat}(hw:w≤16)(hh:ht≤16)(hk:k<l.length){m:Int}(hm:0≤m∧m≤900000000):
 (Hf (-1000000000000) kerf (wsOf (raise l k ((wsOf l).getD k 0+m))) (raise l k ((wsOf l).getD k 0+m)) k w ht==Vf kerf (wsOf (raise l k ((wsOf l).getD k 0+m))) (raise l k ((wsOf l).getD k 0+m)) w ht)=(kw kerf l k ((w:Int),(ht:Int)) m==kb kerf l k ((w:Int),(ht:Int)) m):=by
 have hk0:=(chk_iff.1 hc).2.1.1
 have hb:=wsM_bd hc hk hm
 have e1:Hf (-1000000000000) kerf (wsOf (raise l k ((wsOf l).getD k 0+m))) (raise l k ((wsOf l).getD k 0+m)) k w ht=UB (-1000000000000) kerf (wsM l k m) l k ((w:Int),(ht:Int)):=by
  unfold Hf UB
  rw[raise_ws]
  exact UBF_shape (fun a b=>leavesL_shape (raise_shape l k _)) _ _
 have e2:Vf kerf (wsOf (raise l k ((wsOf l).getD k 0+m))) (raise l k ((wsOf l).getD k 0+m)) w ht=V kerf (wsM l k m) l ((w:Int),(ht:Int)):=by
  unfold Vf V
  rw[raise_ws]
  exact VF_shape (fun a b=>leavesL_shape (raise_shape l k _)) _ _
 have e3:kw kerf l k ((w:Int),(ht:Int)) m=UB never kerf (wsM l k m) l k ((w:Int),(ht:Int)):=by unfold kw;rw[UB_never]
 have e4:kb kerf l k ((w:Int),(ht:Int)) m=V kerf (wsM l k m) l ((w:Int),(ht:Int)):=rfl
 rw[e1,e2,e3,e4]
 have hv:=V_bd (kl:=l) hk0 (W:=1000000000) (by omega) hb w ht
 have ha:=area_mono (W:=1000000000) (a:=(w:Int)) (b:=(ht:Int)) (c:=16) (d:=16) (by omega) (by omega) (by omega) (by omega) (by omega)
 have h0:∀x∈wsM l k m,0≤x:=fun x hx=>(hb x hx).1
 have h1:=UB_same hk0 (bot:=never) (kl:=l) (kind:=k) h0 (bot':= -1000000000000) ((w:Int),(ht:Int)) (by unfold never;omega)
 have h2:=UB_same hk0 (bot:= -1000000000000) (kl:=l) (kind:=k) h0 (bot':=never) ((w:Int),(ht:Int)) (by omega)
 have h3:=UB_le_V hk0 (bot:=never) (ws:=wsM l k m) (kl:=l) (kind:=k) (by unfold never;omega) ((w:Int),(ht:Int))
 have h4:=UB_le_V hk0 (bot:= -1000000000000) (ws:=wsM l k m) (kl:=l) (kind:=k) (by omega) ((w:Int),(ht:Int))
 rw[Bool.eq_iff_iff,beq_iff_eq,beq_iff_eq]
 constructor
 ·intro e;have:=h2 (by omega);omega
 ·intro e;have:=h1 (by omega);omega
structure FnsRD (T:Nat→Option AFunc):Prop extends FnsRC T where
 f102:T 102=some f102
 f43:T 43=some f43
 f45:T 45=some f45
set_option maxHeartbeats 8000000 in
theorem rdearer43(F:FnsRD T){h:Heap}(hr:Rdy h){a:Option Addr}{n c:Nat}{l:List Kd}(hs:SliceOf h 5 (.slice a n c) n (kcs l))(kerf:Int)(hn:n<1000000)(w ht kind:Int):
 Pu T 43 [.agg #[.slice a n c, .int .i64 kerf], .int .i64 w, .int .i64 ht, .int .i64 kind] h (dearR kerf l w ht kind):=by
 have hp:=F.toFnsRW.p
 refine .of hp F.f43 hr rfl ?_
 have hx:Ext h (h.push (.cells [.slice a n c, .int .i64 kerf] true 1)):=(Ext.refl h).push _
 obtain rfl:n=l.length:=by have:=hs.len;rw[kcs_length]at this;omega
 have C1:=rwith41 F.toFnsRC (.of (hx.wf hr.wf)) ((hs.ext hx).log []) kerf hn w ht kind
 refine y4 ?_;refine yB ?_;refine yM ?_;refine yM ?_;refine yM ?_;refine y3 ?_;refine y4 ?_
 refine yN ?_;refine yM ?_;refine yM ?_
 refine yM ?_
 refine yC ?_
 refine FW.pu C1 ?_
 by_cases hK:askK kerf l w ht kind=0
 ·obtain⟨hc,hb,k,rfl,hk⟩:=askK_zero hK
  by_cases hneg:kw kerf l k (w,ht) 0<0
  ·rw[withR_neg hK hneg,dearR_neg hK hneg]
   refine yM ?_;refine yE ?_;refine yE ?_;refine yE ?_;refine yM ?_;refine yM ?_;refine yM ?_;refine y3 ?_;refine wE_seq ?_;refine y4 ?_;refine yM ?_;refine yA ?_;refine y3 ?_
   refine yY ?_;refine y4 ?_;refine yM ?_;refine yM ?_;refine yM ?_;refine yM ?_;refine y3 ?_;refine wE_ret ?_
   refine kS_r ?_
   exact endP_ret hr.log rfl rfl
  ·rw[withR_ok hK (by omega),dearR_ok hK (by omega)]
   have C2:=rbest33 F.toFnsRC (.of (hx.wf hr.wf)) ((hs.ext hx).log []) kerf hn w ht
   rw[bestR_ok (asked_ok hc hb),←kb_zero hc hk hb]at C2
   have hle:kw kerf l k (w,ht) 0≤kb kerf l k (w,ht) 0:=U_le_V (chk_iff.1 hc).2.1.1 _
   have hkb:=kb_bd hc hk hb
   obtain⟨q1,q2,q3,q4⟩:=chk_iff.1 hc
   obtain⟨⟨e1,e2⟩,e3,e4⟩:=hb
   obtain⟨w,rfl⟩:=Int.eq_ofNat_of_zero_le (show 0≤w by omega)
   obtain⟨ht,rfl⟩:=Int.eq_ofNat_of_zero_le (show 0≤ht by omega)
   have hwk:=wsOf_bd hc ((wsOf l).getD k 0) (by have hl:k<(wsOf l).length:=by simpa[wsOf]using hk
                                                simp[List.getD,List.getElem?_eq_getElem hl])
   clear C1
   refine yM ?_;refine yE ?_;refine yE ?_;refine yE ?_;refine yM ?_;refine yM ?_;refine yM ?_;refine y3 ?_;refine wE_seq ?_;refine y4 ?_;refine yM ?_;refine yA ?_;refine y3 ?_
   refine yX ?_;refine wE_skip ?_;refine kS_n ?_;refine y4 ?_
   refine yN ?_;refine yM ?_;refine yM ?_
   refine yC ?_
   refine FW.pu C2 ?_
   refine yM ?_;refine yE ?_;refine yE ?_;refine yM ?_;refine yM ?_;refine y3 ?_;refine y4 ?_;refine yM ?_;refine y3 ?_;refine y4 ?_;refine yM ?_;refine yM ?_
   refine ysub ?_;refine yM ?_;refine y3 ?_;refine wE_seq ?_;refine wE_block ?_
   refine wE_loop (fun m e ds h'=>∃lo hi:Int,0≤lo∧lo≤hi∧hi≤256000000∧m=(hi-lo).toNat∧e=[(1, .int .i64 w),(2, .int .i64 ht),(3, .int .i64 k),(4, .pointer (some ⟨h.next,0,none⟩)),(16, .int .i64 lo),(17, .int .i64 hi)]∧ds=[]∧Ext (h.push (.cells [.slice a l.length c, .int .i64 kerf] true 1)) h'∧bsr (fun d=>kw kerf l k (w,ht) d==kb kerf l k (w,ht) d) lo hi=dearV kerf l k (w,ht))
    ⟨0,_,Int.le_refl _,by omega,by omega,rfl,rfl,rfl, .refl _,rfl⟩ ?_
   rintro m e ds h' ⟨lo,hi,b1,b2,b3,rfl,rfl,rfl,hx',hbs⟩
   have g4:h'.get h.next=some (.cells [.slice a l.length c, .int .i64 kerf] true 1):=by rw[hx'.old _ (by(simp only[z1,z2];omega))];(simp(disch:=first|omega|(simp only[z1,z2];omega))only[z3,z4,z5,z6,z7,z1,z2, *];done)
   have w':=hx'.wf (hx.wf hr.wf)
   have hs':=hs.ext (hx.trans hx')
   rw[bsr]at hbs
   by_cases hlt:lo<hi
   ·rw[if_pos hlt]at hbs
    refine wE_seq ?_;refine y4 ?_;refine yM ?_;refine yM ?_;refine yt ?_;refine y3 ?_;refine yY ?_
    refine wE_skip ?_;refine kS_n ?_;refine wE_block ?_;refine y4 ?_;refine yM ?_;refine yM ?_;refine yadd ?_
    refine wO_val (a_num (by exact rfl) (by exact rfl) (m_quo2 (by omega) (by omega))) ?_
    refine yM ?_;refine y3 ?_;refine y4 ?_;refine yN ?_;refine yM ?_;refine yM ?_
    refine yC ?_
    refine FW.al (risen102 hp F.f102 (.of w') (hs'.log []) kerf hn hk (more:=(lo+hi) / 2) (by omega)) (fun v h'' m ⟨a',c',q1,q2⟩=>⟨a',c',q1,q2.log _⟩) ?_
    rintro _ h2 hx2 ⟨a2,c2,rfl,q2'⟩
    have hwb:=wsM_bd hc hk (more:=(lo+hi) / 2) (by omega)
    have hwe:wsM l k ((lo+hi) / 2)=wsOf (raise l k ((wsOf l).getD k 0+(lo+hi) / 2)):=(raise_ws _).symm
    rw[hwe]at hwb
    rw[raise_len]at q2'⊢
    have C3:=rwanted101 F.toFnsRC (.of (hx2.wf w')) (q2'.log []) (kind:=k) (W:=1000000000) (w:=w) (ht:=ht) (by omega) hk ⟨q2.1,by omega⟩ (by omega) hwb (by omega) (by omega)
    rw[want_eq hc (by omega) (by omega) hk (by omega)]at C3
    refine yM ?_;refine yM ?_;refine yM ?_
    refine yC ?_
    refine FW.pu C3 ?_
    cases hP:kw kerf l k ((w:Int),(ht:Int)) ((lo+hi) / 2)==kb kerf l k ((w:Int),(ht:Int)) ((lo+hi) / 2)with
    |true=>
     rw[hP,if_pos rfl]at hbs
     refine y3 ?_;refine yY ?_;refine wE_region ?_;refine yM ?_;refine yM ?_;refine wO_nil ?_;refine y1 ?_
     refine kB_n ?_;refine kS_n ?_
     exact⟨_,by omega,lo,_,b1,by omega,by omega,rfl,rfl,rfl,hx'.trans hx2,hbs⟩
    |false=>
     rw[hP,if_neg Bool.false_ne_true]at hbs
     refine y3 ?_;refine yX ?_;refine wE_region ?_;refine yM ?_;refine yadd ?_;refine yM ?_;refine wO_nil ?_
     refine y1 ?_;refine kB_n ?_;refine kS_n ?_
     exact⟨_,by omega,_,hi,by omega,by omega,by omega,rfl,rfl,rfl,hx'.trans hx2,hbs⟩
   ·rw[if_neg hlt]at hbs
    refine wE_seq ?_;refine y4 ?_;refine yM ?_;refine yM ?_;refine yf ?_;refine y3 ?_;refine yX ?_
    refine wE_exit ?_;refine kS_e ?_;refine kS_e ?_;refine kB_e ?_;refine kS_n ?_;refine y4 ?_;refine yM ?_;refine yM ?_;refine yM ?_;refine yM ?_;refine y3 ?_;refine wE_ret ?_
    rw[←hbs]
    exact endP_ret ((hx.trans hx').log.trans hr.log) rfl rfl
 ·rw[withR_no hK,dearR_no hK]
  refine yM ?_;refine yE ?_;refine yE ?_;refine yE ?_;refine yM ?_;refine yM ?_;refine yM ?_;refine y3 ?_;refine wE_seq ?_;refine y4 ?_;refine yM ?_;refine yA ?_;refine y3 ?_
  refine yY ?_;refine y4 ?_;refine yM ?_;refine yM ?_;refine yM ?_;refine yM ?_;refine y3 ?_;refine wE_ret ?_
  refine kS_r ?_
  exact endP_ret hr.log rfl rfl
end Go.A.Pk
end
section
set_option maxRecDepth 100000
namespace Go.A.Pk
variable {T:Nat→Option AFunc}
theorem want0{kerf:Int}{l:List Kd}(hc:chk kerf l=0)(w ht:Nat){k:Nat}:
 (Hf (-1000000000000) kerf (wsOf l) l k w ht==Vf kerf (wsOf l) l w ht)=(UB (-1000000000000) kerf (wsOf l) l k ((w:Int),(ht:Int))==V kerf (wsOf l) l ((w:Int),(ht:Int))):=rfl
theorem want_idle{kerf:Int}{l:List Kd}(hc:chk kerf l=0){w ht k:Nat}(hw:w≤16)(hh:ht≤16)(hk:k<l.length):
 (Hf (-1000000000000) kerf (wsOf l) l k w ht==Vf kerf (wsOf l) l w ht)= !decide (kw kerf l k ((w:Int),(ht:Int)) 0<kb kerf l k ((w:Int),(ht:Int)) 0):=by
 have hk0:=(chk_iff.1 hc).2.1.1
 rw[want0 hc]
 have e3:kw kerf l k ((w:Int),(ht:Int)) 0=UB never kerf (wsOf l) l k ((w:Int),(ht:Int)):=by unfold kw;rw[wsM_zero hk,UB_never]
 have e4:kb kerf l k ((w:Int),(ht:Int)) 0=V kerf (wsOf l) l ((w:Int),(ht:Int)):=by unfold kb;rw[wsM_zero hk]
 rw[e3,e4]
 have hb:=wsOf_bd hc
 have h0:∀x∈wsOf l,0≤x:=fun x hx=>(hb x hx).1
 have hv:=V_bd (kl:=l) hk0 (W:=1000000) (by omega) hb w ht
 have ha:=area_mono (W:=1000000) (a:=(w:Int)) (b:=(ht:Int)) (c:=16) (d:=16) (by omega) (by omega) (by omega) (by omega) (by omega)
 have h1:=UB_same hk0 (bot:=never) (kl:=l) (kind:=k) h0 (bot':= -1000000000000) ((w:Int),(ht:Int)) (by unfold never;omega)
 have h2:=UB_same hk0 (bot:= -1000000000000) (kl:=l) (kind:=k) h0 (bot':=never) ((w:Int),(ht:Int)) (by omega)
 have h3:=UB_le_V hk0 (bot:=never) (ws:=wsOf l) (kl:=l) (kind:=k) (by unfold never;omega) ((w:Int),(ht:Int))
 have h4:=UB_le_V hk0 (bot:= -1000000000000) (ws:=wsOf l) (kl:=l) (kind:=k) (by omega) ((w:Int),(ht:Int))
 rw[Bool.eq_iff_iff,beq_iff_eq,Bool.not_eq_true',decide_eq_false_iff_not]
 constructor
 ·intro e;have:=h2 (by omega);omega
 ·intro e;have:=h1 (by omega);omega
set_option maxHeartbeats 8000000 in
theorem ridle45(F:FnsRD T){h:Heap}(hr:Rdy h){a:Option Addr}{n c:Nat}{l:List Kd}(hs:SliceOf h 5 (.slice a n c) n (kcs l))(kerf:Int)(hn:n<1000000)(w ht:Int):Al T 45 [.agg #[.slice a n c, .int .i64 kerf], .int .i64 w, .int .i64 ht] h (IntsQ (asked kerf l (OnB w ht)) (idleL kerf l w ht)):=by
 have hp:=F.toFnsRW.p
 refine .of hp F.f45 hr IntsQ.gc ?_
 have hx:Ext h (h.push (.cells [.slice a n c, .int .i64 kerf] true 1)):=(Ext.refl h).push _
 obtain rfl:n=l.length:=by have:=hs.len;rw[kcs_length]at this;omega
 have C1:=asked79 F.toFnsRC.toFnsD (.of (hx.wf hr.wf)) ((hs.ext hx).log []) kerf w ht hn
 change Pu T 79 _ _ (.int .i64 (asked kerf l (OnB w ht)))at C1
 refine y4 ?_;refine yB ?_;refine yM ?_;refine yM ?_;refine y3 ?_;refine y4 ?_
 refine yN ?_;refine yM ?_;refine yM ?_
 refine yC ?_
 refine FW.pu C1 ?_
 by_cases ha:asked kerf l (OnB w ht)=0
 ·obtain⟨hc,hb⟩:=asked_zero ha
  obtain⟨q1,q2,q3,q4⟩:=chk_iff.1 hc
  have hb0:=hb
  obtain⟨⟨e1,e2⟩,e3,e4⟩:=hb0
  obtain⟨w,rfl⟩:=Int.eq_ofNat_of_zero_le (show 0≤w by omega)
  obtain⟨ht,rfl⟩:=Int.eq_ofNat_of_zero_le (show 0≤ht by omega)
  unfold idleL
  rw[if_pos ha,ha]
  clear C1
  refine yM ?_;refine y3 ?_;refine wE_seq ?_;refine y4 ?_;refine yM ?_;refine yf ?_;refine y3 ?_;refine yX ?_;refine wE_skip ?_;refine kS_n ?_;refine y4 ?_;refine yM ?_;refine y3 ?_
  refine wE_seq ?_;refine y4 ?_;refine yM ?_;refine y3 ?_;refine wE_block ?_
  refine wE_loop (fun m e ds h'=>∃(i:Nat) (v:Value),i≤l.length∧m=l.length-i∧e=[(1, .int .i64 w),(2, .int .i64 ht),(3, .pointer (some ⟨h.next,0,none⟩)),(9,v),(10, .int .i64 i)]∧ds=[]∧Ext (h.push (.cells [.slice a l.length c, .int .i64 kerf] true 1)) h'∧Own (h.next+1) h' 1 v (idles kerf l w ht i).length (ints (idles kerf l w ht i)))
   ⟨0,_,Nat.zero_le _,rfl,rfl,rfl, .refl _, .nil⟩ ?_
  rintro m e ds h' ⟨i,v,hin,rfl,rfl,rfl,hx',own⟩
  have g3:h'.get h.next=some (.cells [.slice a l.length c, .int .i64 kerf] true 1):=by rw[hx'.old _ (by(simp only[z1,z2];omega))];(simp(disch:=first|omega|(simp only[z1,z2];omega))only[z3,z4,z5,z6,z7,z1,z2, *];done)
  have hN:=hx'.next
  simp only[z1]at hN
  have w':=hx'.wf (hx.wf hr.wf)
  by_cases hlt:i<l.length
  ·have C2:=rwanted101 F.toFnsRC (.of w') ((hs.ext (hx.trans hx')).log []) (kind:=i) (W:=1000000) (w:=w) (ht:=ht) (by omega) hlt ⟨q2.1,by omega⟩ (by omega) (wsOf_bd hc) (by omega) (by omega)
   rw[want_idle hc (by omega) (by omega) hlt]at C2
   refine wE_seq ?_;refine y4 ?_;refine yM ?_;refine yF ?_;refine yL ?_;refine yD ?_;refine yt ?_;refine y3 ?_;refine yY ?_;refine wE_skip ?_;refine kS_n ?_;refine wE_seq ?_;refine wE_block ?_;refine y4 ?_;refine yN ?_;refine yM ?_
   refine yM ?_;refine yM ?_
   refine yC ?_
   refine FW.pu C2 ?_
   by_cases hlt2:kw kerf l i (w,ht) 0<kb kerf l i (w,ht) 0
   ·rw[decide_eq_true hlt2]
    refine yA ?_;refine y3 ?_;refine yY ?_;refine wE_region ?_;refine yM ?_;refine yM ?_;refine wO_val (a_bslice (by exact rfl) (by exact rfl)) ?_
    have hle:=idles_len kerf l w ht i
    refine wO_app1 (lo:=h.next+1) (c1:=[.int .i64 i]) (own.ext ((Ext.refl h').push _)) (by omega) (by omega) (by omega) (by show h.next+1≤h'.next+1;omega) (by omega) (by exact rfl) (by exact rfl) (src_slice (cs:=[.int .i64 i]) (by(simp(disch:=first|omega|(simp only[z1,z2];omega))only[z3,z4,z5,z6,z7,z1,z2, *];exact rfl)) rfl rfl) rfl rfl ?_
    intro v' h2 own' hx2'
    have hx4:Ext (h.push (.cells [.slice a l.length c, .int .i64 kerf] true 1)) h2:=(((hx'.push (.cells [.int .i64 i] true 1)).lx (Nat.le_refl _)).trans hx2').ext
    refine yM ?_;refine wO_nil ?_;refine y1 ?_;refine kB_n ?_;refine kS_n ?_;refine wE_region ?_;refine yM ?_;refine yinc ?_;refine yM ?_;refine y3 ?_
    refine⟨l.length-(i+1),by omega,i+1,v',by omega,rfl,rfl,rfl,hx4,?_⟩
    rw[idles_succ,if_pos hlt2,List.length_append]
    have e1:ints (idles kerf l w ht i++[(i:Int)])=ints (idles kerf l w ht i)++[.int .i64 i]:=by simp[ints]
    rw[e1]
    exact own'
   ·rw[decide_eq_false hlt2]
    refine yA ?_;refine y3 ?_;refine yX ?_;refine wE_skip ?_;refine kB_n ?_;refine kS_n ?_;refine wE_region ?_;refine yM ?_
    refine yinc ?_;refine yM ?_;refine y3 ?_
    refine⟨l.length-(i+1),by omega,i+1,v,by omega,rfl,rfl,rfl,hx',?_⟩
    rw[idles_succ,if_neg hlt2,List.append_nil]
    exact own
  ·obtain rfl:i=l.length:=by omega
   refine wE_seq ?_;refine y4 ?_;refine yM ?_;refine yF ?_;refine yL ?_;refine yD ?_;refine yf ?_;refine y3 ?_;refine yX ?_;refine wE_exit ?_;refine kS_e ?_;refine kS_e ?_;refine kB_e ?_;refine kS_n ?_;refine y4 ?_;refine yM ?_;refine yM ?_;refine yM ?_
   refine y3 ?_;refine wE_ret ?_
   refine endA_ret (vs:=[v, .int .i64 0]) ((hx.trans hx').log.trans hr.log) rfl (.ret (own.slice ?_))
   have:=idles_len kerf l w ht l.length
   omega
 ·unfold idleL
  rw[if_neg ha]
  refine yM ?_;refine y3 ?_;refine wE_seq ?_;refine y4 ?_;refine yM ?_;refine yt ?_;refine y3 ?_;refine yY ?_;refine y4 ?_;refine yM ?_;refine yM ?_;refine yM ?_;refine y3 ?_;refine wE_ret ?_;refine kS_r ?_
  exact endA_ret (vs:=[.slice none 0 0, .int .i64 (asked kerf l (OnB w ht))]) hr.log rfl ⟨none,0,rfl, .nil⟩
end Go.A.Pk
end
section
namespace Go.A.Pk
variable {kerf:Int} {ws:List Int} {kl:List Kd} {kind:Int}
def sg(sign:Int)(o:Int×Int):Int:=if sign=1 then o.2 else -o.1
theorem sg_padd(sign:Int)(o p:Int×Int):sg sign (padd o p)=sg sign o+sg sign p:=by
 unfold sg padd
 split
 ·rfl
 ·show -(o.1+p.1)= -o.1+ -p.1
  omega
theorem sg_zero(sign:Int):sg sign (0,0)=0:=by unfold sg;split<;>rfl
def gC(v sign:Int)(o:Int×(Int×Int)):Int:=if o.1=v then sg sign o.2 else(-1000000000000)
def Cf(kerf:Int)(ws:List Int)(kl:List Kd)(kind sign:Int)(x y:Nat):Int:=sg sign (Of kerf ws kl kind ((x:Int),(y:Int)))
theorem Cf_out{sign:Int}{x y:Nat}(h:¬ (1≤x∧1≤y)):Cf kerf ws kl kind sign x y=0:=by
 unfold Cf
 rw[Of_out (by simp only;omega),sg_zero]
theorem foldM_map{α β:Type}(f:β→Int)(g:α→β)(xs:List α)(m:Int):foldM f (xs.map g) m=foldM (fun x=>f (g x)) xs m:=by
 unfold foldM;rw[List.foldl_map]
theorem foldM_app{α:Type}(f:α→Int)(xs ys:List α)(m:Int):foldM f (xs++ys) m=foldM f ys (foldM f xs m):=by
 unfold foldM;rw[List.foldl_append]
theorem Cf_fold(hk:0≤kerf){sign:Int}{a b:Nat}(ha:1≤a)(hb:1≤b)(h0:(-1000000000000)≤Cf kerf ws kl kind sign a b):
 Cf kerf ws kl kind sign a b=foldM (gC (V kerf ws kl ((a:Int),(b:Int))) sign) (optsO kerf ws kl kind a b) (-1000000000000):=by
 obtain⟨⟨⟨o,h1,h2,h3⟩,h4⟩,⟨o',h5,h6,h7⟩,h8⟩:=Of_spec (ws:=ws) (kl:=kl) (kind:=kind) hk ha hb
 unfold Cf at h0⊢
 apply Int.le_antisymm
 ·unfold sg
  by_cases hs:sign=1
  ·rw[if_pos hs]
   have:=(foldM_ge (f:=gC (V kerf ws kl ((a:Int),(b:Int))) sign) (xs:=optsO kerf ws kl kind a b) (m:=(-1000000000000))).2 o' h5
   rw[gC,if_pos h6,sg,if_pos hs]at this
   omega
  ·rw[if_neg hs]
   have:=(foldM_ge (f:=gC (V kerf ws kl ((a:Int),(b:Int))) sign) (xs:=optsO kerf ws kl kind a b) (m:=(-1000000000000))).2 o h1
   rw[gC,if_pos h2,sg,if_neg hs]at this
   omega
 ·refine foldM_le h0 fun x hx=> ?_
  unfold gC
  split
  ·rename_i he
   have q1:=h4 x hx he
   have q2:=h8 x hx he
   unfold sg
   split
   ·exact q2
   ·omega
  ·exact h0
theorem Cf_eq(hk:0≤kerf){sign:Int}{a b:Nat}(ha:1≤a)(hb:1≤b)(h0:(-1000000000000)≤Cf kerf ws kl kind sign a b):
 Cf kerf ws kl kind sign a b=foldM (fun x=>gC (V kerf ws kl ((a:Int),(b:Int))) sign (cutP kerf ws kl kind a b x)) (cutsL a b) (foldM (fun x=>gC (V kerf ws kl ((a:Int),(b:Int))) sign (leafO ws kind x)) (leavesL a b kl 0) (if V kerf ws kl ((a:Int),(b:Int))=0 then 0 else(-1000000000000))):=by
 rw[Cf_fold hk ha hb h0]
 unfold optsO
 have e1:∀xs,foldM (gC (V kerf ws kl ((a:Int),(b:Int))) sign) ((0,(0,0))::xs) (-1000000000000)=foldM (gC (V kerf ws kl ((a:Int),(b:Int))) sign) xs (mx (-1000000000000) (gC (V kerf ws kl ((a:Int),(b:Int))) sign (0,(0,0)))):=fun xs=>rfl
 rw[e1,foldM_app,foldM_map,foldM_map]
 have e2:mx (-1000000000000) (gC (V kerf ws kl ((a:Int),(b:Int))) sign (0,(0,0)))=if V kerf ws kl ((a:Int),(b:Int))=0 then 0 else(-1000000000000):=by
  unfold gC
  rw[sg_zero]
  by_cases h:V kerf ws kl ((a:Int),(b:Int))=0
  ·rw[if_pos h,if_pos h.symm];rfl
  ·rw[if_neg h,if_neg (fun q=>h q.symm)];rfl
 rw[e2]
theorem foldC_kind{l:List Kd}{i a b:Nat}{k:Kd}{f:Nat×Nat→Int}(hk:l[i]? =some k)(hf:f (2,i)=f (1,i))(m:Int):foldM f (leavesL a b (l.take (i+1)) 0) m=if plankB k a b=true then mx (foldM f (leavesL a b (l.take i) 0) m) (f (1,i))else foldM f (leavesL a b (l.take i) 0) m:=by
 rw[leaves_succ hk,foldM_app]
 generalize foldM f (leavesL a b (l.take i) 0) m=u
 have hm:∀u w:Int,mx (mx u w) w=mx u w:=fun u w=>by
  unfold mx
  by_cases h:w>u
  ·rw[if_pos h,if_neg (by omega)]
  ·rw[if_neg h,if_neg h]
 unfold leafAt plankB
 by_cases h1:(a:Int)=k.w∧(b:Int)=k.h
 ·by_cases h2:k.turn=true∧(a:Int)=k.h∧(b:Int)=k.w
  ·rw[if_pos h1,if_pos h2,if_pos (by simp;omega)]
   show mx (mx u (f (1,i))) (f (2,i))=_
   rw[hf]
   exact hm _ _
  ·rw[if_pos h1,if_neg h2,if_pos (by simp;omega)];rfl
 ·by_cases h2:k.turn=true∧(a:Int)=k.h∧(b:Int)=k.w
  ·rw[if_neg h1,if_pos h2,if_pos (by simp only[decide_eq_true_eq];exact .inr ⟨h2.1,h2.2.1.symm,h2.2.2.symm⟩)]
   show mx u (f (2,i))=_
   rw[hf]
  ·rw[if_neg h1,if_neg h2,if_neg (by simp only[decide_eq_true_eq];rintro(q|q);exact h1 ⟨q.1.symm,q.2.symm⟩;exact h2 ⟨q.1,q.2.1.symm,q.2.2.symm⟩)];rfl
theorem gC_leaf{v sign:Int}(hs:sign=1∨sign= -1)(c i:Nat):gC v sign (leafO ws kind (c,i))=if ws.getD i 0=v then(if(i:Int)=kind then sign else 0)else(-1000000000000):=by
 unfold gC leafO sg
 simp only
 by_cases h1:ws.getD i 0=v
 ·rw[if_pos h1,if_pos h1]
  by_cases h2:(i:Int)=kind
  ·rw[if_pos h2,if_pos h2]
   rcases hs with rfl|rfl<;>rfl
  ·rw[if_neg h2,if_neg h2]
   split<;>rfl
 ·rw[if_neg h1,if_neg h1]
theorem Of_left{a b n r:Nat}(hr:mx 0 ((a:Int)-n-kerf)=r):Of kerf ws kl kind ((a:Int)-n-kerf,(b:Int))=Of kerf ws kl kind ((r:Int),(b:Int)):=by
 unfold mx at hr
 split at hr
 ·rw[hr]
 ·rw[Of_out (p:=((a:Int)-n-kerf,(b:Int))) (by simp;omega),Of_out (p:=((r:Int),(b:Int))) (by simp;omega)]
theorem Of_low{a b n r:Nat}(hr:mx 0 ((b:Int)-n-kerf)=r):Of kerf ws kl kind ((a:Int),(b:Int)-n-kerf)=Of kerf ws kl kind ((a:Int),(r:Int)):=by
 unfold mx at hr
 split at hr
 ·rw[hr]
 ·rw[Of_out (p:=((a:Int),(b:Int)-n-kerf)) (by simp;omega),Of_out (p:=((a:Int),(r:Int))) (by simp;omega)]
theorem cutC_left{v sign:Int}{a b n r:Nat}(hn:n≤a)(hr:mx 0 ((a:Int)-n-kerf)=r):gC v sign (cutP kerf ws kl kind a b (3,n))=if Vf kerf ws kl n b+Vf kerf ws kl r b=v then Cf kerf ws kl kind sign n b+Cf kerf ws kl kind sign r b else(-1000000000000):=by
 have h:=cut_left (ws:=ws) (kl:=kl) (b:=b) hn hr
 unfold gC cutP
 simp only
 rw[h,sg_padd]
 unfold oneB twoB Cf
 simp only[if_true]
 rw[Of_left hr]
theorem cutC_up{v sign:Int}{a b n r:Nat}(hn:n≤b)(hr:mx 0 ((b:Int)-n-kerf)=r):gC v sign (cutP kerf ws kl kind a b (4,n))=if Vf kerf ws kl a n+Vf kerf ws kl a r=v then Cf kerf ws kl kind sign a n+Cf kerf ws kl kind sign a r else(-1000000000000):=by
 have h:=cut_up (ws:=ws) (kl:=kl) (a:=a) hn hr
 unfold gC cutP
 simp only
 rw[h,sg_padd]
 unfold oneB twoB Cf
 simp only[show¬ (4:Nat)=3 by omega,if_false]
 rw[Of_low hr]
theorem mx_bot{m:Int}(h:(-1000000000000)≤m):mx m (-1000000000000)=m:=by unfold mx;rw[if_neg (by omega)]
theorem Cf_bd{l:List Kd}(hc:chk kerf l=0){sign:Int}{x y:Nat}(hx:x≤16)(hy:y≤16): -256≤Cf kerf (wsOf l) l kind sign x y∧Cf kerf (wsOf l) l kind sign x y≤256:=by
 by_cases h:1≤x∧1≤y
 ·have:=Of_bd (kind:=kind) hc (w:=(x:Int)) (ht:=(y:Int)) (by unfold OnB;omega)
  unfold Cf sg
  split<;>omega
 ·rw[Cf_out h];omega
end Go.A.Pk
end
section
set_option maxRecDepth 100000
namespace Go.A.Pk
variable {T:Nat→Option AFunc}
structure FnsRO (T:Nat→Option AFunc):Prop extends FnsRD T where
 f107:T 107=some f107
 f47:T 47=some f47
set_option maxHeartbeats 32000000 in
theorem counted107(F:FnsRO T){h:Heap}(hr:Rdy h){a0:Option Addr}{n c:Nat}{l:List Kd}{kerf kind sign:Int}(hs:SliceOf h 5 (.slice a0 n c) n (kcs l))(hc:chk kerf l=0)(hsg:sign=1∨sign= -1){w ht:Nat}(hw:w≤16)(hh:ht≤16):
 Pu T 107 [.agg #[.slice a0 n c, .int .i64 kerf], .int .i64 w, .int .i64 ht, .int .i64 kind, .int .i64 sign] h (.int .i64 (Cf kerf (wsOf l) l kind sign w ht)):=by
 have hp:=F.toFnsRW.p
 refine .of hp F.f107 hr rfl ?_
 obtain rfl:n=l.length:=by have:=hs.len;rw[kcs_length]at this;omega
 obtain⟨q1,q2,q3,q4⟩:=chk_iff.1 hc
 have hws:=wsOf_bd hc
 have hx0:=(Ext.refl h).push (.cells [.slice a0 l.length c, .int .i64 kerf] true 1)
 have hVb:∀x y:Nat,x≤16→y≤16→0≤Vf kerf (wsOf l) l x y∧Vf kerf (wsOf l) l x y≤256000000:=fun x y hx hy=>by
  have h1:=V_bd (kl:=l) q2.1 (W:=1000000) (by omega) hws x y
  have h2:=area_mono (W:=1000000) (a:=x) (b:=y) (c:=16) (d:=16) (by omega) (by omega) (by omega) (by omega) (by omega)
  unfold Vf
  refine⟨h1.1,?_⟩
  omega
 have hCb:∀x y:Nat,x≤16→y≤16→ -256≤Cf kerf (wsOf l) l kind sign x y∧Cf kerf (wsOf l) l kind sign x y≤256:=fun x y hx hy=>Cf_bd hc hx hy
 have hC0:∀x y:Nat,¬ (1≤x∧1≤y)→Cf kerf (wsOf l) l kind sign x y=0:=fun x y q=>Cf_out q
 have hCe:∀a b:Nat,1≤a→1≤b→a≤16→b≤16→Cf kerf (wsOf l) l kind sign a b=foldM (fun x=>gC (Vf kerf (wsOf l) l a b) sign (cutP kerf (wsOf l) l kind a b x)) (cutsL a b) (foldM (fun x=>gC (Vf kerf (wsOf l) l a b) sign (leafO (wsOf l) kind x)) (leavesL a b l 0) (if Vf kerf (wsOf l) l a b=0 then 0 else -1000000000000)):=fun a b h1 h2 h3 h4=>Cf_eq q2.1 h1 h2 (by have:=hCb a b h3 h4;omega)
 have C1:=rbest93 F.toFnsRB (.of (hx0.wf hr.wf)) ((hs.ext hx0).log []) (W:=1000000) (by omega) ⟨q2.1,by omega⟩ (by omega) hws
 generalize hG:Vf kerf (wsOf l) l=G at*
 generalize hC:Cf kerf (wsOf l) l kind sign=C at*
 refine y4 ?_;refine yB ?_;refine yM ?_;refine y3 ?_;refine y4 ?_
 refine yN ?_
 refine yC ?_
 refine FW.pu C1 ?_
 have hl:(ints (grid G)).length=289:=by rw[ints_len,grid_len]
 have eC:ones (ints (grid G))=true:=ones_ints _
 generalize hX:ints (grid G)=XS at hl eC⊢
 refine wO_val a_new ?_
 refine wO_val (a_store (ws:=XS) (by exact rfl) (by exact rfl) (by(simp(disch:=first|omega|(simp only[z1,z2];omega)|(simp only[z1,z2];done)|fail)only[z8,z4,z5,z9,z7,z1,z2, *];exact rfl)) (st_all hl rep_len eC) (lputs_all (by show XS.length=_;rw[hl,rep_len]))) ?_
 refine y3 ?_;refine y4 ?_;refine wO_val a_new ?_;refine y3 ?_;refine wE_seq ?_;refine y4 ?_
 refine yM ?_;refine y3 ?_;refine wE_block ?_
 refine WE.gen ?_
 intro hA hAe
 have A1:hA.get h.next=some (.cells [.slice a0 l.length c, .int .i64 kerf] true 1):=by rw[hAe];(simp(disch:=first|omega|(simp only[z1,z2];omega))only[z3,z4,z5,z6,z7,z1,z2, *];exact rfl)
 have A2:hA.get (h.next+1)=some (.cells (ints (grid G)) true 1):=by rw[hAe,hX];(simp(disch:=first|omega|(simp only[z1,z2];omega)|(simp only[z1,z2];done)|fail)only[z8,z4,z5,z9,z7,z1,z2, *];done)
 have A3:hA.get (h.next+2)=some (.cells (ints (grid fun _ _=>0)) true 1):=by rw[hAe,←grid_zero];(simp(disch:=first|omega|(simp only[z1,z2];omega)|(simp only[z1,z2];done)|fail)only[z8,z4,z5,z9,z7,z1,z2, *];done)
 have A0:∀z,z<h.next→hA.get z=h.get z:=fun z hz=>by rw[hAe];simp(disch:=first|omega|(simp only[z1,z2];omega))only[z5,z4]
 have A5:hA.next=h.next+3:=by rw[hAe];rfl
 have A6:hA.log=[]:=by rw[hAe];simp(disch:=first|omega|(simp only[z1,z2];omega))only[Heap.log_wr_new,Heap.log_push];exact hr.log
 have A7:WF hA:=by rw[hAe];exact((((hr.wf.push _).push _).as (AS.wr _ _ _ _)).push _)
 clear hAe hX C1
 refine wE_loop (fun m e ds h'=>∃a:Nat,1≤a∧a≤17∧m=17-a∧e=[(1, .int .i64 w),(2, .int .i64 ht),(3, .int .i64 kind),(4, .int .i64 sign),(5, .pointer (some ⟨h.next,0,none⟩)),(11, .pointer (some ⟨h.next+1,0,none⟩)),(12, .pointer (some ⟨h.next+2,0,none⟩)),(13, .int .i64 a)]∧ds=[]∧Vt (h.next+2) hA h' (doneF C a 1))
  ⟨1,by omega,by omega,rfl,rfl,rfl,⟨fun _ _=>rfl,by rw[A3];refine congrArg (fun q=>some (AObj.cells (ints q) true 1)) (grid_congr fun x y hx hy=> ?_);unfold doneF;split;exact(hC0 x y (by omega)).symm;rfl,A6,A7,by omega⟩⟩ ?_
 rintro m e ds h4 ⟨a,ha1,ha2,rfl,rfl,rfl,w4⟩
 by_cases hlt4:a<17
 ·refine wE_seq ?_;refine y4 ?_;refine yM ?_;refine yt ?_;refine y3 ?_;refine yY ?_;refine wE_skip ?_;refine kS_n ?_
  refine wE_seq ?_;refine wE_block ?_;refine y4 ?_;refine yM ?_;refine y3 ?_;refine wE_block ?_
  refine wE_loop (fun m e ds h'=>∃b:Nat,1≤b∧b≤17∧m=17-b∧e=[(1, .int .i64 w),(2, .int .i64 ht),(3, .int .i64 kind),(4, .int .i64 sign),(5, .pointer (some ⟨h.next,0,none⟩)),(11, .pointer (some ⟨h.next+1,0,none⟩)),(12, .pointer (some ⟨h.next+2,0,none⟩)),(13, .int .i64 a),(14, .int .i64 b)]∧ds=[]∧Vt (h.next+2) hA h' (doneF C a b))
   ⟨1,by omega,by omega,rfl,rfl,rfl,w4⟩ ?_
  rintro m e ds h5 ⟨b,hb1,hb2,rfl,rfl,rfl,w5⟩
  by_cases hlt5:b<17
  ·have g12:=w5.obj
   have k3:=w5.nx
   have hCab:=hCe a b ha1 hb1 (by omega) (by omega)
   have hGab:=hVb a b (by omega) (by omega)
   refine wE_seq ?_
   refine y4 ?_
   refine yM ?_
   refine wO_val (a_num (by exact rfl) (by exact rfl) (m_leqT (by omega))) ?_
   refine y3 ?_
   refine yY ?_
   refine wE_skip ?_
   refine kS_n ?_
   refine wE_seq ?_
   refine wE_block ?_
   refine y4 ?_
   refine yM ?_
   refine yM ?_
   refine wO_val (a_iaddrA (by exact rfl) (by exact rfl) (by omega)) ?_
   refine wO_val (a_iaddrA (by exact rfl) (by exact rfl) (by omega)) ?_
   refine wO_val (a_store (ws:=ints (grid (updF (doneF C a b) a b (-1000000000000)))) (by exact rfl) (by exact rfl) g12 (grid_st (by omega) (by omega)) (grid_put (by omega) _)) ?_
   refine y3 ?_
   have v5:=w5.wr (base:=h.next) (a:=a) (b:=b) (-1000000000000) (by omega)
   generalize hH5:h5.wr h.next (h.next+2) (.cells (ints (grid (updF (doneF C a b) a b (-1000000000000)))) true 1)=h50 at*
   clear w5 g12 k3 hH5
   have g12:=v5.obj
   have g11:=(v5.old (h.next+1) (by omega)).trans A2
   have k3:=v5.nx
   have d1:=grid_get (f:=G) (a:=a) (b:=b) (by omega) (by omega)
   generalize hm0:(if G a b=0 then(0:Int)else -1000000000000)=m0 at*
   have hm0b: -1000000000000≤m0:=by rw[←hm0];split<;>omega
   refine wE_cut (E0:=fun r=>(1, .int .i64 w)::(2, .int .i64 ht)::(3, .int .i64 kind)::(4, .int .i64 sign)::(5, .pointer (some ⟨h.next,0,none⟩))::(11, .pointer (some ⟨h.next+1,0,none⟩))::(12, .pointer (some ⟨h.next+2,0,none⟩))::(13, .int .i64 a)::(14, .int .i64 b)::r) (P:=fun h'=>Vt (h.next+2) hA h' (updF (doneF C a b) a b m0)) ?_ ?_
   ·by_cases hg:¬G a b≠0
    ·rw[if_pos (Decidable.not_not.1 hg)]at hm0
     refine y4 ?_;refine yM ?_;refine yM ?_;refine wO_val (a_iaddrA (by exact rfl) (by exact rfl) (by omega)) ?_;refine wO_val (a_iaddrA (by exact rfl) (by exact rfl) (by omega)) ?_;refine wO_val (a_load (by exact rfl) (by assumption) (by assumption)) ?_
     refine yt ?_;refine y3 ?_;refine yY ?_;refine wE_region ?_;refine yM ?_;refine yM ?_
     refine wO_val (a_iaddrA (by exact rfl) (by exact rfl) (by omega)) ?_;refine wO_val (a_iaddrA (by exact rfl) (by exact rfl) (by omega)) ?_
     refine wO_val (a_store (ws:=ints (grid (updF (updF (doneF C a b) a b (-1000000000000)) a b 0))) (by exact rfl) (by exact rfl) g12 (grid_st (by omega) (by omega)) (grid_put (by omega) _)) ?_
     refine wO_nil ?_;refine y1 ?_
     refine⟨rfl,⟨_,rfl⟩,rfl,?_⟩
     have:=v5.wr (base:=h.next) (a:=a) (b:=b) 0 (by omega)
     rw[←hm0]
     rw[updF_upd]at this⊢
     exact this
    ·rw[if_neg (Decidable.not_not.1 hg)]at hm0
     refine y4 ?_;refine yM ?_;refine yM ?_;refine wO_val (a_iaddrA (by exact rfl) (by exact rfl) (by omega)) ?_;refine wO_val (a_iaddrA (by exact rfl) (by exact rfl) (by omega)) ?_;refine wO_val (a_load (by exact rfl) (by assumption) (by assumption)) ?_
     refine yf ?_;refine y3 ?_;refine yX ?_;refine wE_skip ?_
     refine⟨rfl,⟨_,rfl⟩,rfl,?_⟩
     rw[←hm0]
     exact v5
   clear v5 g12 g11 k3
   intro rest h60 v60
   refine wE_seq ?_;refine y4 ?_;refine yM ?_;refine y3 ?_;refine wE_block ?_
   refine wE_loop (fun m e ds h'=>∃i:Nat,i≤l.length∧m=l.length-i∧e=[(1, .int .i64 w),(2, .int .i64 ht),(3, .int .i64 kind),(4, .int .i64 sign),(5, .pointer (some ⟨h.next,0,none⟩)),(11, .pointer (some ⟨h.next+1,0,none⟩)),(12, .pointer (some ⟨h.next+2,0,none⟩)),(13, .int .i64 a),(14, .int .i64 b),(15, .int .i64 i)]∧ds=[]∧Vt (h.next+2) hA h' (updF (doneF C a b) a b (foldM (fun x=>gC (G a b) sign (leafO (wsOf l) kind x)) (leavesL a b (l.take i) 0) m0)))
    ⟨0,by omega,rfl,rfl,rfl,v60⟩ ?_
   rintro m e ds h6 ⟨i,hin,rfl,rfl,rfl,w6⟩
   have g12:=w6.obj
   have g5:=(w6.old h.next (by omega)).trans A1
   have g11:=(w6.old (h.next+1) (by omega)).trans A2
   have k3:=w6.nx
   by_cases hlt6:i<l.length
   ·obtain⟨x,hxl⟩:∃x,l[i]? =some x:=⟨l[i],List.getElem?_eq_getElem hlt6⟩
    have hstep:=foldC_kind (f:=(fun x=>gC (G a b) sign (leafO (wsOf l) kind x))) (a:=a) (b:=b) hxl rfl m0
    rw[gC_leaf hsg,ws_at hxl]at hstep
    have hPb: -1000000000000≤foldM (fun x=>gC (G a b) sign (leafO (wsOf l) kind x)) (leavesL a b (l.take i) 0) m0:=Int.le_trans hm0b foldM_ge.1
    have hw0:=hws x.worth (List.mem_map.2 ⟨x,List.mem_of_getElem? hxl,rfl⟩)
    rcases hs.inv with⟨_,_,h0,_⟩|⟨b0,o0,cap,hv,sl,hcap⟩
    ·omega
    cases hv
    obtain⟨vs,own,t0,g7,g8⟩:=slice_elem sl hxl
    have kb0:=WF.get_lt hr.wf g7
    have gs:=(w6.old b0 (by omega)).trans ((A0 b0 kb0).trans g7)
    have e3:lget vs (o0+i*5+3)=some (.int .i64 x.worth):=elem_get g8 3 (by omega)
    have c1:=grid_get (f:=updF (doneF C a b) a b (foldM (fun x=>gC (G a b) sign (leafO (wsOf l) kind x)) (leavesL a b (l.take i) 0) m0)) (a:=a) (b:=b) (by omega) (by omega)
    rw[updF_self]at c1
    generalize hP:foldM (fun x=>gC (G a b) sign (leafO (wsOf l) kind x)) (leavesL a b (l.take i) 0) m0=P at*
    refine wE_seq ?_;refine y4 ?_;refine yM ?_;refine yF ?_;refine yL ?_;refine yD ?_;refine yt ?_;refine y3 ?_;refine yY ?_;refine wE_skip ?_;refine kS_n ?_;refine wE_seq ?_;refine wE_block ?_;refine wE_seq ?_;refine wE_seq ?_;refine wE_draw ?_;refine qF ?_
    refine qL ?_;refine qM ?_;refine wD_quiet rfl rfl rfl (by exact rfl) (by exact rfl) (by exact rfl) (a_iaddrS (by exact rfl) (by exact rfl) (by omega)) ?_
    refine wD_quiet rfl rfl rfl (by exact rfl) (by exact rfl) (by exact rfl) (a_loadN (by exact rfl) gs g8 (by exact rfl)) ?_
    refine qM ?_;refine qM ?_
    refine qC ?_
    refine FW.puD (plank112 hp F.f112 (.of w6.wf) x a b) (by apply ra_dropC rfl;apply ra_dropC rfl;apply ra_dropC rfl;apply ra_dropC rfl;apply ra_dropC rfl;apply ra_dropC rfl;apply ra_dropC rfl;exact ra_nil) ?_
    cases hpl:plankB x a b with
    |true=>
     rw[hpl,if_pos rfl]at hstep
     by_cases hwx:¬x.worth≠G a b
     ·rw[if_pos (Decidable.not_not.1 hwx)]at hstep
      by_cases hkd:¬ (i:Int)≠kind
      ·rw[if_pos (Decidable.not_not.1 hkd)]at hstep
       refine wD_quiet rfl rfl rfl (by exact rfl) (by exact rfl) (by exact rfl) (a_not (by exact rfl)) ?_;refine qM ?_;refine qF ?_
       refine qL ?_;refine qM ?_;refine wD_quiet rfl rfl rfl (by exact rfl) (by exact rfl) (by exact rfl) (a_iaddrS (by exact rfl) (by exact rfl) (by omega)) ?_
       refine qF ?_;refine wD_quiet rfl rfl rfl (by exact rfl) (by exact rfl) (by exact rfl) (a_load (by exact rfl) (by assumption) (by assumption)) ?_;refine qM ?_
       refine qM ?_;refine wD_quiet rfl rfl rfl (by exact rfl) (by exact rfl) (by exact rfl) (a_iaddrA (by exact rfl) (by exact rfl) (by omega)) ?_;refine wD_quiet rfl rfl rfl (by exact rfl) (by exact rfl) (by exact rfl) (a_iaddrA (by exact rfl) (by exact rfl) (by omega)) ?_
       refine wD_quiet rfl rfl rfl (by exact rfl) (by exact rfl) (by exact rfl) (a_load (by exact rfl) (by assumption) (by assumption)) ?_;refine wD_quiet rfl rfl rfl (by exact rfl) (by exact rfl) (by exact rfl) (a_num (by exact rfl) (by exact rfl) (by exact m_neqF (by omega))) ?_;refine wD_quiet rfl rfl rfl (by exact rfl) (by exact rfl) (by exact rfl) (a_pickF (by exact rfl) (by exact rfl)) ?_
       refine wD_nil ?_;refine y1 ?_;refine kS_n ?_;refine yX ?_;refine wE_skip ?_;refine kS_n ?_;refine y4 ?_;refine yM ?_;refine yM ?_
       refine yt ?_;refine y3 ?_;refine yY ?_;refine wE_draw ?_;refine qM ?_
       refine qM ?_;refine qM ?_;refine qM ?_
       refine wD_quiet rfl rfl rfl (by exact rfl) (by exact rfl) (by exact rfl) (a_iaddrA (by exact rfl) (by exact rfl) (by omega)) ?_;refine wD_quiet rfl rfl rfl (by exact rfl) (by exact rfl) (by exact rfl) (a_iaddrA (by exact rfl) (by exact rfl) (by omega)) ?_;refine wD_quiet rfl rfl rfl (by exact rfl) (by exact rfl) (by exact rfl) (a_load (by exact rfl) (by assumption) (by assumption)) ?_
       refine qM ?_
       refine wD_quiet rfl rfl rfl (by exact rfl) (by exact rfl) (by exact rfl) (a_max (by exact rfl) (by exact rfl)) ?_
       refine wD_quiet rfl rfl rfl (by exact rfl) (by exact rfl) (by exact rfl) (a_iaddrA (by exact rfl) (by exact rfl) (by omega)) ?_;refine wD_quiet rfl rfl rfl (by exact rfl) (by exact rfl) (by exact rfl) (a_iaddrA (by exact rfl) (by exact rfl) (by omega)) ?_
       refine wD_store (ws:=ints (grid (updF (updF (doneF C a b) a b P) a b (mx P sign)))) rfl rfl rfl (by exact rfl) (by exact rfl) (by exact rfl) (by assumption) (grid_st (by omega) (by omega)) (grid_put (by omega) _) (by omega) (by omega) (by apply ra_dropC rfl;apply ra_dropC rfl;apply ra_dropC rfl;apply ra_dropC rfl;apply ra_dropC rfl;apply ra_dropC rfl;apply ra_dropC rfl;apply ra_dropC rfl;apply ra_dropC rfl;apply ra_dropC rfl;apply ra_dropC rfl;exact ra_nil) ?_
       refine wD_nil ?_;refine y1 ?_;refine kB_n ?_;refine kS_n ?_;refine wE_region ?_;refine yM ?_;refine yinc ?_;refine yM ?_;refine y3 ?_
       refine⟨l.length-(i+1),by omega,i+1,by omega,rfl,rfl,rfl,?_⟩
       have:=w6.wr (base:=h.next) (a:=a) (b:=b) (mx P sign) (by omega)
       rw[hstep]
       rw[updF_upd]at this⊢
       exact this
      ·rw[if_neg (Decidable.not_not.1 hkd)]at hstep
       refine wD_quiet rfl rfl rfl (by exact rfl) (by exact rfl) (by exact rfl) (a_not (by exact rfl)) ?_;refine qM ?_;refine qF ?_
       refine qL ?_;refine qM ?_;refine wD_quiet rfl rfl rfl (by exact rfl) (by exact rfl) (by exact rfl) (a_iaddrS (by exact rfl) (by exact rfl) (by omega)) ?_
       refine qF ?_;refine wD_quiet rfl rfl rfl (by exact rfl) (by exact rfl) (by exact rfl) (a_load (by exact rfl) (by assumption) (by assumption)) ?_;refine qM ?_
       refine qM ?_;refine wD_quiet rfl rfl rfl (by exact rfl) (by exact rfl) (by exact rfl) (a_iaddrA (by exact rfl) (by exact rfl) (by omega)) ?_;refine wD_quiet rfl rfl rfl (by exact rfl) (by exact rfl) (by exact rfl) (a_iaddrA (by exact rfl) (by exact rfl) (by omega)) ?_
       refine wD_quiet rfl rfl rfl (by exact rfl) (by exact rfl) (by exact rfl) (a_load (by exact rfl) (by assumption) (by assumption)) ?_;refine wD_quiet rfl rfl rfl (by exact rfl) (by exact rfl) (by exact rfl) (a_num (by exact rfl) (by exact rfl) (by exact m_neqF (by omega))) ?_;refine wD_quiet rfl rfl rfl (by exact rfl) (by exact rfl) (by exact rfl) (a_pickF (by exact rfl) (by exact rfl)) ?_
       refine wD_nil ?_;refine y1 ?_;refine kS_n ?_;refine yX ?_;refine wE_skip ?_;refine kS_n ?_;refine y4 ?_;refine yM ?_;refine yM ?_
       refine yf ?_;refine y3 ?_;refine yX ?_;refine wE_draw ?_;refine qM ?_
       refine qM ?_;refine qM ?_;refine qM ?_
       refine wD_quiet rfl rfl rfl (by exact rfl) (by exact rfl) (by exact rfl) (a_iaddrA (by exact rfl) (by exact rfl) (by omega)) ?_;refine wD_quiet rfl rfl rfl (by exact rfl) (by exact rfl) (by exact rfl) (a_iaddrA (by exact rfl) (by exact rfl) (by omega)) ?_;refine wD_quiet rfl rfl rfl (by exact rfl) (by exact rfl) (by exact rfl) (a_load (by exact rfl) (by assumption) (by assumption)) ?_
       refine wD_quiet rfl rfl rfl (by exact rfl) (by exact rfl) (by exact rfl) (a_max (by exact rfl) (by exact rfl)) ?_
       refine wD_quiet rfl rfl rfl (by exact rfl) (by exact rfl) (by exact rfl) (a_iaddrA (by exact rfl) (by exact rfl) (by omega)) ?_;refine wD_quiet rfl rfl rfl (by exact rfl) (by exact rfl) (by exact rfl) (a_iaddrA (by exact rfl) (by exact rfl) (by omega)) ?_
       refine wD_store (ws:=ints (grid (updF (updF (doneF C a b) a b P) a b (mx P 0)))) rfl rfl rfl (by exact rfl) (by exact rfl) (by exact rfl) (by assumption) (grid_st (by omega) (by omega)) (grid_put (by omega) _) (by omega) (by omega) (by apply ra_dropC rfl;apply ra_dropC rfl;apply ra_dropC rfl;apply ra_dropC rfl;apply ra_dropC rfl;apply ra_dropC rfl;apply ra_dropC rfl;apply ra_dropC rfl;apply ra_dropC rfl;apply ra_dropC rfl;exact ra_nil) ?_
       refine wD_nil ?_;refine y1 ?_;refine kB_n ?_;refine kS_n ?_;refine wE_region ?_;refine yM ?_;refine yinc ?_;refine yM ?_;refine y3 ?_
       refine⟨l.length-(i+1),by omega,i+1,by omega,rfl,rfl,rfl,?_⟩
       have:=w6.wr (base:=h.next) (a:=a) (b:=b) (mx P 0) (by omega)
       rw[hstep]
       rw[updF_upd]at this⊢
       exact this
     ·rw[if_neg (Decidable.not_not.1 hwx),mx_bot hPb]at hstep
      refine wD_quiet rfl rfl rfl (by exact rfl) (by exact rfl) (by exact rfl) (a_not (by exact rfl)) ?_;refine qM ?_;refine qF ?_
      refine qL ?_;refine qM ?_;refine wD_quiet rfl rfl rfl (by exact rfl) (by exact rfl) (by exact rfl) (a_iaddrS (by exact rfl) (by exact rfl) (by omega)) ?_
      refine qF ?_;refine wD_quiet rfl rfl rfl (by exact rfl) (by exact rfl) (by exact rfl) (a_load (by exact rfl) (by assumption) (by assumption)) ?_;refine qM ?_
      refine qM ?_;refine wD_quiet rfl rfl rfl (by exact rfl) (by exact rfl) (by exact rfl) (a_iaddrA (by exact rfl) (by exact rfl) (by omega)) ?_;refine wD_quiet rfl rfl rfl (by exact rfl) (by exact rfl) (by exact rfl) (a_iaddrA (by exact rfl) (by exact rfl) (by omega)) ?_
      refine wD_quiet rfl rfl rfl (by exact rfl) (by exact rfl) (by exact rfl) (a_load (by exact rfl) (by assumption) (by assumption)) ?_;refine wD_quiet rfl rfl rfl (by exact rfl) (by exact rfl) (by exact rfl) (a_num (by exact rfl) (by exact rfl) (by exact m_neqT (by omega))) ?_;refine wD_quiet rfl rfl rfl (by exact rfl) (by exact rfl) (by exact rfl) (a_pickF (by exact rfl) (by exact rfl)) ?_
      refine wD_nil ?_;refine y1 ?_;refine kS_n ?_;refine yY ?_;refine wE_exit ?_;refine kS_e ?_;refine kB_e ?_;refine kS_n ?_;refine wE_region ?_;refine yM ?_;refine yinc ?_
      refine yM ?_;refine y3 ?_
      refine⟨l.length-(i+1),by omega,i+1,by omega,rfl,rfl,rfl,?_⟩
      rw[hstep]
      exact w6
    |false=>
     rw[hpl,if_neg Bool.false_ne_true]at hstep
     refine wD_quiet rfl rfl rfl (by exact rfl) (by exact rfl) (by exact rfl) (a_not (by exact rfl)) ?_;refine qM ?_;refine wD_off rfl rfl rfl (by exact rfl) ?_;refine wD_off rfl rfl rfl (by exact rfl) ?_;refine wD_off rfl rfl rfl (by exact rfl) ?_;refine wD_off rfl rfl rfl (by exact rfl) ?_
     refine wD_off rfl rfl rfl (by exact rfl) ?_;refine wD_off rfl rfl rfl (by exact rfl) ?_;refine wD_off rfl rfl rfl (by exact rfl) ?_;refine wD_off rfl rfl rfl (by exact rfl) ?_;refine wD_off rfl rfl rfl (by exact rfl) ?_;refine wD_off rfl rfl rfl (by exact rfl) ?_;refine wD_off rfl rfl rfl (by exact rfl) ?_;refine wD_off rfl rfl rfl (by exact rfl) ?_
     refine wD_quiet rfl rfl rfl (by exact rfl) (by exact rfl) (by exact rfl) (a_pickT (by exact rfl) (by exact rfl)) ?_;refine wD_nil ?_;refine y1 ?_;refine kS_n ?_;refine yY ?_;refine wE_exit ?_;refine kS_e ?_;refine kB_e ?_;refine kS_n ?_;refine wE_region ?_
     refine yM ?_;refine yinc ?_;refine yM ?_;refine y3 ?_
     refine⟨l.length-(i+1),by omega,i+1,by omega,rfl,rfl,rfl,?_⟩
     rw[hstep]
     exact w6
   ·obtain rfl:i=l.length:=by omega
    rw[List.take_of_length_le (Nat.le_refl _)]at w6
    have hM0: -1000000000000≤foldM (fun x=>gC (G a b) sign (leafO (wsOf l) kind x)) (leavesL a b l 0) m0:=Int.le_trans hm0b foldM_ge.1
    generalize foldM (fun x=>gC (G a b) sign (leafO (wsOf l) kind x)) (leavesL a b l 0) m0=M0 at*
    have v16:=w6
    refine wE_seq ?_;refine y4 ?_;refine yM ?_;refine yF ?_;refine yL ?_;refine yD ?_;refine yf ?_;refine y3 ?_;refine yX ?_;refine wE_exit ?_;refine kS_e ?_;refine kS_e ?_;refine kB_e ?_;refine kS_n ?_;refine wE_seq ?_;refine y4 ?_;refine yM ?_;refine y3 ?_;refine wE_block ?_
    refine wE_loop (fun m e ds h'=>∃n:Nat,n+1≤a∧m=a-n∧e=[(1, .int .i64 w),(2, .int .i64 ht),(3, .int .i64 kind),(4, .int .i64 sign),(5, .pointer (some ⟨h.next,0,none⟩)),(11, .pointer (some ⟨h.next+1,0,none⟩)),(12, .pointer (some ⟨h.next+2,0,none⟩)),(13, .int .i64 a),(14, .int .i64 b),(16, .int .i64 (n+1:Nat))]∧ds=[]∧Vt (h.next+2) hA h' (updF (doneF C a b) a b (foldM (fun x=>gC (G a b) sign (cutP kerf (wsOf l) l kind a b x)) (row 3 n) M0)))
     ⟨0,by omega,rfl,rfl,rfl,by simpa[row,foldM]using v16⟩ ?_
    rintro m e ds h16 ⟨n,hn2,rfl,rfl,rfl,w16⟩
    have g12:=w16.obj
    have g5:=(w16.old h.next (by omega)).trans A1
    have g11:=(w16.old (h.next+1) (by omega)).trans A2
    have k3:=w16.nx
    by_cases hlt16:n+1<a
    ·obtain⟨r,hr1⟩:∃r:Nat,mx 0 ((a:Int)-(n+1:Nat)-kerf)=r:=by
      have:0≤mx 0 ((a:Int)-(n+1:Nat)-kerf):=mx_ge.1
      exact⟨_,(Int.toNat_of_nonneg this).symm⟩
     have hrl:r<a:=by unfold mx at hr1;split at hr1<;>omega
     have c1:=grid_get (f:=updF (doneF C a b) a b (foldM (fun x=>gC (G a b) sign (cutP kerf (wsOf l) l kind a b x)) (row 3 n) M0)) (a:=a) (b:=b) (by omega) (by omega)
     have c2:=grid_get (f:=updF (doneF C a b) a b (foldM (fun x=>gC (G a b) sign (cutP kerf (wsOf l) l kind a b x)) (row 3 n) M0)) (a:=n+1) (b:=b) (by omega) (by omega)
     have c3:=grid_get (f:=updF (doneF C a b) a b (foldM (fun x=>gC (G a b) sign (cutP kerf (wsOf l) l kind a b x)) (row 3 n) M0)) (a:=r) (b:=b) (by omega) (by omega)
     have d1:=grid_get (f:=G) (a:=a) (b:=b) (by omega) (by omega)
     have d2:=grid_get (f:=G) (a:=n+1) (b:=b) (by omega) (by omega)
     have d3:=grid_get (f:=G) (a:=r) (b:=b) (by omega) (by omega)
     rw[updF_self]at c1
     rw[updF_left _ (by omega)]at c2 c3
     have hcut:=cutC_left (v:=G a b) (sign:=sign) (ws:=wsOf l) (kl:=l) (kind:=kind) (a:=a) (b:=b) (n:=n+1) (r:=r) (kerf:=kerf) (by omega) hr1
     rw[hG,hC]at hcut
     have hb1:=hVb a b (by omega) (by omega)
     have hb2:=hVb (n+1) b (by omega) (by omega)
     have hb3:=hVb r b (by omega) (by omega)
     have hb4:=hCb (n+1) b (by omega) (by omega)
     have hb5:=hCb r b (by omega) (by omega)
     have hPb: -1000000000000≤(foldM (fun x=>gC (G a b) sign (cutP kerf (wsOf l) l kind a b x)) (row 3 n) M0):=Int.le_trans hM0 foldM_ge.1
     have hnext:(foldM (fun x=>gC (G a b) sign (cutP kerf (wsOf l) l kind a b x)) (row 3 (n+1)) M0)=mx (foldM (fun x=>gC (G a b) sign (cutP kerf (wsOf l) l kind a b x)) (row 3 n) M0) (gC (G a b) sign (cutP kerf (wsOf l) l kind a b (3,n+1))):=foldM_row
     rw[hcut]at hnext
     generalize hP:(foldM (fun x=>gC (G a b) sign (cutP kerf (wsOf l) l kind a b x)) (row 3 n) M0)=P at*
     clear hcut
     by_cases hq:¬ (G (n+1) b+G r b≠G a b)
     ·rw[if_pos (Decidable.not_not.1 hq)]at hnext
      refine wE_seq ?_;refine y4 ?_;refine yM ?_;refine yM ?_;refine yt ?_;refine y3 ?_;refine yY ?_
      refine wE_skip ?_;refine kS_n ?_;refine wE_seq ?_;refine wE_block ?_;refine y4 ?_;refine yM ?_;refine yM ?_;refine ysub ?_;refine yF ?_
      refine yL ?_;refine ysub ?_
      refine wO_val (a_max0 (by exact rfl) (by exact rfl) hr1) ?_
      refine yM ?_;refine y3 ?_;refine wE_seq ?_;refine wE_draw ?_;refine qM ?_
      refine qM ?_;refine wD_quiet rfl rfl rfl (by exact rfl) (by exact rfl) (by exact rfl) (a_iaddrA (by exact rfl) (by exact rfl) (by omega)) ?_;refine wD_quiet rfl rfl rfl (by exact rfl) (by exact rfl) (by exact rfl) (a_iaddrA (by exact rfl) (by exact rfl) (by omega)) ?_
      refine wD_quiet rfl rfl rfl (by exact rfl) (by exact rfl) (by exact rfl) (a_load (by exact rfl) (by assumption) (by assumption)) ?_;refine qM ?_;refine qM ?_
      refine wD_quiet rfl rfl rfl (by exact rfl) (by exact rfl) (by exact rfl) (a_iaddrA (by exact rfl) (by exact rfl) (by omega)) ?_;refine wD_quiet rfl rfl rfl (by exact rfl) (by exact rfl) (by exact rfl) (a_iaddrA (by exact rfl) (by exact rfl) (by omega)) ?_;refine wD_quiet rfl rfl rfl (by exact rfl) (by exact rfl) (by exact rfl) (a_load (by exact rfl) (by assumption) (by assumption)) ?_
      refine wD_quiet rfl rfl rfl (by exact rfl) (by exact rfl) (by exact rfl) (a_num (by exact rfl) (by exact rfl) (by exact m_add (wrapA_i64 (by omega) (by omega)))) ?_;refine qM ?_;refine qM ?_
      refine wD_quiet rfl rfl rfl (by exact rfl) (by exact rfl) (by exact rfl) (a_iaddrA (by exact rfl) (by exact rfl) (by omega)) ?_;refine wD_quiet rfl rfl rfl (by exact rfl) (by exact rfl) (by exact rfl) (a_iaddrA (by exact rfl) (by exact rfl) (by omega)) ?_;refine wD_quiet rfl rfl rfl (by exact rfl) (by exact rfl) (by exact rfl) (a_load (by exact rfl) (by assumption) (by assumption)) ?_
      refine wD_quiet rfl rfl rfl (by exact rfl) (by exact rfl) (by exact rfl) (a_num (by exact rfl) (by exact rfl) (by exact m_eqlT (by omega))) ?_;refine wD_nil ?_;refine y1 ?_;refine kS_n ?_;refine yY ?_;refine wE_draw ?_
      refine qM ?_;refine qM ?_;refine qM ?_;refine qM ?_
      refine wD_quiet rfl rfl rfl (by exact rfl) (by exact rfl) (by exact rfl) (a_iaddrA (by exact rfl) (by exact rfl) (by omega)) ?_;refine wD_quiet rfl rfl rfl (by exact rfl) (by exact rfl) (by exact rfl) (a_iaddrA (by exact rfl) (by exact rfl) (by omega)) ?_;refine wD_quiet rfl rfl rfl (by exact rfl) (by exact rfl) (by exact rfl) (a_load (by exact rfl) (by assumption) (by assumption)) ?_
      refine qM ?_;refine qM ?_;refine wD_quiet rfl rfl rfl (by exact rfl) (by exact rfl) (by exact rfl) (a_iaddrA (by exact rfl) (by exact rfl) (by omega)) ?_
      refine wD_quiet rfl rfl rfl (by exact rfl) (by exact rfl) (by exact rfl) (a_iaddrA (by exact rfl) (by exact rfl) (by omega)) ?_;refine wD_quiet rfl rfl rfl (by exact rfl) (by exact rfl) (by exact rfl) (a_load (by exact rfl) (by assumption) (by assumption)) ?_;refine qM ?_
      refine qM ?_;refine wD_quiet rfl rfl rfl (by exact rfl) (by exact rfl) (by exact rfl) (a_iaddrA (by exact rfl) (by exact rfl) (by omega)) ?_;refine wD_quiet rfl rfl rfl (by exact rfl) (by exact rfl) (by exact rfl) (a_iaddrA (by exact rfl) (by exact rfl) (by omega)) ?_
      refine wD_quiet rfl rfl rfl (by exact rfl) (by exact rfl) (by exact rfl) (a_load (by exact rfl) (by assumption) (by assumption)) ?_;refine wD_quiet rfl rfl rfl (by exact rfl) (by exact rfl) (by exact rfl) (a_num (by exact rfl) (by exact rfl) (by exact m_add (wrapA_i64 (by omega) (by omega)))) ?_
      refine wD_quiet rfl rfl rfl (by exact rfl) (by exact rfl) (by exact rfl) (a_max (by exact rfl) (by exact rfl)) ?_
      refine wD_quiet rfl rfl rfl (by exact rfl) (by exact rfl) (by exact rfl) (a_iaddrA (by exact rfl) (by exact rfl) (by omega)) ?_;refine wD_quiet rfl rfl rfl (by exact rfl) (by exact rfl) (by exact rfl) (a_iaddrA (by exact rfl) (by exact rfl) (by omega)) ?_
      refine wD_store (ws:=ints (grid (updF (updF (doneF C a b) a b P) a b (mx P (C (n+1) b+C r b))))) rfl rfl rfl (by exact rfl) (by exact rfl) (by exact rfl) (by assumption) (grid_st (by omega) (by omega)) (grid_put (by omega) _) (by omega) (by omega) (by apply ra_dropC rfl;apply ra_dropC rfl;apply ra_dropC rfl;apply ra_dropC rfl;apply ra_dropC rfl;apply ra_dropC rfl;apply ra_dropC rfl;apply ra_dropC rfl;apply ra_dropC rfl;apply ra_dropC rfl;apply ra_dropC rfl;apply ra_dropC rfl;apply ra_dropC rfl;apply ra_dropC rfl;apply ra_dropC rfl;apply ra_dropC rfl;apply ra_dropC rfl;apply ra_dropC rfl;apply ra_dropC rfl;apply ra_dropC rfl;apply ra_dropC rfl;exact ra_nil) ?_
      refine wD_nil ?_;refine y1 ?_;refine kB_n ?_;refine kS_n ?_;refine wE_region ?_;refine yM ?_;refine yinc ?_;refine yM ?_;refine y3 ?_
      refine⟨a-(n+1),by omega,n+1,by omega,rfl,rfl,rfl,?_⟩
      have:=w16.wr (base:=h.next) (a:=a) (b:=b) (mx P (C (n+1) b+C r b)) (by omega)
      rw[hnext]
      rw[updF_upd]at this⊢
      exact this
     ·rw[if_neg (Decidable.not_not.1 hq),mx_bot hPb]at hnext
      refine wE_seq ?_;refine y4 ?_;refine yM ?_;refine yM ?_;refine yt ?_;refine y3 ?_;refine yY ?_
      refine wE_skip ?_;refine kS_n ?_;refine wE_seq ?_;refine wE_block ?_;refine y4 ?_;refine yM ?_;refine yM ?_;refine ysub ?_;refine yF ?_
      refine yL ?_;refine ysub ?_
      refine wO_val (a_max0 (by exact rfl) (by exact rfl) hr1) ?_
      refine yM ?_;refine y3 ?_;refine wE_seq ?_;refine wE_draw ?_;refine qM ?_
      refine qM ?_;refine wD_quiet rfl rfl rfl (by exact rfl) (by exact rfl) (by exact rfl) (a_iaddrA (by exact rfl) (by exact rfl) (by omega)) ?_;refine wD_quiet rfl rfl rfl (by exact rfl) (by exact rfl) (by exact rfl) (a_iaddrA (by exact rfl) (by exact rfl) (by omega)) ?_
      refine wD_quiet rfl rfl rfl (by exact rfl) (by exact rfl) (by exact rfl) (a_load (by exact rfl) (by assumption) (by assumption)) ?_;refine qM ?_;refine qM ?_
      refine wD_quiet rfl rfl rfl (by exact rfl) (by exact rfl) (by exact rfl) (a_iaddrA (by exact rfl) (by exact rfl) (by omega)) ?_;refine wD_quiet rfl rfl rfl (by exact rfl) (by exact rfl) (by exact rfl) (a_iaddrA (by exact rfl) (by exact rfl) (by omega)) ?_;refine wD_quiet rfl rfl rfl (by exact rfl) (by exact rfl) (by exact rfl) (a_load (by exact rfl) (by assumption) (by assumption)) ?_
      refine wD_quiet rfl rfl rfl (by exact rfl) (by exact rfl) (by exact rfl) (a_num (by exact rfl) (by exact rfl) (by exact m_add (wrapA_i64 (by omega) (by omega)))) ?_;refine qM ?_;refine qM ?_
      refine wD_quiet rfl rfl rfl (by exact rfl) (by exact rfl) (by exact rfl) (a_iaddrA (by exact rfl) (by exact rfl) (by omega)) ?_;refine wD_quiet rfl rfl rfl (by exact rfl) (by exact rfl) (by exact rfl) (a_iaddrA (by exact rfl) (by exact rfl) (by omega)) ?_;refine wD_quiet rfl rfl rfl (by exact rfl) (by exact rfl) (by exact rfl) (a_load (by exact rfl) (by assumption) (by assumption)) ?_
      refine wD_quiet rfl rfl rfl (by exact rfl) (by exact rfl) (by exact rfl) (a_num (by exact rfl) (by exact rfl) (by exact m_eqlF (by omega))) ?_;refine wD_nil ?_;refine y1 ?_;refine kS_n ?_;refine yX ?_;refine wE_skip ?_;refine kB_n ?_;refine kS_n ?_;refine wE_region ?_
      refine yM ?_;refine yinc ?_;refine yM ?_;refine y3 ?_
      refine⟨a-(n+1),by omega,n+1,by omega,rfl,rfl,rfl,?_⟩
      rw[hnext]
      exact w16
    ·obtain rfl:n=a-1:=by omega
     have hM1: -1000000000000≤foldM (fun x=>gC (G a b) sign (cutP kerf (wsOf l) l kind a b x)) (row 3 (a-1)) M0:=Int.le_trans hM0 foldM_ge.1
     generalize hM1e:foldM (fun x=>gC (G a b) sign (cutP kerf (wsOf l) l kind a b x)) (row 3 (a-1)) M0=M1 at*
     have v18:=w16
     refine wE_seq ?_;refine y4 ?_;refine yM ?_;refine yM ?_;refine yf ?_;refine y3 ?_;refine yX ?_
     refine wE_exit ?_;refine kS_e ?_;refine kS_e ?_;refine kB_e ?_;refine kS_n ?_;refine y4 ?_;refine yM ?_;refine y3 ?_;refine wE_block ?_
     refine wE_loop (fun m e ds h'=>∃n:Nat,n+1≤b∧m=b-n∧e=[(1, .int .i64 w),(2, .int .i64 ht),(3, .int .i64 kind),(4, .int .i64 sign),(5, .pointer (some ⟨h.next,0,none⟩)),(11, .pointer (some ⟨h.next+1,0,none⟩)),(12, .pointer (some ⟨h.next+2,0,none⟩)),(13, .int .i64 a),(14, .int .i64 b),(18, .int .i64 (n+1:Nat))]∧ds=[]∧Vt (h.next+2) hA h' (updF (doneF C a b) a b (foldM (fun x=>gC (G a b) sign (cutP kerf (wsOf l) l kind a b x)) (row 4 n) M1)))
      ⟨0,by omega,rfl,rfl,rfl,by simpa[row,foldM]using v18⟩ ?_
     rintro m e ds h18 ⟨n,hn2,rfl,rfl,rfl,w18⟩
     have g12:=w18.obj
     have g5:=(w18.old h.next (by omega)).trans A1
     have g11:=(w18.old (h.next+1) (by omega)).trans A2
     have k3:=w18.nx
     by_cases hlt18:n+1<b
     ·obtain⟨r,hr1⟩:∃r:Nat,mx 0 ((b:Int)-(n+1:Nat)-kerf)=r:=by
       have:0≤mx 0 ((b:Int)-(n+1:Nat)-kerf):=mx_ge.1
       exact⟨_,(Int.toNat_of_nonneg this).symm⟩
      have hrl:r<b:=by unfold mx at hr1;split at hr1<;>omega
      have c1:=grid_get (f:=updF (doneF C a b) a b (foldM (fun x=>gC (G a b) sign (cutP kerf (wsOf l) l kind a b x)) (row 4 n) M1)) (a:=a) (b:=b) (by omega) (by omega)
      have c2:=grid_get (f:=updF (doneF C a b) a b (foldM (fun x=>gC (G a b) sign (cutP kerf (wsOf l) l kind a b x)) (row 4 n) M1)) (a:=a) (b:=n+1) (by omega) (by omega)
      have c3:=grid_get (f:=updF (doneF C a b) a b (foldM (fun x=>gC (G a b) sign (cutP kerf (wsOf l) l kind a b x)) (row 4 n) M1)) (a:=a) (b:=r) (by omega) (by omega)
      have d1:=grid_get (f:=G) (a:=a) (b:=b) (by omega) (by omega)
      have d2:=grid_get (f:=G) (a:=a) (b:=n+1) (by omega) (by omega)
      have d3:=grid_get (f:=G) (a:=a) (b:=r) (by omega) (by omega)
      rw[updF_self]at c1
      rw[updF_up _ (by omega)]at c2 c3
      have hcut:=cutC_up (v:=G a b) (sign:=sign) (ws:=wsOf l) (kl:=l) (kind:=kind) (a:=a) (b:=b) (n:=n+1) (r:=r) (kerf:=kerf) (by omega) hr1
      rw[hG,hC]at hcut
      have hb1:=hVb a b (by omega) (by omega)
      have hb2:=hVb a (n+1) (by omega) (by omega)
      have hb3:=hVb a r (by omega) (by omega)
      have hb4:=hCb a (n+1) (by omega) (by omega)
      have hb5:=hCb a r (by omega) (by omega)
      have hPb: -1000000000000≤(foldM (fun x=>gC (G a b) sign (cutP kerf (wsOf l) l kind a b x)) (row 4 n) M1):=Int.le_trans hM1 foldM_ge.1
      have hnext:(foldM (fun x=>gC (G a b) sign (cutP kerf (wsOf l) l kind a b x)) (row 4 (n+1)) M1)=mx (foldM (fun x=>gC (G a b) sign (cutP kerf (wsOf l) l kind a b x)) (row 4 n) M1) (gC (G a b) sign (cutP kerf (wsOf l) l kind a b (4,n+1))):=foldM_row
      rw[hcut]at hnext
      generalize hP:(foldM (fun x=>gC (G a b) sign (cutP kerf (wsOf l) l kind a b x)) (row 4 n) M1)=P at*
      clear hcut
      by_cases hq:¬ (G a (n+1)+G a r≠G a b)
      ·rw[if_pos (Decidable.not_not.1 hq)]at hnext
       refine wE_seq ?_;refine y4 ?_;refine yM ?_;refine yM ?_;refine yt ?_;refine y3 ?_;refine yY ?_
       refine wE_skip ?_;refine kS_n ?_;refine wE_seq ?_;refine wE_block ?_;refine y4 ?_;refine yM ?_;refine yM ?_;refine ysub ?_;refine yF ?_
       refine yL ?_;refine ysub ?_
       refine wO_val (a_max0 (by exact rfl) (by exact rfl) hr1) ?_
       refine yM ?_;refine y3 ?_;refine wE_seq ?_;refine wE_draw ?_;refine qM ?_
       refine qM ?_;refine wD_quiet rfl rfl rfl (by exact rfl) (by exact rfl) (by exact rfl) (a_iaddrA (by exact rfl) (by exact rfl) (by omega)) ?_;refine wD_quiet rfl rfl rfl (by exact rfl) (by exact rfl) (by exact rfl) (a_iaddrA (by exact rfl) (by exact rfl) (by omega)) ?_
       refine wD_quiet rfl rfl rfl (by exact rfl) (by exact rfl) (by exact rfl) (a_load (by exact rfl) (by assumption) (by assumption)) ?_;refine qM ?_;refine qM ?_
       refine wD_quiet rfl rfl rfl (by exact rfl) (by exact rfl) (by exact rfl) (a_iaddrA (by exact rfl) (by exact rfl) (by omega)) ?_;refine wD_quiet rfl rfl rfl (by exact rfl) (by exact rfl) (by exact rfl) (a_iaddrA (by exact rfl) (by exact rfl) (by omega)) ?_;refine wD_quiet rfl rfl rfl (by exact rfl) (by exact rfl) (by exact rfl) (a_load (by exact rfl) (by assumption) (by assumption)) ?_
       refine wD_quiet rfl rfl rfl (by exact rfl) (by exact rfl) (by exact rfl) (a_num (by exact rfl) (by exact rfl) (by exact m_add (wrapA_i64 (by omega) (by omega)))) ?_;refine qM ?_;refine qM ?_
       refine wD_quiet rfl rfl rfl (by exact rfl) (by exact rfl) (by exact rfl) (a_iaddrA (by exact rfl) (by exact rfl) (by omega)) ?_;refine wD_quiet rfl rfl rfl (by exact rfl) (by exact rfl) (by exact rfl) (a_iaddrA (by exact rfl) (by exact rfl) (by omega)) ?_;refine wD_quiet rfl rfl rfl (by exact rfl) (by exact rfl) (by exact rfl) (a_load (by exact rfl) (by assumption) (by assumption)) ?_
       refine wD_quiet rfl rfl rfl (by exact rfl) (by exact rfl) (by exact rfl) (a_num (by exact rfl) (by exact rfl) (by exact m_eqlT (by omega))) ?_;refine wD_nil ?_;refine y1 ?_;refine kS_n ?_;refine yY ?_;refine wE_draw ?_
       refine qM ?_;refine qM ?_;refine qM ?_;refine qM ?_
       refine wD_quiet rfl rfl rfl (by exact rfl) (by exact rfl) (by exact rfl) (a_iaddrA (by exact rfl) (by exact rfl) (by omega)) ?_;refine wD_quiet rfl rfl rfl (by exact rfl) (by exact rfl) (by exact rfl) (a_iaddrA (by exact rfl) (by exact rfl) (by omega)) ?_;refine wD_quiet rfl rfl rfl (by exact rfl) (by exact rfl) (by exact rfl) (a_load (by exact rfl) (by assumption) (by assumption)) ?_
       refine qM ?_;refine qM ?_;refine wD_quiet rfl rfl rfl (by exact rfl) (by exact rfl) (by exact rfl) (a_iaddrA (by exact rfl) (by exact rfl) (by omega)) ?_
       refine wD_quiet rfl rfl rfl (by exact rfl) (by exact rfl) (by exact rfl) (a_iaddrA (by exact rfl) (by exact rfl) (by omega)) ?_;refine wD_quiet rfl rfl rfl (by exact rfl) (by exact rfl) (by exact rfl) (a_load (by exact rfl) (by assumption) (by assumption)) ?_;refine qM ?_
       refine qM ?_;refine wD_quiet rfl rfl rfl (by exact rfl) (by exact rfl) (by exact rfl) (a_iaddrA (by exact rfl) (by exact rfl) (by omega)) ?_;refine wD_quiet rfl rfl rfl (by exact rfl) (by exact rfl) (by exact rfl) (a_iaddrA (by exact rfl) (by exact rfl) (by omega)) ?_
       refine wD_quiet rfl rfl rfl (by exact rfl) (by exact rfl) (by exact rfl) (a_load (by exact rfl) (by assumption) (by assumption)) ?_;refine wD_quiet rfl rfl rfl (by exact rfl) (by exact rfl) (by exact rfl) (a_num (by exact rfl) (by exact rfl) (by exact m_add (wrapA_i64 (by omega) (by omega)))) ?_
       refine wD_quiet rfl rfl rfl (by exact rfl) (by exact rfl) (by exact rfl) (a_max (by exact rfl) (by exact rfl)) ?_
       refine wD_quiet rfl rfl rfl (by exact rfl) (by exact rfl) (by exact rfl) (a_iaddrA (by exact rfl) (by exact rfl) (by omega)) ?_;refine wD_quiet rfl rfl rfl (by exact rfl) (by exact rfl) (by exact rfl) (a_iaddrA (by exact rfl) (by exact rfl) (by omega)) ?_
       refine wD_store (ws:=ints (grid (updF (updF (doneF C a b) a b P) a b (mx P (C a (n+1)+C a r))))) rfl rfl rfl (by exact rfl) (by exact rfl) (by exact rfl) (by assumption) (grid_st (by omega) (by omega)) (grid_put (by omega) _) (by omega) (by omega) (by apply ra_dropC rfl;apply ra_dropC rfl;apply ra_dropC rfl;apply ra_dropC rfl;apply ra_dropC rfl;apply ra_dropC rfl;apply ra_dropC rfl;apply ra_dropC rfl;apply ra_dropC rfl;apply ra_dropC rfl;apply ra_dropC rfl;apply ra_dropC rfl;apply ra_dropC rfl;apply ra_dropC rfl;apply ra_dropC rfl;apply ra_dropC rfl;apply ra_dropC rfl;apply ra_dropC rfl;apply ra_dropC rfl;apply ra_dropC rfl;apply ra_dropC rfl;exact ra_nil) ?_
       refine wD_nil ?_;refine y1 ?_;refine kB_n ?_;refine kS_n ?_;refine wE_region ?_;refine yM ?_;refine yinc ?_;refine yM ?_;refine y3 ?_
       refine⟨b-(n+1),by omega,n+1,by omega,rfl,rfl,rfl,?_⟩
       have:=w18.wr (base:=h.next) (a:=a) (b:=b) (mx P (C a (n+1)+C a r)) (by omega)
       rw[hnext]
       rw[updF_upd]at this⊢
       exact this
      ·rw[if_neg (Decidable.not_not.1 hq),mx_bot hPb]at hnext
       refine wE_seq ?_;refine y4 ?_;refine yM ?_;refine yM ?_;refine yt ?_;refine y3 ?_;refine yY ?_
       refine wE_skip ?_;refine kS_n ?_;refine wE_seq ?_;refine wE_block ?_;refine y4 ?_;refine yM ?_;refine yM ?_;refine ysub ?_;refine yF ?_
       refine yL ?_;refine ysub ?_
       refine wO_val (a_max0 (by exact rfl) (by exact rfl) hr1) ?_
       refine yM ?_;refine y3 ?_;refine wE_seq ?_;refine wE_draw ?_;refine qM ?_
       refine qM ?_;refine wD_quiet rfl rfl rfl (by exact rfl) (by exact rfl) (by exact rfl) (a_iaddrA (by exact rfl) (by exact rfl) (by omega)) ?_;refine wD_quiet rfl rfl rfl (by exact rfl) (by exact rfl) (by exact rfl) (a_iaddrA (by exact rfl) (by exact rfl) (by omega)) ?_
       refine wD_quiet rfl rfl rfl (by exact rfl) (by exact rfl) (by exact rfl) (a_load (by exact rfl) (by assumption) (by assumption)) ?_;refine qM ?_;refine qM ?_
       refine wD_quiet rfl rfl rfl (by exact rfl) (by exact rfl) (by exact rfl) (a_iaddrA (by exact rfl) (by exact rfl) (by omega)) ?_;refine wD_quiet rfl rfl rfl (by exact rfl) (by exact rfl) (by exact rfl) (a_iaddrA (by exact rfl) (by exact rfl) (by omega)) ?_;refine wD_quiet rfl rfl rfl (by exact rfl) (by exact rfl) (by exact rfl) (a_load (by exact rfl) (by assumption) (by assumption)) ?_
       refine wD_quiet rfl rfl rfl (by exact rfl) (by exact rfl) (by exact rfl) (a_num (by exact rfl) (by exact rfl) (by exact m_add (wrapA_i64 (by omega) (by omega)))) ?_;refine qM ?_;refine qM ?_
       refine wD_quiet rfl rfl rfl (by exact rfl) (by exact rfl) (by exact rfl) (a_iaddrA (by exact rfl) (by exact rfl) (by omega)) ?_;refine wD_quiet rfl rfl rfl (by exact rfl) (by exact rfl) (by exact rfl) (a_iaddrA (by exact rfl) (by exact rfl) (by omega)) ?_;refine wD_quiet rfl rfl rfl (by exact rfl) (by exact rfl) (by exact rfl) (a_load (by exact rfl) (by assumption) (by assumption)) ?_
       refine wD_quiet rfl rfl rfl (by exact rfl) (by exact rfl) (by exact rfl) (a_num (by exact rfl) (by exact rfl) (by exact m_eqlF (by omega))) ?_;refine wD_nil ?_;refine y1 ?_;refine kS_n ?_;refine yX ?_;refine wE_skip ?_;refine kB_n ?_;refine kS_n ?_;refine wE_region ?_
       refine yM ?_;refine yinc ?_;refine yM ?_;refine y3 ?_
       refine⟨b-(n+1),by omega,n+1,by omega,rfl,rfl,rfl,?_⟩
       rw[hnext]
       exact w18
     ·obtain rfl:n=b-1:=by omega
      have hval:foldM (fun x=>gC (G a b) sign (cutP kerf (wsOf l) l kind a b x)) (row 4 (b-1)) M1=C a b:=by
       rw[hCab,←hM1e]
       unfold cutsL foldM
       rw[List.foldl_append]
      rw[hval,doneF_next]at w18
      refine wE_seq ?_;refine y4 ?_;refine yM ?_;refine yM ?_;refine yf ?_;refine y3 ?_;refine yX ?_
      refine wE_exit ?_;refine kS_e ?_;refine kS_e ?_;refine kB_e ?_;refine kB_n ?_;refine kS_n ?_;refine wE_region ?_;refine yM ?_;refine yinc ?_;refine yM ?_;refine y3 ?_
      exact⟨17-(b+1),by omega,b+1,by omega,by omega,rfl,rfl,rfl,w18⟩
  ·obtain rfl:b=17:=by omega
   refine wE_seq ?_;refine y4 ?_;refine yM ?_;refine yf ?_;refine y3 ?_;refine yX ?_;refine wE_exit ?_;refine kS_e ?_
   refine kS_e ?_;refine kB_e ?_;refine kB_n ?_;refine kS_n ?_;refine wE_region ?_;refine yM ?_;refine yinc ?_;refine yM ?_;refine y3 ?_
   refine⟨17-(a+1),by omega,a+1,by omega,by omega,rfl,rfl,rfl,w5.congr fun x y hx hy=> ?_⟩
   unfold doneF
   by_cases hq:x<a∨(x=a∧y<17)
   ·rw[if_pos hq,if_pos (by omega)]
   ·rw[if_neg hq]
    split
    ·exact(hC0 x y (by omega)).symm
    ·rfl
 ·obtain rfl:a=17:=by omega
  have hfin:grid (doneF C 17 1)=grid C:=grid_congr fun x y hx hy=>by unfold doneF;rw[if_pos (by omega)]
  have wo:=w4.obj
  rw[hfin]at wo
  have wl:=w4.log
  have c1:=grid_get (f:=C) (a:=w) (b:=ht) (by omega) (by omega)
  generalize ints (grid C)=XS at*
  refine wE_seq ?_;refine y4 ?_;refine yM ?_;refine yf ?_;refine y3 ?_;refine yX ?_;refine wE_exit ?_;refine kS_e ?_
  refine kS_e ?_;refine kB_e ?_;refine kS_n ?_;refine y4 ?_;refine yM ?_;refine yM ?_;refine wO_val (a_iaddrA (by exact rfl) (by exact rfl) (by omega)) ?_;refine wO_val (a_iaddrA (by exact rfl) (by exact rfl) (by omega)) ?_;refine wO_val (a_load (by exact rfl) (by assumption) (by assumption)) ?_
  refine yM ?_;refine y3 ?_;refine wE_ret ?_
  exact endP_ret wl rfl rfl
end Go.A.Pk
end
section
set_option maxRecDepth 100000
namespace Go.A.Pk
variable {T:Nat→Option AFunc}
theorem a_neg{base:Nat}{h:Heap}{e:Env}{x:Operand}{a:Int}(hx:ev h e x=some (.int .i64 a))(h1: -9223372036854775808≤ -a)(h2: -a<9223372036854775808):aop h base e (.un .neg x)=some (.val (.int .i64 (-a)) h):=by
 simp only[aop,hx,bindV,unOpA,Int.zero_sub,wrapA_i64 h1 h2]
set_option maxHeartbeats 8000000 in
theorem roften47(F:FnsRO T){h:Heap}(hr:Rdy h){a:Option Addr}{n c:Nat}{l:List Kd}(hs:SliceOf h 5 (.slice a n c) n (kcs l))(kerf:Int)(hn:n<1000000)(w ht kind:Int):Pu T 47 [.agg #[.slice a n c, .int .i64 kerf], .int .i64 w, .int .i64 ht, .int .i64 kind] h (ofR kerf l w ht kind):=by
 have hp:=F.toFnsRW.p
 refine .of hp F.f47 hr rfl ?_
 have hx:Ext h (h.push (.cells [.slice a n c, .int .i64 kerf] true 1)):=(Ext.refl h).push _
 obtain rfl:n=l.length:=by have:=hs.len;rw[kcs_length]at this;omega
 have C0:=raskK99 F.toFnsRC.toFnsD (.of (hx.wf hr.wf)) ((hs.ext hx).log []) kerf hn w ht kind
 refine y4 ?_;refine yB ?_;refine yM ?_;refine yM ?_;refine yM ?_;refine y3 ?_;refine y4 ?_
 refine yN ?_;refine yM ?_;refine yM ?_
 refine yM ?_
 refine yC ?_
 refine FW.pu C0 ?_
 unfold ofR ofP
 by_cases hK:askK kerf l w ht kind=0
 ·obtain⟨hc,hb,k,rfl,hk⟩:=askK_zero hK
  simp only[if_pos hK]
  rw[hK]
  have hO:=Of_bd (kind:=(k:Int)) hc hb
  have hb0:=hb
  obtain⟨⟨e1,e2⟩,e3,e4⟩:=hb0
  obtain⟨w,rfl⟩:=Int.eq_ofNat_of_zero_le (show 0≤w by omega)
  obtain⟨ht,rfl⟩:=Int.eq_ofNat_of_zero_le (show 0≤ht by omega)
  have C1:=counted107 F (.of (hx.wf hr.wf)) ((hs.ext hx).log []) (kind:=(k:Int)) hc (sign:= -1) (.inr rfl) (w:=w) (ht:=ht) (by omega) (by omega)
  have C2:=counted107 F (.of (hx.wf hr.wf)) ((hs.ext hx).log []) (kind:=(k:Int)) hc (sign:=1) (.inl rfl) (w:=w) (ht:=ht) (by omega) (by omega)
  have s1:Cf kerf (wsOf l) l (k:Int) (-1) w ht= -(Of kerf (wsOf l) l (k:Int) ((w:Int),(ht:Int))).1:=rfl
  have s2:Cf kerf (wsOf l) l (k:Int) 1 w ht=(Of kerf (wsOf l) l (k:Int) ((w:Int),(ht:Int))).2:=rfl
  rw[s1]at C1
  rw[s2]at C2
  generalize hO1:(Of kerf (wsOf l) l (k:Int) ((w:Int),(ht:Int))).1=o1 at*
  generalize hO2:(Of kerf (wsOf l) l (k:Int) ((w:Int),(ht:Int))).2=o2 at*
  clear s1 s2 C0
  refine yM ?_;refine y3 ?_;refine wE_seq ?_;refine y4 ?_;refine yM ?_;refine yf ?_;refine y3 ?_;refine yX ?_;refine wE_skip ?_;refine kS_n ?_;refine y4 ?_
  refine yN ?_;refine yM ?_;refine yM ?_
  refine yM ?_
  refine yC ?_
  refine FW.pu C1 ?_
  refine yM ?_;refine y3 ?_;refine y4 ?_
  refine yN ?_;refine yM ?_;refine yM ?_
  refine yM ?_
  refine yC ?_
  refine FW.pu C2 ?_
  refine yM ?_;refine y3 ?_;refine y4 ?_;refine yM ?_
  refine wO_val (a_neg (by exact rfl) (by omega) (by omega)) ?_
  rw[Int.neg_neg]
  refine yM ?_;refine yM ?_;refine yM ?_;refine yM ?_;refine y3 ?_;refine wE_ret ?_
  exact endP_ret hr.log rfl rfl
 ·simp only[if_neg hK]
  refine yM ?_;refine y3 ?_;refine wE_seq ?_;refine y4 ?_;refine yM ?_;refine yt ?_;refine y3 ?_;refine yY ?_;refine y4 ?_;refine yM ?_;refine yM ?_;refine yM ?_;refine yM ?_;refine y3 ?_;refine wE_ret ?_;refine kS_r ?_
  exact endP_ret hr.log rfl rfl
end Go.A.Pk
end
section
set_option maxRecDepth 100000
namespace Go.A.Pk
variable {T:Nat→Option AFunc}
set_option maxHeartbeats 4000000 in
theorem sameInts48(hp:primAS T)(hf:T 48=some f48){h:Heap}(hr:Rdy h){a b:Option Addr}{c d:Nat}{xs:List Int}(h1:SliceOf h 1 (.slice a xs.length c) xs.length (ints xs))(h2:SliceOf h 1 (.slice b xs.length d) xs.length (ints xs))(hn:xs.length<1000000):Pu T 48 [.slice a xs.length c, .slice b xs.length d] h (.bool true):=by
 refine .of hp hf hr rfl ?_
 refine y4 ?_;refine yM ?_;refine y3 ?_;refine wE_seq ?_;refine y4 ?_;refine yM ?_;refine yD ?_;refine yM ?_
 refine yD ?_;refine yf ?_;refine y3 ?_;refine yX ?_;refine wE_skip ?_;refine kS_n ?_;refine wE_seq ?_;refine y4 ?_
 refine yM ?_;refine y3 ?_;refine wE_block ?_
 refine wE_loop (fun m e ds h'=>∃i:Nat,i≤xs.length∧m=xs.length-i∧e=[(0, .slice a xs.length c),(1, .slice b xs.length d),(5, .int .i64 i)]∧ds=[]∧h'=h)
  ⟨0,Nat.zero_le _,rfl,rfl,rfl,rfl⟩ ?_
 rintro m e ds h' ⟨i,hin,rfl,rfl,rfl,rfl⟩
 by_cases hlt:i<xs.length
 ·rcases h1.inv with⟨_,_,h0,_⟩|⟨b1,o1,cap1,hv1,s1,hcap1⟩
  ·omega
  cases hv1
  rcases h2.inv with⟨_,_,h0,_⟩|⟨b2,o2,cap2,hv2,s2,hcap2⟩
  ·omega
  cases hv2
  obtain⟨vs,own,t,g1,g2⟩:=slice_elem1 s1 (ints_get (l:=xs) (i:=i) hlt)
  obtain⟨vs2,own2,t2,g3,g4⟩:=slice_elem1 s2 (ints_get (l:=xs) (i:=i) hlt)
  refine wE_seq ?_;refine y4 ?_;refine yM ?_;refine yM ?_;refine yD ?_;refine yt ?_;refine y3 ?_
  refine yY ?_;refine wE_skip ?_;refine kS_n ?_;refine wE_seq ?_;refine wE_block ?_;refine wE_seq ?_;refine wE_draw ?_;refine qM ?_;refine qM ?_
  refine wD_quiet rfl rfl rfl (by exact rfl) (by exact rfl) (by exact rfl) (a_iaddrS (by exact rfl) (by exact rfl) (by omega)) ?_;refine wD_quiet rfl rfl rfl (by exact rfl) (by exact rfl) (by exact rfl) (a_load (by exact rfl) (by assumption) (by assumption)) ?_;refine qM ?_
  refine qM ?_;refine wD_quiet rfl rfl rfl (by exact rfl) (by exact rfl) (by exact rfl) (a_iaddrS (by exact rfl) (by exact rfl) (by omega)) ?_;refine wD_quiet rfl rfl rfl (by exact rfl) (by exact rfl) (by exact rfl) (a_load (by exact rfl) (by assumption) (by assumption)) ?_
  refine wD_quiet rfl rfl rfl (by exact rfl) (by exact rfl) (by exact rfl) (a_num (by exact rfl) (by exact rfl) (by exact m_neqF (by omega))) ?_;refine wD_nil ?_;refine y1 ?_;refine kS_n ?_;refine yX ?_;refine wE_skip ?_;refine kB_n ?_;refine kS_n ?_;refine wE_region ?_
  refine yM ?_;refine yinc ?_;refine yM ?_;refine y3 ?_
  exact⟨xs.length-(i+1),by omega,i+1,by omega,rfl,rfl,rfl,rfl⟩
 ·obtain rfl:i=xs.length:=by omega
  refine wE_seq ?_;refine y4 ?_;refine yM ?_;refine yM ?_;refine yD ?_;refine yf ?_;refine y3 ?_
  refine yX ?_;refine wE_exit ?_;refine kS_e ?_;refine kS_e ?_;refine kB_e ?_;refine kS_n ?_;refine y4 ?_;refine yM ?_;refine y3 ?_;refine wE_ret ?_
  exact endP_ret hr.log rfl rfl
structure FnsK (T:Nat→Option AFunc):Prop extends FnsU T,FnsO3 T,FnsRO T where
 f7:T 7=some f7
 f48:T 48=some f48
 c19:∀{h:Heap},Rdy h→Pu T 19 [] h (.bool true)
set_option maxHeartbeats 16000000 in
theorem law7(F:FnsK T){h:Heap}(hr:Rdy h){a:Option Addr}{n c:Nat}{l:List Kd}(hs:SliceOf h 5 (.slice a n c) n (kcs l))(kerf w ht kind:Int):
 Pu T 7 [.agg #[.slice a n c, .int .i64 kerf], .int .i64 w, .int .i64 ht, .int .i64 kind] h (.bool true):=by
 have hp:=F.toFnsT.toFnsV.p
 refine .of hp F.f7 hr rfl ?_
 have hx:Ext h (h.push (.cells [.slice a n c, .int .i64 kerf] true 1)):=(Ext.refl h).push _
 obtain rfl:n=l.length:=by have:=hs.len;rw[kcs_length]at this;omega
 refine y4 ?_;refine yB ?_;refine yM ?_;refine y3 ?_;refine wE_seq ?_;refine y4 ?_
 refine yN ?_
 refine yC ?_
 refine FW.pu (few18 F.toFnsE.toFnsC (.of (hx.wf hr.wf)) kerf) ?_
 by_cases hfew:l.length≤16
 ·have hn:l.length<1000000:=by omega
  rw[decide_eq_true hfew]
  have C1:=with40 F.toFnsU (.of (hx.wf hr.wf)) ((hs.ext hx).log []) kerf hn w ht kind
  have C2:=rwith41 F.toFnsRC (.of (hx.wf hr.wf)) ((hs.ext hx).log []) kerf hn w ht kind
  have C3:=dearer42 F.toFnsU (.of (hx.wf hr.wf)) ((hs.ext hx).log []) kerf hn w ht kind
  have C4:=rdearer43 F.toFnsRD (.of (hx.wf hr.wf)) ((hs.ext hx).log []) kerf hn w ht kind
  unfold withR at C1 C2
  unfold dearR at C3 C4
  generalize withN kerf l w ht kind=wn at*
  generalize withIs kerf l w ht kind=wi at*
  generalize dearN kerf l w ht kind=dn at*
  refine yA ?_;refine y3 ?_;refine yX ?_;refine wE_skip ?_;refine kS_n ?_;refine y4 ?_
  refine yN ?_;refine yM ?_;refine yM ?_
  refine yM ?_
  refine yC ?_
  refine FW.pu C1 ?_
  refine yM ?_;refine yE ?_;refine yE ?_;refine yE ?_;refine yM ?_;refine yM ?_;refine yM ?_;refine y3 ?_;refine y4 ?_
  refine yN ?_;refine yM ?_;refine yM ?_
  refine yM ?_
  refine yC ?_
  refine FW.pu C2 ?_
  refine yM ?_;refine yE ?_;refine yE ?_;refine yE ?_;refine yM ?_;refine yM ?_;refine yM ?_;refine y3 ?_;refine y4 ?_
  refine yN ?_;refine yM ?_;refine yM ?_
  refine yM ?_
  refine yC ?_
  refine FW.pu C3 ?_
  refine yM ?_;refine yE ?_;refine yE ?_;refine yE ?_;refine yM ?_;refine yM ?_;refine yM ?_;refine y3 ?_;refine y4 ?_
  refine yN ?_;refine yM ?_;refine yM ?_
  refine yM ?_
  refine yC ?_
  refine FW.pu C4 ?_
  refine yM ?_;refine yE ?_;refine yE ?_;refine yE ?_;refine yM ?_;refine yM ?_;refine yM ?_;refine y3 ?_;refine y4 ?_
  refine yN ?_;refine yM ?_;refine yM ?_
  refine yC ?_
  refine FW.al (idle44 F.toFnsU (.of (hx.wf hr.wf)) ((hs.ext hx).log []) kerf hn w ht) (fun v h' m q=>IntsQ.log v h' m q) ?_
  rintro _ h2 hx2 ⟨a2,c2,rfl,q2⟩
  have hx12:=hx.trans hx2
  have k2:=hx2.next
  have G4:h2.get h.next=some (.cells [.slice a l.length c, .int .i64 kerf] true 1):=by rw[hx2.old _ (by(simp only[z1,z2];omega))];(simp(disch:=first|omega|(simp only[z1,z2];omega))only[z3,z4,z5,z6,z7,z1,z2, *];exact rfl)
  refine yM ?_;refine yE ?_;refine yE ?_;refine yM ?_;refine yM ?_;refine y3 ?_;refine y4 ?_;refine yN ?_;refine yM ?_;refine yM ?_
  refine yC ?_
  refine FW.al (ridle45 F.toFnsRD (.of (hx12.wf hr.wf)) ((hs.ext hx12).log []) kerf hn w ht) (fun v h' m q=>IntsQ.log v h' m q) ?_
  rintro _ h3 hx3 ⟨a3,c3,rfl,q3⟩
  have hx13:=hx12.trans hx3
  have k3:=hx3.next
  have w3:=hx13.wf hr.wf
  have kb:h.next<h2.next:=by have:=hx2.next;simp only[z1]at this;omega
  have G5:h3.get h.next=some (.cells [.slice a l.length c, .int .i64 kerf] true 1):=(hx3.old _ kb).trans G4
  have q4:=q2.ext hx3
  have hid:(idleL kerf l w ht).length<1000000:=by
   have:=idles_len kerf l w ht l.length
   unfold idleL
   split
   ·omega
   ·show 0<1000000;omega
  have C5:=often46 F.toFnsO3 (.of w3) ((hs.ext hx13).log []) kerf hn w ht kind
  have C6:=roften47 F.toFnsRO (.of w3) ((hs.ext hx13).log []) kerf hn w ht kind
  unfold ofR at C5 C6
  generalize(ofP kerf l w ht kind).1=o1 at*
  generalize(ofP kerf l w ht kind).2=o2 at*
  generalize asked kerf l (OnB w ht)=er at*
  generalize askK kerf l w ht kind=ek at*
  generalize idleL kerf l w ht=xs at*
  clear C1 C2 C3 C4 G4
  refine yM ?_;refine yE ?_;refine yE ?_;refine yM ?_;refine yM ?_;refine y3 ?_;refine y4 ?_;refine yN ?_;refine yM ?_;refine yM ?_;refine yM ?_
  refine yC ?_
  refine FW.pu C5 ?_
  refine yM ?_;refine yE ?_;refine yE ?_;refine yE ?_;refine yM ?_;refine yM ?_;refine yM ?_;refine y3 ?_;refine y4 ?_;refine yN ?_;refine yM ?_;refine yM ?_;refine yM ?_
  refine yC ?_
  refine FW.pu C6 ?_
  refine yM ?_;refine yE ?_;refine yE ?_;refine yE ?_;refine yM ?_;refine yM ?_;refine yM ?_;refine y3 ?_;refine y4 ?_
  refine yC ?_
  refine FW.pu (F.c19 (.of w3)) ?_
  have eB:(bif false then !wi==wi else wi==wi)=true:=by cases wi<;>rfl
  refine yM ?_;refine yO ?_;refine yM ?_;refine yO ?_;refine yM ?_;refine yO ?_;refine yt ?_;refine yT ?_;refine yM ?_
  refine yO ?_;refine yM ?_;refine yO ?_;refine yM ?_;refine yO ?_;refine wO_val (a_beq (by exact rfl) (by exact rfl)) ?_;refine yT ?_;refine yM ?_
  rw[eB]
  refine yO ?_;refine yM ?_;refine yO ?_;refine yM ?_;refine yO ?_;refine yt ?_;refine yT ?_;refine yM ?_;refine yO ?_
  refine yM ?_;refine yO ?_;refine yM ?_;refine yO ?_;refine yt ?_;refine yT ?_;refine yM ?_;refine yO ?_;refine yM ?_
  refine yO ?_;refine yM ?_;refine yO ?_;refine wO_val (a_beq (by exact rfl) (by exact rfl)) ?_;refine yT ?_;refine yM ?_
  rw[eB]
  refine yO ?_;refine yM ?_;refine yO ?_;refine yM ?_;refine yO ?_;refine yt ?_;refine yT ?_;refine yM ?_;refine yO ?_
  refine yM ?_;refine yO ?_;refine yM ?_;refine yO ?_
  refine yC ?_
  refine FW.pu (sameInts48 hp F.f48 (.of w3) (q4.log []) (q3.log []) hid) ?_
  refine yT ?_;refine yM ?_;refine yO ?_;refine yM ?_;refine yO ?_;refine yM ?_;refine yO ?_;refine yt ?_
  refine yT ?_;refine yM ?_;refine yO ?_;refine yM ?_;refine yO ?_;refine yM ?_;refine yO ?_;refine yt ?_
  refine yT ?_;refine yM ?_;refine yO ?_;refine yM ?_;refine yO ?_;refine yM ?_;refine yO ?_;refine yt ?_
  refine yT ?_;refine yM ?_;refine yO ?_;refine yM ?_;refine yO ?_;refine yM ?_;refine yO ?_;refine yt ?_
  refine yT ?_;refine yM ?_;refine y3 ?_;refine wE_ret ?_
  exact endP_ret (hx13.log.trans hr.log) rfl rfl
 ·rw[decide_eq_false hfew]
  refine yA ?_;refine y3 ?_;refine yY ?_;refine y4 ?_
  refine yC ?_
  refine FW.pu (F.c19 (.of (hx.wf hr.wf))) ?_
  refine yM ?_;refine y3 ?_;refine wE_ret ?_;refine kS_r ?_
  exact endP_ret hr.log rfl rfl
end Go.A.Pk
end
section
set_option maxRecDepth 100000
open Go Go.A Go.Proofs Go.RowKit
namespace Go.A.Pk
theorem c7:compF Tryz.prog Tryz.f7 [[1,2,3,4],[1,2,3,4,33],[8],[1,2,3,4,9,10,11],[1,2,3,4,9,10,11,12,13,14],[1,2,3,4,9,10,11,12,13,14,15,16,17],[1,2,3,4,9,10,11,12,13,14,15,16,17,18,19,20],[1,2,3,4,9,10,11,12,13,14,15,16,17,18,19,20,21,22],[1,2,3,4,9,10,11,12,13,14,15,16,17,18,19,20,21,22,23,24],[1,2,3,4,9,10,11,12,13,14,15,16,17,18,19,20,21,22,23,24,25,26,27],[9,10,11,12,13,14,15,16,17,18,19,20,21,22,23,24,25,26,27,28,29,30],[8]]=some f7:=by kernel_rfl
theorem c33:compF Tryz.prog Tryz.f33 [[1,2,3],[1,2,3,8],[1,2,3,8,15],[6,7],[1,2,9],[6,7]]=some f33:=by kernel_rfl
theorem c40:compF Tryz.prog Tryz.f40 [[1,2,3,4],[1,2,3,11,12],[1,2,3,11,12,28],[8,9,10],[13],[13,39],[8,9,10],[8,9,10]]=some f40:=by kernel_rfl
theorem c41:compF Tryz.prog Tryz.f41 [[1,2,3,4],[1,2,3,4,11],[1,2,3,4,11,19],[8,9,10],[1,2,12],[1,2,12,29],[8,9,10],[8,9,10]]=some f41:=by kernel_rfl
theorem c43:compF Tryz.prog Tryz.f43 [[1,2,3,4],[1,2,3,4,11,12,13],[1,2,3,4,11,13,29],[8,9,10],[1,2,3,4,11,14],[1,2,3,4,11,14,16],[1,2,3,4,16,17],[1,2,3,4,16,17,43],[1,2,3,4,16,17,18],[1,2,3,4,16,17,18,55],[1,2,3,4,16,17],[1,2,3,4,16,17],[8,9,10]]=some f43:=by kernel_rfl
theorem c45:compF Tryz.prog Tryz.f45 [[1,2,3],[1,2,3,8],[1,2,3,8,16],[6,7],[1,2,3,9],[1,2,3,9,10],[1,2,3,9,10,22],[1,2,3,9,10,30],[1,2,3,9,10],[1,2,3,9,10],[6,7]]=some f45:=by kernel_rfl
theorem c47:compF Tryz.prog Tryz.f47 [[1,2,3,4],[1,2,3,4,11],[1,2,3,4,11,20],[8,9,10],[1,2,3,4,12],[12,13],[8,9,10]]=some f47:=by kernel_rfl
theorem c93:compF Tryz.prog Tryz.f93 [[1,2],[1,2,3],[1,2,3,4],[1,2,3,4,10],[1,2,3,4,5],[1,2,3,4,5,14],[1,2,3,4,5,6],[1,2,3,4,5,6,21],[1,2,3,4,5,6,31],[1,2,3,4,5,6],[1,2,3,4,5,6],[1,2,3,4,5,7],[1,2,3,4,5,7,50],[1,2,3,4,5,7],[1,2,3,4,5,7],[1,2,3,4,5,8],[1,2,3,4,5,8,82],[1,2,3,4,5,8],[1,2,3,4,5,8],[1,2,3,4,5],[1,2,3,4],[2]]=some f93:=by kernel_rfl
theorem c100:compF Tryz.prog Tryz.f100 [[1,2,4],[1,2,4,5],[1,2,4,5,6],[1,2,4,5,6,7],[1,2,4,5,6,7,18],[1,2,4,5,6,7,8],[1,2,4,5,6,7,8,22],[1,2,4,5,6,7,8],[1,2,4,5,6,7,8],[1,2,4,5,6,7],[1,2,4,5,6,9],[1,2,4,5,6,9,30],[1,2,4,5,6,9,10],[1,2,4,5,6,9,10,34],[1,2,4,5,6,9,10,44],[1,2,4,5,6,9,10],[1,2,4,5,6,9,10,11],[1,2,4,5,6,9,10,11,57],[1,2,4,5,6,9,10,11,12],[1,2,4,5,6,9,10,11],[1,2,4,5,6,9,10,11],[1,2,4,5,6,9,10,13],[1,2,4,5,6,9,10,13,101],[1,2,4,5,6,9,10,13,14],[1,2,4,5,6,9,10,13],[1,2,4,5,6,9,10,13],[1,2,4,5,6,9,10],[1,2,4,5,6,9],[4]]=some f100:=by kernel_rfl
theorem c101:compF Tryz.prog Tryz.f101 [[1,2,3,4],[1,2,3,4,9],[1,2,9,10],[8]]=some f101:=by kernel_rfl
theorem c102:compF Tryz.prog Tryz.f102 [[1,2,3,6],[1,2,6,7],[6,7],[6]]=some f102:=by kernel_rfl
theorem c107:compF Tryz.prog Tryz.f107 [[1,2,3,4,5],[1,2,3,4,5,11],[1,2,3,4,5,11,12],[1,2,3,4,5,11,12,13],[1,2,3,4,5,11,12,13,23],[1,2,3,4,5,11,12,13,14],[1,2,3,4,5,11,12,13,14,27],[1,2,3,4,5,11,12,13,14],[1,2,3,4,5,11,12,13,14,39],[1,2,3,4,5,11,12,13,14],[1,2,3,4,5,11,12,13,14,15],[1,2,3,4,5,11,12,13,14,15,48],[1,2,3,4,5,11,12,13,14,15,73],[1,2,3,4,5,11,12,13,14,15,76],[1,2,3,4,5,11,12,13,14,15],[1,2,3,4,5,11,12,13,14,15],[1,2,3,4,5,11,12,13,14,15],[1,2,3,4,5,11,12,13,14,16],[1,2,3,4,5,11,12,13,14,16,100],[1,2,3,4,5,11,12,13,14,16,17],[1,2,3,4,5,11,12,13,14,16,17,126],[1,2,3,4,5,11,12,13,14,16],[1,2,3,4,5,11,12,13,14,16],[1,2,3,4,5,11,12,13,14,18],[1,2,3,4,5,11,12,13,14,18,150],[1,2,3,4,5,11,12,13,14,18,19],[1,2,3,4,5,11,12,13,14,18,19,176],[1,2,3,4,5,11,12,13,14,18],[1,2,3,4,5,11,12,13,14,18],[1,2,3,4,5,11,12,13,14],[1,2,3,4,5,11,12,13],[10]]=some f107:=by kernel_rfl
theorem c112:compF Tryz.prog Tryz.f112 [[1,2,3],[6]]=some f112:=by kernel_rfl
def tree7:Tr:=(.node (.node (.node (.node (.node (.node .nil 7 f7 .nil) 18 f18 (.node .nil 19 (.prim (pConst (.bool true))) .nil)) 32 f32 (.node (.node .nil 33 f33 .nil) 40 f40 .nil)) 41 f41 (.node (.node (.node .nil 42 f42 .nil) 43 f43 (.node .nil 44 f44 .nil)) 45 f45 (.node (.node .nil 46 f46 .nil) 47 f47 .nil))) 48 f48 (.node (.node (.node (.node .nil 66 f66 .nil) 67 f67 (.node .nil 75 f75 .nil)) 76 f76 (.node (.node .nil 77 f77 .nil) 79 f79 .nil)) 80 f80 (.node (.node (.node .nil 83 f83 .nil) 93 f93 (.node .nil 94 f94 .nil)) 96 f96 (.node (.node .nil 97 f97 .nil) 98 f98 .nil)))) 99 f99 (.node (.node (.node (.node (.node .nil 100 f100 .nil) 101 f101 (.node .nil 102 f102 .nil)) 103 f103 (.node (.node .nil 104 f104 .nil) 105 f105 .nil)) 106 f106 (.node (.node (.node .nil 107 f107 .nil) 112 f112 (.node .nil 113 f113 .nil)) 117 f117 (.node (.node .nil 118 f118 .nil) 119 f119 .nil))) 122 f122 (.node (.node (.node (.node .nil 123 f123 .nil) 125 f125 (.node .nil 136 f136 .nil)) 138 f138 (.node (.node .nil 139 f139 .nil) 140 f140 .nil)) 141 f141 (.node (.node (.node .nil 147 f147 .nil) 149 f149 (.node .nil 165 f165 .nil)) 166 f166 (.node (.node .nil 167 f167 .nil) 168 f168 .nil)))))
def T7:Nat→Option AFunc:=tree7.get
theorem all7:tree7.all (Entry Tryz.prog):=by
 unfold tree7
 exact(Tr.all_node (Tr.all_node (Tr.all_node (Tr.all_node (Tr.all_node (Tr.all_node Tr.all_nil (.of Tryz.func7 c7) Tr.all_nil) (.of Tryz.func18 c18) (Tr.all_node Tr.all_nil ok19 Tr.all_nil)) (.of Tryz.func32 c32) (Tr.all_node (Tr.all_node Tr.all_nil (.of Tryz.func33 c33) Tr.all_nil) (.of Tryz.func40 c40) Tr.all_nil)) (.of Tryz.func41 c41) (Tr.all_node (Tr.all_node (Tr.all_node Tr.all_nil (.of Tryz.func42 c42) Tr.all_nil) (.of Tryz.func43 c43) (Tr.all_node Tr.all_nil (.of Tryz.func44 c44) Tr.all_nil)) (.of Tryz.func45 c45) (Tr.all_node (Tr.all_node Tr.all_nil (.of Tryz.func46 c46) Tr.all_nil) (.of Tryz.func47 c47) Tr.all_nil))) (.of Tryz.func48 c48) (Tr.all_node (Tr.all_node (Tr.all_node (Tr.all_node Tr.all_nil (.of Tryz.func66 c66) Tr.all_nil) (.of Tryz.func67 c67) (Tr.all_node Tr.all_nil (.of Tryz.func75 c75) Tr.all_nil)) (.of Tryz.func76 c76) (Tr.all_node (Tr.all_node Tr.all_nil (.of Tryz.func77 c77) Tr.all_nil) (.of Tryz.func79 c79) Tr.all_nil)) (.of Tryz.func80 c80) (Tr.all_node (Tr.all_node (Tr.all_node Tr.all_nil (.of Tryz.func83 c83) Tr.all_nil) (.of Tryz.func93 c93) (Tr.all_node Tr.all_nil (.of Tryz.func94 c94) Tr.all_nil)) (.of Tryz.func96 c96) (Tr.all_node (Tr.all_node Tr.all_nil (.of Tryz.func97 c97) Tr.all_nil) (.of Tryz.func98 c98) Tr.all_nil)))) (.of Tryz.func99 c99) (Tr.all_node (Tr.all_node (Tr.all_node (Tr.all_node (Tr.all_node Tr.all_nil (.of Tryz.func100 c100) Tr.all_nil) (.of Tryz.func101 c101) (Tr.all_node Tr.all_nil (.of Tryz.func102 c102) Tr.all_nil)) (.of Tryz.func103 c103) (Tr.all_node (Tr.all_node Tr.all_nil (.of Tryz.func104 c104) Tr.all_nil) (.of Tryz.func105 c105) Tr.all_nil)) (.of Tryz.func106 c106) (Tr.all_node (Tr.all_node (Tr.all_node Tr.all_nil (.of Tryz.func107 c107) Tr.all_nil) (.of Tryz.func112 c112) (Tr.all_node Tr.all_nil (.of Tryz.func113 c113) Tr.all_nil)) (.of Tryz.func117 c117) (Tr.all_node (Tr.all_node Tr.all_nil (.of Tryz.func118 c118) Tr.all_nil) (.of Tryz.func119 c119) Tr.all_nil))) (.of Tryz.func122 c122) (Tr.all_node (Tr.all_node (Tr.all_node (Tr.all_node Tr.all_nil (.of Tryz.func123 c123) Tr.all_nil) (.of Tryz.func125 c125) (Tr.all_node Tr.all_nil (.of Tryz.func136 c136) Tr.all_nil)) (.of Tryz.func138 c138) (Tr.all_node (Tr.all_node Tr.all_nil (.of Tryz.func139 c139) Tr.all_nil) (.of Tryz.func140 c140) Tr.all_nil)) (.of Tryz.func141 c141) (Tr.all_node (Tr.all_node (Tr.all_node Tr.all_nil (.of Tryz.func147 c147) Tr.all_nil) (.of Tryz.func149 c149) (Tr.all_node Tr.all_nil (.of Tryz.func165 c165) Tr.all_nil)) (.of Tryz.func166 c166) (Tr.all_node (Tr.all_node Tr.all_nil (.of Tryz.func167 c167) Tr.all_nil) (.of Tryz.func168 c168) Tr.all_nil)))))
theorem sound7:SoundT Tryz.prog T7:=soundT_of (by kernel_rfl) all7
theorem fnsA7:FnsA T7:={p:=sound7.primAS,f77:=by kernel_rfl,f117:=by kernel_rfl,f119:=by kernel_rfl,f147:=by kernel_rfl,f118:=by kernel_rfl,f66:=by kernel_rfl}
theorem fnsC7:FnsC T7:={p:=sound7.primAS,f18:=by kernel_rfl,f77:=by kernel_rfl,f97:=by kernel_rfl,f122:=by kernel_rfl,f149:=by kernel_rfl}
theorem fnsE7:FnsE T7:={fnsA7,fnsC7 with f75:=by kernel_rfl,f96:=by kernel_rfl,f113:=by kernel_rfl}
theorem fnsV7:FnsV T7:={p:=sound7.primAS,f94:=by kernel_rfl,f104:=by kernel_rfl,f105:=by kernel_rfl,f106:=by kernel_rfl,f136:=by kernel_rfl,f140:=by kernel_rfl,f141:=by kernel_rfl,f83:=by kernel_rfl}
theorem fnsW7:FnsW T7:={fnsE7,fnsV7 with f76:=by kernel_rfl,f32:=by kernel_rfl}
theorem fnsO7:FnsO T7:={p:=sound7.primAS,f125:=by kernel_rfl,f165:=by kernel_rfl,f167:=by kernel_rfl,f106:=by kernel_rfl,f168:=by kernel_rfl}
theorem fnsP7:FnsP T7:={p:=sound7.primAS,f140:=by kernel_rfl,f141:=by kernel_rfl,f166:=by kernel_rfl}
theorem fnsQ7:FnsQ T7:={fnsV7,fnsO7,fnsP7 with}
theorem fnsT7:FnsT T7:={fnsQ7 with f139:=by kernel_rfl,f138:=by kernel_rfl,f98:=by kernel_rfl}
theorem fnsU7:FnsU T7:={fnsW7,fnsT7 with f40:=by kernel_rfl,f42:=by kernel_rfl,f44:=by kernel_rfl}
theorem fnsO3K:FnsO3 T7:={fnsW7,fnsV7 with f103:=by kernel_rfl,f46:=by kernel_rfl}
theorem pu19K{h:Heap}:Pu T7 19 [] h (.bool true):= .prim (p:=pConst (.bool true)) (by kernel_rfl) rfl ⟨rfl,rfl⟩
theorem fnsB7:FnsB T7:={p:=sound7.primAS,f80:=by kernel_rfl,f67:=by kernel_rfl}
theorem fnsD7:FnsD T7:={fnsB7 with f79:=by kernel_rfl,f99:=by kernel_rfl,f123:=by kernel_rfl}
theorem fnsRB7:FnsRB T7:={p:=sound7.primAS,f93:=by kernel_rfl,f112:=by kernel_rfl}
theorem fnsRW7:FnsRW T7:={fnsRB7 with f100:=by kernel_rfl}
theorem fnsRC7:FnsRC T7:={fnsRW7,fnsD7 with f33:=by kernel_rfl,f41:=by kernel_rfl,f101:=by kernel_rfl}
theorem fnsRD7:FnsRD T7:={fnsRC7 with f102:=by kernel_rfl,f43:=by kernel_rfl,f45:=by kernel_rfl}
theorem fnsRO7:FnsRO T7:={fnsRD7 with f107:=by kernel_rfl,f47:=by kernel_rfl}
theorem fnsK:FnsK T7:={fnsU7,fnsO3K,fnsRO7 with f7:=by kernel_rfl,f48:=by kernel_rfl,c19:=fun _=>pu19K}
theorem kinds_calls{W:World}{sl:Value}{l:List Kd}(hk:KindsAt W sl l)(kerf w ht kind:Int):Calls Tryz.prog 7 #[.agg #[sl, .int .i64 kerf], .int .i64 w, .int .i64 ht, .int .i64 kind] W fun e W'=>e= .returned (.bool true)∧Below W.heap.size W W':=by
 obtain⟨h,μ,u,n,c,a,L⟩:=hk.laid
 obtain⟨r,h',⟨m,hm⟩,rfl,rfl⟩:=law7 fnsK L.rdy L.at' kerf w ht kind
 have hrun:=hm m (Nat.le_refl _)
 have hu:VR μ (.slice a n c) sl:=L.form▸L.val
 have ha:LR μ [.agg #[.slice a n c, .int .i64 kerf], .int .i64 w, .int .i64 ht, .int .i64 kind] [.agg #[sl, .int .i64 kerf], .int .i64 w, .int .i64 ht, .int .i64 kind]:=
  .cons (VR.aggL (.cons hu (.cons (.int _ _) .nil))) (.cons (.int _ _) (.cons (.int _ _) (.cons (.int _ _) .nil)))
 refine(acall_calls sound7 hrun L.rdy.log (by kernel_rfl) L.rel ha).mono fun e W' hq=> ?_
 obtain⟨μ',q1,q2,q3⟩:=hq
 cases e with
 |returned v'=>
  have hv:VR μ' (.bool true) v':=q1
  cases hv
  exact⟨rfl,St.below q3 L.ro⟩
 |panicked _=>exact q1.elim
 |outgrown=>exact q1.elim
end Go.A.Pk
end
