/- Walks of functions, plain laws, the table. -/
import Derived.Test.YteafdpbjocdbbaaGreatDoorSU2
import Derived.Test.YteafdpbjocdbbaaGreatDoorSF
import Derived.Test.YteafdpbjocdbbaaGreatDoorSU0
import Derived.Test.YteafdpbjocdbbaaGreatDoorSU1
import Derived.Test.YteafdpbjocdbbaaGreatDoorSD
set_option linter.all false
section
set_option maxRecDepth 100000
namespace Go.A.Pk
variable {T:Nat→Option AFunc}
theorem lputs_all{Z X:List Value}(h:X.length=Z.length):lputs Z 0 X=X:=by
 rw[lputs_mid (by omega),List.take_zero,List.nil_append,Nat.zero_add,List.drop_of_length_le (by omega),List.append_nil]
theorem st_all{Z X:List Value}(hx:X.length=289)(hz:Z.length=289)(ho:ones X=true):(Nat.beq (llen (cellsOf (.agg X.toArray))) 289&&Nat.ble (0+289) (llen Z)&&ones (cellsOf (.agg X.toArray)))=true:=by
 simp[cellsOf,llen_eq,hx,hz,ho]
theorem rep_len:(lrep 289 (Value.int .i64 0)).length=289:=by rw[grid_zero,ints_len,grid_len]
def doneD(d g:Nat→Nat→Int)(a b x y:Nat):Int:=if x<a∨(x=a∧y<b)then g x y else d x y
theorem doneD_next{d g:Nat→Nat→Int}{a b:Nat}:updF (doneD d g a b) a b (g a b)=doneD d g a (b+1):=by
 funext x y
 unfold updF doneD
 by_cases h:x=a∧y=b
 ·rw[if_pos h,if_pos (by omega),h.1,h.2]
 ·rw[if_neg h]
  by_cases h2:x<a∨(x=a∧y<b)
  ·rw[if_pos h2,if_pos (by omega)]
  ·rw[if_neg h2,if_neg (by omega)]
end Go.A.Pk
end
section
set_option maxRecDepth 100000
namespace Go.A.Pk
variable {T:Nat→Option AFunc}
def Shf(kerf:Int)(ws:List Int)(kl:List Kd)(d x y:Nat):Int:=ShF kerf ws kl d ((x:Int),(y:Int))
theorem cutS_left{kerf:Int}{ws:List Int}{kl:List Kd}{d a b n r:Nat}(hn:n≤a)(hr:mx 0 ((a:Int)-n-kerf)=r):ShF kerf ws kl d (oneB (3,n) a b)+ShF kerf ws kl d (twoB kerf (3,n) a b)=Shf kerf ws kl d n b+Shf kerf ws kl d r b:=by
 unfold oneB twoB Shf
 simp only[if_true]
 congr 1
 unfold mx at hr
 split at hr
 ·rw[hr]
 ·rw[ShF_out (by simp;omega),ShF_out (by simp;omega)]
theorem cutS_up{kerf:Int}{ws:List Int}{kl:List Kd}{d a b n r:Nat}(hn:n≤b)(hr:mx 0 ((b:Int)-n-kerf)=r):ShF kerf ws kl d (oneB (4,n) a b)+ShF kerf ws kl d (twoB kerf (4,n) a b)=Shf kerf ws kl d a n+Shf kerf ws kl d a r:=by
 unfold oneB twoB Shf
 simp only[show¬ (4:Nat)=3 by omega,if_false]
 congr 1
 unfold mx at hr
 split at hr
 ·rw[hr]
 ·rw[ShF_out (by simp;omega),ShF_out (by simp;omega)]
theorem Shf_bd{kerf W:Int}{ws:List Int}{kl:List Kd}(hk:0≤kerf)(hW:0≤W∧W≤1000000000)(hws:∀x∈ws,0≤x∧x≤W)(d x y:Nat)(hx:x≤16)(hy:y≤16):0≤Shf kerf ws kl d x y∧Shf kerf ws kl d x y≤256000000000:=by
 have h1:=V_bd (kl:=kl) hk hW.1 hws x y
 have h2:=area_mono (W:=W) (a:=x) (b:=y) (c:=16) (d:=16) hW.1 (by omega) (by omega) (by omega) (by omega)
 have h3:=ShF_le hk (ws:=ws) (kl:=kl) d ((x:Int),(y:Int))
 have h4:=ShF_nonneg (kerf:=kerf) (ws:=ws) (kl:=kl) d ((x:Int),(y:Int))
 unfold Shf
 omega
theorem Shf_out{kerf:Int}{ws:List Int}{kl:List Kd}{d x y:Nat}(h:¬ (1≤x∧1≤y)):Shf kerf ws kl d x y=0:=ShF_out (by dsimp only;omega) d
set_option maxHeartbeats 32000000 in
theorem deeper124(hp:primAS T)(hf:T 124=some f124){h:Heap}(hr:Rdy h){a0:Option Addr}{n c:Nat}{l:List Kd}{kerf W:Int}(hk:0≤kerf∧kerf≤100)(hW:0≤W∧W≤1000000000)(hws:∀x∈wsOf l,0≤x∧x≤W)(d:Nat):
 Pu T 124 [.agg #[.slice a0 n c, .int .i64 kerf], .agg (ints (grid (Shf kerf (wsOf l) l d))).toArray] h (.agg (ints (grid (Shf kerf (wsOf l) l (d+1)))).toArray):=by
 refine .of hp hf hr (scalL_ints _) ?_
 have hVb:∀x y:Nat,x≤16→y≤16→0≤Shf kerf (wsOf l) l d x y∧Shf kerf (wsOf l) l d x y≤256000000000:=fun x y hx hy=>Shf_bd hk.1 hW hws d x y hx hy
 have hGH:∀x y:Nat,¬ (1≤x∧1≤y)→Shf kerf (wsOf l) l (d+1) x y=Shf kerf (wsOf l) l d x y:=fun x y q=>by rw[Shf_out q,Shf_out q]
 have hval:∀a b:Nat,1≤a→1≤b→Shf kerf (wsOf l) l (d+1) a b=foldM (fun x=>ShF kerf (wsOf l) l d (oneB x a b)+ShF kerf (wsOf l) l d (twoB kerf x a b)) (row 4 (b-1)) (foldM (fun x=>ShF kerf (wsOf l) l d (oneB x a b)+ShF kerf (wsOf l) l d (twoB kerf x a b)) (row 3 (a-1)) (Shf kerf (wsOf l) l d a b)):=fun a b ha hb=>by
  unfold Shf
  rw[ShF_succ ha hb]
  unfold cutsL foldM
  rw[List.foldl_append]
 generalize hG:Shf kerf (wsOf l) l d=G at*
 generalize hH:Shf kerf (wsOf l) l (d+1)=H at*
 have hl:(ints (grid G)).length=289:=by rw[ints_len,grid_len]
 have eC:ones (ints (grid G))=true:=ones_ints _
 have eA0:ltake 289 (ldrop 0 (ints (grid G)))=ints (grid G):=by rw[ltake_eq,ldrop_eq,List.drop_zero,List.take_of_length_le (by omega)]
 generalize hX:ints (grid G)=XS at hl eC eA0⊢
 refine y4 ?_;refine yB ?_;refine yB ?_;refine wO_val a_new ?_;refine y3 ?_;refine y4 ?_
 refine wO_val (a_loadN (l:=XS) (by exact rfl) (by(simp(disch:=first|omega|(simp only[z1,z2];omega)|(simp only[z1,z2];done)|fail)only[z8,z4,z5,z9,z7,z1,z2, *];exact rfl)) eA0 (by rw[llen_eq,hl];rfl)) ?_
 refine wO_val a_new ?_
 refine wO_val (a_store (ws:=XS) (by exact rfl) (by exact rfl) (by(simp(disch:=first|omega|(simp only[z1,z2];omega)|(simp only[z1,z2];done)|fail)only[z8,z4,z5,z9,z7,z1,z2, *];exact rfl)) (st_all hl rep_len eC) (lputs_all (by show XS.length=_;rw[hl,rep_len]))) ?_
 refine y3 ?_;refine wE_seq ?_;refine y4 ?_;refine yM ?_;refine y3 ?_;refine wE_block ?_
 refine WE.gen ?_
 intro hA hAe
 have A1:hA.get h.next=some (.cells [.slice a0 n c, .int .i64 kerf] true 1):=by rw[hAe];(simp(disch:=first|omega|(simp only[z1,z2];omega))only[z3,z4,z5,z6,z7,z1,z2, *];exact rfl)
 have A2:hA.get (h.next+1)=some (.cells (ints (grid G)) true 1):=by rw[hAe,hX];(simp(disch:=first|omega|(simp only[z1,z2];omega)|(simp only[z1,z2];done)|fail)only[z8,z4,z5,z9,z7,z1,z2, *];exact rfl)
 have A3:hA.get (h.next+2)=some (.cells (ints (grid fun _ _=>0)) true 1):=by rw[hAe,←grid_zero];(simp(disch:=first|omega|(simp only[z1,z2];omega)|(simp only[z1,z2];done)|fail)only[z8,z4,z5,z9,z7,z1,z2, *];done)
 have A4:hA.get (h.next+3)=some (.cells (ints (grid G)) true 1):=by rw[hAe,hX];(simp(disch:=first|omega|(simp only[z1,z2];omega)|(simp only[z1,z2];done)|fail)only[z8,z4,z5,z9,z7,z1,z2, *];done)
 have A0:∀z,z<h.next→hA.get z=h.get z:=fun z hz=>by rw[hAe];simp(disch:=first|omega|(simp only[z1,z2];omega))only[z5,z4]
 have A5:hA.next=h.next+4:=by rw[hAe];rfl
 have A6:hA.log=[]:=by rw[hAe];simp(disch:=first|omega|(simp only[z1,z2];omega))only[Heap.log_wr_new,Heap.log_push];exact hr.log
 have A7:WF hA:=by rw[hAe];exact((((hr.wf.push _).push _).push _).push _).as (AS.wr _ _ _ _)
 clear hAe hX eA0
 refine wE_loop (fun m e ds h'=>∃a:Nat,1≤a∧a≤17∧m=17-a∧e=[(2, .pointer (some ⟨h.next,0,none⟩)),(3, .pointer (some ⟨h.next+1,0,none⟩)),(4, .pointer (some ⟨h.next+2,0,none⟩)),(5, .pointer (some ⟨h.next+3,0,none⟩)),(6, .int .i64 a)]∧ds=[]∧Vt (h.next+3) hA h' (doneD G H a 1))
  ⟨1,by omega,by omega,rfl,rfl,rfl,⟨fun _ _=>rfl,by rw[A4];refine congrArg (fun q=>some (AObj.cells (ints q) true 1)) (grid_congr fun x y hx hy=> ?_);unfold doneD;split;exact(hGH x y (by omega)).symm;rfl,A6,A7,by omega⟩⟩ ?_
 rintro m e ds h4 ⟨a,ha1,ha2,rfl,rfl,rfl,w4⟩
 by_cases hlt4:a<17
 ·refine wE_seq ?_;refine y4 ?_;refine yM ?_;refine yt ?_;refine y3 ?_;refine yY ?_;refine wE_skip ?_;refine kS_n ?_
  refine wE_seq ?_;refine wE_block ?_;refine y4 ?_;refine yM ?_;refine y3 ?_;refine wE_block ?_
  refine wE_loop (fun m e ds h'=>∃b:Nat,1≤b∧b≤17∧m=17-b∧e=[(2, .pointer (some ⟨h.next,0,none⟩)),(3, .pointer (some ⟨h.next+1,0,none⟩)),(4, .pointer (some ⟨h.next+2,0,none⟩)),(5, .pointer (some ⟨h.next+3,0,none⟩)),(6, .int .i64 a),(7, .int .i64 b)]∧ds=[]∧Vt (h.next+3) hA h' (doneD G H a b))
   ⟨1,by omega,by omega,rfl,rfl,rfl,w4⟩ ?_
  rintro m e ds h5 ⟨b,hb1,hb2,rfl,rfl,rfl,w5⟩
  by_cases hlt5:b<17
  ·have v8:Vt (h.next+3) hA h5 (updF (doneD G H a b) a b (G a b)):=w5.congr fun x y _ _=>by
    unfold updF doneD
    by_cases q:x=a∧y=b
    ·rw[if_pos q,if_neg (by omega),q.1,q.2]
    ·rw[if_neg q]
   generalize hM0:G a b=M0 at*
   refine wE_seq ?_;refine y4 ?_;refine yM ?_;refine yt ?_;refine y3 ?_;refine yY ?_;refine wE_skip ?_;refine kS_n ?_
   refine wE_seq ?_;refine wE_block ?_;refine wE_seq ?_;refine y4 ?_;refine yM ?_;refine y3 ?_;refine wE_block ?_
   refine wE_loop (fun m e ds h'=>∃n:Nat,n+1≤a∧m=a-n∧e=[(2, .pointer (some ⟨h.next,0,none⟩)),(3, .pointer (some ⟨h.next+1,0,none⟩)),(4, .pointer (some ⟨h.next+2,0,none⟩)),(5, .pointer (some ⟨h.next+3,0,none⟩)),(6, .int .i64 a),(7, .int .i64 b),(8, .int .i64 (n+1:Nat))]∧ds=[]∧Vt (h.next+3) hA h' (updF (doneD G H a b) a b (foldM (fun x=>ShF kerf (wsOf l) l d (oneB x a b)+ShF kerf (wsOf l) l d (twoB kerf x a b)) (row 3 n) M0)))
    ⟨0,by omega,rfl,rfl,rfl,by simpa[row,foldM]using v8⟩ ?_
   rintro m e ds h8 ⟨n,hn2,rfl,rfl,rfl,w8⟩
   have g6:=w8.obj
   have g2:=(w8.old h.next (by omega)).trans A1
   have g5:=(w8.old (h.next+1) (by omega)).trans A2
   have k3:=w8.nx
   by_cases hlt8:n+1<a
   ·obtain⟨r,hr1⟩:∃r:Nat,mx 0 ((a:Int)-(n+1:Nat)-kerf)=r:=by
     have:0≤mx 0 ((a:Int)-(n+1:Nat)-kerf):=mx_ge.1
     exact⟨_,(Int.toNat_of_nonneg this).symm⟩
    have hrl:r<a:=by unfold mx at hr1;split at hr1<;>omega
    have c1:=grid_get (f:=updF (doneD G H a b) a b (foldM (fun x=>ShF kerf (wsOf l) l d (oneB x a b)+ShF kerf (wsOf l) l d (twoB kerf x a b)) (row 3 n) M0)) (a:=a) (b:=b) (by omega) (by omega)
    have d2:=grid_get (f:=G) (a:=n+1) (b:=b) (by omega) (by omega)
    have d3:=grid_get (f:=G) (a:=r) (b:=b) (by omega) (by omega)
    rw[updF_self]at c1
    have hcut:=cutS_left (ws:=wsOf l) (kl:=l) (d:=d) (a:=a) (b:=b) (n:=n+1) (r:=r) (kerf:=kerf) (by omega) hr1
    rw[hG]at hcut
    have hb2:=hVb (n+1) b (by omega) (by omega)
    have hb3:=hVb r b (by omega) (by omega)
    have hnext:mx (foldM (fun x=>ShF kerf (wsOf l) l d (oneB x a b)+ShF kerf (wsOf l) l d (twoB kerf x a b)) (row 3 n) M0) (G (n+1) b+G r b)=(foldM (fun x=>ShF kerf (wsOf l) l d (oneB x a b)+ShF kerf (wsOf l) l d (twoB kerf x a b)) (row 3 (n+1)) M0):=by rw[foldM_row,←hcut]
    generalize hP:(foldM (fun x=>ShF kerf (wsOf l) l d (oneB x a b)+ShF kerf (wsOf l) l d (twoB kerf x a b)) (row 3 n) M0)=P at*
    clear hcut
    refine wE_seq ?_;refine y4 ?_;refine yM ?_;refine yM ?_;refine yt ?_;refine y3 ?_;refine yY ?_
    refine wE_skip ?_;refine kS_n ?_;refine wE_seq ?_;refine wE_block ?_;refine wE_draw ?_;refine qM ?_;refine qM ?_;refine qM ?_
    refine qM ?_;refine wD_quiet rfl rfl rfl (by exact rfl) (by exact rfl) (by exact rfl) (a_iaddrA (by exact rfl) (by exact rfl) (by omega)) ?_;refine wD_quiet rfl rfl rfl (by exact rfl) (by exact rfl) (by exact rfl) (a_iaddrA (by exact rfl) (by exact rfl) (by omega)) ?_
    refine wD_quiet rfl rfl rfl (by exact rfl) (by exact rfl) (by exact rfl) (a_load (by exact rfl) (by assumption) (by assumption)) ?_;refine qM ?_;refine qM ?_
    refine wD_quiet rfl rfl rfl (by exact rfl) (by exact rfl) (by exact rfl) (a_iaddrA (by exact rfl) (by exact rfl) (by omega)) ?_;refine wD_quiet rfl rfl rfl (by exact rfl) (by exact rfl) (by exact rfl) (a_iaddrA (by exact rfl) (by exact rfl) (by omega)) ?_;refine wD_quiet rfl rfl rfl (by exact rfl) (by exact rfl) (by exact rfl) (a_load (by exact rfl) (by assumption) (by assumption)) ?_
    refine qM ?_;refine qM ?_;refine wD_quiet rfl rfl rfl (by exact rfl) (by exact rfl) (by exact rfl) (a_num (by exact rfl) (by exact rfl) (by exact m_sub (wrapA_i64 (by omega) (by omega)))) ?_
    refine qF ?_;refine qL ?_;refine wD_quiet rfl rfl rfl (by exact rfl) (by exact rfl) (by exact rfl) (a_num (by exact rfl) (by exact rfl) (by exact m_sub (wrapA_i64 (by omega) (by omega)))) ?_
    refine wD_quiet rfl rfl rfl (by exact rfl) (by exact rfl) (by exact rfl) (a_max (by exact rfl) (by exact rfl)) ?_;refine qM ?_
    rw[hr1]
    refine wD_quiet rfl rfl rfl (by exact rfl) (by exact rfl) (by exact rfl) (a_iaddrA (by exact rfl) (by exact rfl) (by omega)) ?_;refine wD_quiet rfl rfl rfl (by exact rfl) (by exact rfl) (by exact rfl) (a_iaddrA (by exact rfl) (by exact rfl) (by omega)) ?_;refine wD_quiet rfl rfl rfl (by exact rfl) (by exact rfl) (by exact rfl) (a_load (by exact rfl) (by assumption) (by assumption)) ?_
    refine wD_quiet rfl rfl rfl (by exact rfl) (by exact rfl) (by exact rfl) (a_num (by exact rfl) (by exact rfl) (by exact m_add (wrapA_i64 (by omega) (by omega)))) ?_;refine wD_quiet rfl rfl rfl (by exact rfl) (by exact rfl) (by exact rfl) (a_max (by exact rfl) (by exact rfl)) ?_
    refine wD_quiet rfl rfl rfl (by exact rfl) (by exact rfl) (by exact rfl) (a_iaddrA (by exact rfl) (by exact rfl) (by omega)) ?_;refine wD_quiet rfl rfl rfl (by exact rfl) (by exact rfl) (by exact rfl) (a_iaddrA (by exact rfl) (by exact rfl) (by omega)) ?_
    refine wD_store (ws:=ints (grid (updF (updF (doneD G H a b) a b P) a b (mx P (G (n+1) b+G r b))))) rfl rfl rfl (by exact rfl) (by exact rfl) (by exact rfl) (by assumption) (grid_st (by omega) (by omega)) (grid_put (by omega) _) (by omega) (by omega) (by apply ra_dropC rfl;apply ra_dropC rfl;apply ra_dropC rfl;apply ra_dropC rfl;apply ra_dropC rfl;apply ra_dropC rfl;apply ra_dropC rfl;apply ra_dropC rfl;apply ra_dropC rfl;apply ra_dropC rfl;apply ra_dropC rfl;apply ra_dropC rfl;apply ra_dropC rfl;apply ra_dropC rfl;apply ra_dropC rfl;apply ra_dropC rfl;apply ra_dropC rfl;apply ra_dropC rfl;apply ra_dropC rfl;apply ra_dropC rfl;apply ra_dropC rfl;apply ra_dropC rfl;apply ra_dropC rfl;apply ra_dropC rfl;apply ra_dropC rfl;apply ra_dropC rfl;apply ra_dropC rfl;exact ra_nil) ?_
    refine wD_nil ?_;refine y1 ?_;refine kB_n ?_;refine kS_n ?_;refine wE_region ?_;refine yM ?_;refine yinc ?_;refine yM ?_;refine y3 ?_
    refine⟨a-(n+1),by omega,n+1,by omega,rfl,rfl,rfl,?_⟩
    have:=w8.wr (base:=h.next) (a:=a) (b:=b) (mx P (G (n+1) b+G r b)) (by omega)
    rw[←hnext]
    rw[updF_upd]at this⊢
    exact this
   ·obtain rfl:n=a-1:=by omega
    generalize hM1:foldM (fun x=>ShF kerf (wsOf l) l d (oneB x a b)+ShF kerf (wsOf l) l d (twoB kerf x a b)) (row 3 (a-1)) M0=M1 at*
    have v9:=w8
    refine wE_seq ?_;refine y4 ?_;refine yM ?_;refine yM ?_;refine yf ?_;refine y3 ?_;refine yX ?_
    refine wE_exit ?_;refine kS_e ?_;refine kS_e ?_;refine kB_e ?_;refine kS_n ?_;refine y4 ?_;refine yM ?_;refine y3 ?_;refine wE_block ?_
    refine wE_loop (fun m e ds h'=>∃n:Nat,n+1≤b∧m=b-n∧e=[(2, .pointer (some ⟨h.next,0,none⟩)),(3, .pointer (some ⟨h.next+1,0,none⟩)),(4, .pointer (some ⟨h.next+2,0,none⟩)),(5, .pointer (some ⟨h.next+3,0,none⟩)),(6, .int .i64 a),(7, .int .i64 b),(9, .int .i64 (n+1:Nat))]∧ds=[]∧Vt (h.next+3) hA h' (updF (doneD G H a b) a b (foldM (fun x=>ShF kerf (wsOf l) l d (oneB x a b)+ShF kerf (wsOf l) l d (twoB kerf x a b)) (row 4 n) M1)))
     ⟨0,by omega,rfl,rfl,rfl,by simpa[row,foldM]using v9⟩ ?_
    rintro m e ds h9 ⟨n,hn2,rfl,rfl,rfl,w9⟩
    have g6:=w9.obj
    have g2:=(w9.old h.next (by omega)).trans A1
    have g5:=(w9.old (h.next+1) (by omega)).trans A2
    have k3:=w9.nx
    by_cases hlt9:n+1<b
    ·obtain⟨r,hr1⟩:∃r:Nat,mx 0 ((b:Int)-(n+1:Nat)-kerf)=r:=by
      have:0≤mx 0 ((b:Int)-(n+1:Nat)-kerf):=mx_ge.1
      exact⟨_,(Int.toNat_of_nonneg this).symm⟩
     have hrl:r<b:=by unfold mx at hr1;split at hr1<;>omega
     have c1:=grid_get (f:=updF (doneD G H a b) a b (foldM (fun x=>ShF kerf (wsOf l) l d (oneB x a b)+ShF kerf (wsOf l) l d (twoB kerf x a b)) (row 4 n) M1)) (a:=a) (b:=b) (by omega) (by omega)
     have d2:=grid_get (f:=G) (a:=a) (b:=n+1) (by omega) (by omega)
     have d3:=grid_get (f:=G) (a:=a) (b:=r) (by omega) (by omega)
     rw[updF_self]at c1
     have hcut:=cutS_up (ws:=wsOf l) (kl:=l) (d:=d) (a:=a) (b:=b) (n:=n+1) (r:=r) (kerf:=kerf) (by omega) hr1
     rw[hG]at hcut
     have hb2:=hVb a (n+1) (by omega) (by omega)
     have hb3:=hVb a r (by omega) (by omega)
     have hnext:mx (foldM (fun x=>ShF kerf (wsOf l) l d (oneB x a b)+ShF kerf (wsOf l) l d (twoB kerf x a b)) (row 4 n) M1) (G a (n+1)+G a r)=(foldM (fun x=>ShF kerf (wsOf l) l d (oneB x a b)+ShF kerf (wsOf l) l d (twoB kerf x a b)) (row 4 (n+1)) M1):=by rw[foldM_row,←hcut]
     generalize hP:(foldM (fun x=>ShF kerf (wsOf l) l d (oneB x a b)+ShF kerf (wsOf l) l d (twoB kerf x a b)) (row 4 n) M1)=P at*
     clear hcut
     refine wE_seq ?_;refine y4 ?_;refine yM ?_;refine yM ?_;refine yt ?_;refine y3 ?_;refine yY ?_
     refine wE_skip ?_;refine kS_n ?_;refine wE_seq ?_;refine wE_block ?_;refine wE_draw ?_;refine qM ?_;refine qM ?_;refine qM ?_
     refine qM ?_;refine wD_quiet rfl rfl rfl (by exact rfl) (by exact rfl) (by exact rfl) (a_iaddrA (by exact rfl) (by exact rfl) (by omega)) ?_;refine wD_quiet rfl rfl rfl (by exact rfl) (by exact rfl) (by exact rfl) (a_iaddrA (by exact rfl) (by exact rfl) (by omega)) ?_
     refine wD_quiet rfl rfl rfl (by exact rfl) (by exact rfl) (by exact rfl) (a_load (by exact rfl) (by assumption) (by assumption)) ?_;refine qM ?_;refine qM ?_
     refine wD_quiet rfl rfl rfl (by exact rfl) (by exact rfl) (by exact rfl) (a_iaddrA (by exact rfl) (by exact rfl) (by omega)) ?_;refine wD_quiet rfl rfl rfl (by exact rfl) (by exact rfl) (by exact rfl) (a_iaddrA (by exact rfl) (by exact rfl) (by omega)) ?_;refine wD_quiet rfl rfl rfl (by exact rfl) (by exact rfl) (by exact rfl) (a_load (by exact rfl) (by assumption) (by assumption)) ?_
     refine qM ?_;refine qM ?_;refine qM ?_
     refine wD_quiet rfl rfl rfl (by exact rfl) (by exact rfl) (by exact rfl) (a_num (by exact rfl) (by exact rfl) (by exact m_sub (wrapA_i64 (by omega) (by omega)))) ?_;refine qF ?_;refine qL ?_
     refine wD_quiet rfl rfl rfl (by exact rfl) (by exact rfl) (by exact rfl) (a_num (by exact rfl) (by exact rfl) (by exact m_sub (wrapA_i64 (by omega) (by omega)))) ?_;refine wD_quiet rfl rfl rfl (by exact rfl) (by exact rfl) (by exact rfl) (a_max (by exact rfl) (by exact rfl)) ?_
     refine wD_quiet rfl rfl rfl (by exact rfl) (by exact rfl) (by exact rfl) (a_iaddrA (by exact rfl) (by exact rfl) (by omega)) ?_
     rw[hr1]
     refine wD_quiet rfl rfl rfl (by exact rfl) (by exact rfl) (by exact rfl) (a_iaddrA (by exact rfl) (by exact rfl) (by omega)) ?_;refine wD_quiet rfl rfl rfl (by exact rfl) (by exact rfl) (by exact rfl) (a_load (by exact rfl) (by assumption) (by assumption)) ?_
     refine wD_quiet rfl rfl rfl (by exact rfl) (by exact rfl) (by exact rfl) (a_num (by exact rfl) (by exact rfl) (by exact m_add (wrapA_i64 (by omega) (by omega)))) ?_;refine wD_quiet rfl rfl rfl (by exact rfl) (by exact rfl) (by exact rfl) (a_max (by exact rfl) (by exact rfl)) ?_
     refine wD_quiet rfl rfl rfl (by exact rfl) (by exact rfl) (by exact rfl) (a_iaddrA (by exact rfl) (by exact rfl) (by omega)) ?_;refine wD_quiet rfl rfl rfl (by exact rfl) (by exact rfl) (by exact rfl) (a_iaddrA (by exact rfl) (by exact rfl) (by omega)) ?_
     refine wD_store (ws:=ints (grid (updF (updF (doneD G H a b) a b P) a b (mx P (G a (n+1)+G a r))))) rfl rfl rfl (by exact rfl) (by exact rfl) (by exact rfl) (by assumption) (grid_st (by omega) (by omega)) (grid_put (by omega) _) (by omega) (by omega) (by apply ra_dropC rfl;apply ra_dropC rfl;apply ra_dropC rfl;apply ra_dropC rfl;apply ra_dropC rfl;apply ra_dropC rfl;apply ra_dropC rfl;apply ra_dropC rfl;apply ra_dropC rfl;apply ra_dropC rfl;apply ra_dropC rfl;apply ra_dropC rfl;apply ra_dropC rfl;apply ra_dropC rfl;apply ra_dropC rfl;apply ra_dropC rfl;apply ra_dropC rfl;apply ra_dropC rfl;apply ra_dropC rfl;apply ra_dropC rfl;apply ra_dropC rfl;apply ra_dropC rfl;apply ra_dropC rfl;apply ra_dropC rfl;apply ra_dropC rfl;apply ra_dropC rfl;apply ra_dropC rfl;exact ra_nil) ?_
     refine wD_nil ?_;refine y1 ?_;refine kB_n ?_;refine kS_n ?_;refine wE_region ?_;refine yM ?_;refine yinc ?_;refine yM ?_;refine y3 ?_
     refine⟨b-(n+1),by omega,n+1,by omega,rfl,rfl,rfl,?_⟩
     have:=w9.wr (base:=h.next) (a:=a) (b:=b) (mx P (G a (n+1)+G a r)) (by omega)
     rw[←hnext]
     rw[updF_upd]at this⊢
     exact this
    ·obtain rfl:n=b-1:=by omega
     have hv:=hval a b ha1 hb1
     rw[hM0,hM1]at hv
     rw[←hv,doneD_next]at w9
     refine wE_seq ?_;refine y4 ?_;refine yM ?_;refine yM ?_;refine yf ?_;refine y3 ?_;refine yX ?_
     refine wE_exit ?_;refine kS_e ?_;refine kS_e ?_;refine kB_e ?_;refine kB_n ?_;refine kS_n ?_;refine wE_region ?_;refine yM ?_;refine yinc ?_;refine yM ?_;refine y3 ?_
     exact⟨17-(b+1),by omega,b+1,by omega,by omega,rfl,rfl,rfl,w9⟩
  ·obtain rfl:b=17:=by omega
   refine wE_seq ?_;refine y4 ?_;refine yM ?_;refine yf ?_;refine y3 ?_;refine yX ?_;refine wE_exit ?_;refine kS_e ?_
   refine kS_e ?_;refine kB_e ?_;refine kB_n ?_;refine kS_n ?_;refine wE_region ?_;refine yM ?_;refine yinc ?_;refine yM ?_;refine y3 ?_
   refine⟨17-(a+1),by omega,a+1,by omega,by omega,rfl,rfl,rfl,w5.congr fun x y hx hy=> ?_⟩
   unfold doneD
   by_cases hq:x<a∨(x=a∧y<17)
   ·rw[if_pos hq,if_pos (by omega)]
   ·rw[if_neg hq]
    split
    ·exact(hGH x y (by omega)).symm
    ·rfl
 ·obtain rfl:a=17:=by omega
  have hfin:grid (doneD G H 17 1)=grid H:=grid_congr fun x y hx hy=>by unfold doneD;rw[if_pos (by omega)]
  have hl:(ints (grid H)).length=289:=by rw[ints_len,grid_len]
  have hl0:(ints (grid fun _ _=>0)).length=289:=by rw[ints_len,grid_len]
  have eA:ltake 289 (ldrop 0 (ints (grid H)))=ints (grid H):=by rw[ltake_eq,ldrop_eq,List.drop_zero,List.take_of_length_le (by omega)]
  have eC:ones (ints (grid H))=true:=ones_ints _
  have wo:=w4.obj
  rw[hfin]at wo
  have wl:=w4.log
  have g2:=(w4.old (h.next+2) (by omega)).trans A3
  have hz:PLift (h4.get (h.next+3)=some (.cells (ints (grid H)) true 1)∧h4.get (h.next+2)=some (.cells (ints (grid fun _ _=>0)) true 1)):=⟨⟨wo,g2⟩⟩
  clear wo g2 w4 A1 A2 A3 A4
  generalize ints (grid H)=XS at*
  generalize ints (grid fun _ _=>0)=ZS at*
  refine wE_seq ?_;refine y4 ?_;refine yM ?_;refine yf ?_;refine y3 ?_;refine yX ?_;refine wE_exit ?_;refine kS_e ?_
  refine kS_e ?_;refine kB_e ?_;refine kS_n ?_;refine y4 ?_
  refine wO_val (a_loadN (l:=XS) (by exact rfl) hz.down.1 eA (by rw[llen_eq,hl];rfl)) ?_
  refine wO_val (a_store (ws:=XS) (by exact rfl) (by exact rfl) hz.down.2 (st_all hl hl0 eC) (lputs_all (by show XS.length=_;rw[hl,hl0]))) ?_
  refine y3 ?_;refine wE_ret ?_
  exact endP_ret ((Heap.log_wr_new (by omega)).trans wl) (res_cells (b:=h.next+2) (l:=XS) (by exact rfl) (Heap.get_wr_new hz.down.2) eA (by rw[llen_eq,hl];rfl) res_nil) rfl
end Go.A.Pk
end
section
set_option maxRecDepth 100000
namespace Go.A.Pk
variable {T:Nat→Option AFunc}
structure FnsRS (T:Nat→Option AFunc):Prop extends FnsRB T where
 f124:T 124=some f124
 f81:T 81=some f81
set_option maxHeartbeats 32000000 in
theorem rshallow81(F:FnsRS T){h:Heap}(hr:Rdy h){a0:Option Addr}{n c:Nat}{l:List Kd}{kerf W:Int}(hs:SliceOf h 5 (.slice a0 n c) n (kcs l))(hn:n<1000)(hk:0≤kerf∧kerf≤100)(hW:0≤W∧W≤1000000000)(hws:∀x∈wsOf l,0≤x∧x≤W)(dp:Nat)(hdp:dp<1000):
 Pu T 81 [.agg #[.slice a0 n c, .int .i64 kerf], .int .i64 dp] h (.agg (ints (grid (Shf kerf (wsOf l) l dp))).toArray):=by
 refine .of F.p F.f81 hr (scalL_ints _) ?_
 obtain rfl:n=l.length:=by have:=hs.len;rw[kcs_length]at this;omega
 have hleaf0:∀a b:Nat,1≤a→1≤b→leafM (wsOf l) (leavesL a b l 0) 0=Shf kerf (wsOf l) l 0 a b:=fun a b ha hb=>(ShF_zero ha hb).symm
 have hout:∀x y:Nat,¬ (1≤x∧1≤y)→Shf kerf (wsOf l) l 0 x y=0:=fun x y q=>Shf_out q
 generalize hG:Shf kerf (wsOf l) l 0=G at*
 refine y4 ?_;refine yB ?_;refine wO_val a_new ?_;refine y3 ?_;refine y4 ?_;refine wO_val a_new ?_;refine y3 ?_;refine wE_seq ?_;refine y4 ?_;refine yM ?_;refine y3 ?_;refine wE_block ?_
 refine WE.gen ?_
 intro hA hAe
 have A1:hA.get h.next=some (.cells [.slice a0 l.length c, .int .i64 kerf] true 1):=by rw[hAe];(simp(disch:=first|omega|(simp only[z1,z2];omega))only[z3,z4,z5,z6,z7,z1,z2, *];exact rfl)
 have A2:hA.get (h.next+1)=some (.cells (ints (grid fun _ _=>0)) true 1):=by rw[hAe,←grid_zero];(simp(disch:=first|omega|(simp only[z1,z2];omega)|(simp only[z1,z2];done)|fail)only[z8,z4,z5,z9,z7,z1,z2, *];done)
 have A3:hA.get (h.next+2)=some (.cells (ints (grid fun _ _=>0)) true 1):=by rw[hAe,←grid_zero];(simp(disch:=first|omega|(simp only[z1,z2];omega)|(simp only[z1,z2];done)|fail)only[z8,z4,z5,z9,z7,z1,z2, *];done)
 have A0:∀z,z<h.next→hA.get z=h.get z:=fun z hz=>by rw[hAe];simp(disch:=first|omega|(simp only[z1,z2];omega))only[z5,z4]
 have A5:hA.next=h.next+3:=by rw[hAe];rfl
 have A6:hA.log=[]:=by rw[hAe];exact hr.log
 have A7:WF hA:=by rw[hAe];exact((hr.wf.push _).push _).push _
 clear hAe
 refine wE_loop (fun m e ds h'=>∃a:Nat,1≤a∧a≤17∧m=17-a∧e=[(1, .int .i64 dp),(2, .pointer (some ⟨h.next,0,none⟩)),(4, .pointer (some ⟨h.next+1,0,none⟩)),(5, .pointer (some ⟨h.next+2,0,none⟩)),(6, .int .i64 a)]∧ds=[]∧Vt (h.next+2) hA h' (doneF G a 1))
  ⟨1,by omega,by omega,rfl,rfl,rfl,⟨fun _ _=>rfl,by rw[A3];refine congrArg (fun q=>some (AObj.cells (ints q) true 1)) (grid_congr fun x y hx hy=> ?_);unfold doneF;split;exact(hout x y (by omega)).symm;rfl,A6,A7,by omega⟩⟩ ?_
 rintro m e ds h4 ⟨a,ha1,ha2,rfl,rfl,rfl,w4⟩
 by_cases hlt4:a<17
 ·refine wE_seq ?_;refine y4 ?_;refine yM ?_;refine yt ?_;refine y3 ?_;refine yY ?_;refine wE_skip ?_;refine kS_n ?_
  refine wE_seq ?_;refine wE_block ?_;refine y4 ?_;refine yM ?_;refine y3 ?_;refine wE_block ?_
  refine wE_loop (fun m e ds h'=>∃b:Nat,1≤b∧b≤17∧m=17-b∧e=[(1, .int .i64 dp),(2, .pointer (some ⟨h.next,0,none⟩)),(4, .pointer (some ⟨h.next+1,0,none⟩)),(5, .pointer (some ⟨h.next+2,0,none⟩)),(6, .int .i64 a),(7, .int .i64 b)]∧ds=[]∧Vt (h.next+2) hA h' (doneF G a b))
   ⟨1,by omega,by omega,rfl,rfl,rfl,w4⟩ ?_
  rintro m e ds h5 ⟨b,hb1,hb2,rfl,rfl,rfl,w5⟩
  by_cases hlt5:b<17
  ·refine wE_seq ?_;refine y4 ?_;refine yM ?_;refine yt ?_;refine y3 ?_;refine yY ?_;refine wE_skip ?_;refine kS_n ?_
   refine wE_seq ?_;refine wE_block ?_;refine y4 ?_;refine yM ?_;refine y3 ?_;refine wE_block ?_
   refine wE_loop (fun m e ds h'=>∃i:Nat,i≤l.length∧m=l.length-i∧e=[(1, .int .i64 dp),(2, .pointer (some ⟨h.next,0,none⟩)),(4, .pointer (some ⟨h.next+1,0,none⟩)),(5, .pointer (some ⟨h.next+2,0,none⟩)),(6, .int .i64 a),(7, .int .i64 b),(8, .int .i64 i)]∧ds=[]∧Vt (h.next+2) hA h' (updF (doneF G a b) a b (leafM (wsOf l) (leavesL a b (l.take i) 0) 0)))
    ⟨0,by omega,rfl,rfl,rfl,w5.congr fun x y _ _=>by
     unfold updF doneF
     by_cases q:x=a∧y=b
     ·rw[if_pos q,if_neg (by omega)];rfl
     ·rw[if_neg q]⟩ ?_
   rintro m e ds h6 ⟨i,hin,rfl,rfl,rfl,w6⟩
   have g3:=w6.obj
   have g1:=(w6.old h.next (by omega)).trans A1
   have k3:=w6.nx
   by_cases hlt6:i<l.length
   ·obtain⟨x,hxl⟩:∃x,l[i]? =some x:=⟨l[i],List.getElem?_eq_getElem hlt6⟩
    have hstep:=leafM_kind (ws:=wsOf l) (a:=a) (b:=b) hxl 0
    rw[ws_at hxl]at hstep
    rcases hs.inv with⟨_,_,h0,_⟩|⟨b0,o0,cap,hv,sl,hcap⟩
    ·omega
    cases hv
    obtain⟨vs,own,t0,g5,g6⟩:=slice_elem sl hxl
    have kb0:=WF.get_lt hr.wf g5
    have gs:=(w6.old b0 (by omega)).trans ((A0 b0 kb0).trans g5)
    have e3:lget vs (o0+i*5+3)=some (.int .i64 x.worth):=elem_get g6 3 (by omega)
    have c1:=grid_get (f:=updF (doneF G a b) a b (leafM (wsOf l) (leavesL a b (l.take i) 0) 0)) (a:=a) (b:=b) (by omega) (by omega)
    rw[updF_self]at c1
    generalize hP:leafM (wsOf l) (leavesL a b (l.take i) 0) 0=P at*
    refine wE_seq ?_;refine y4 ?_;refine yM ?_;refine yF ?_;refine yL ?_;refine yD ?_;refine yt ?_;refine y3 ?_;refine yY ?_;refine wE_skip ?_;refine kS_n ?_;refine wE_seq ?_;refine wE_block ?_;refine y4 ?_;refine yF ?_;refine yL ?_
    refine yM ?_;refine wO_val (a_iaddrS (by exact rfl) (by exact rfl) (by omega)) ?_
    refine wO_val (a_loadN (by exact rfl) gs g6 (by exact rfl)) ?_
    refine yM ?_;refine yM ?_
    refine yC ?_
    refine FW.pu (plank112 F.p F.f112 (.of w6.wf) x a b) ?_
    cases hpl:plankB x a b with
    |true=>
     rw[hpl,if_pos rfl]at hstep
     refine y3 ?_;refine yY ?_;refine wE_draw ?_;refine qM ?_;refine qM ?_
     refine qM ?_;refine qM ?_;refine wD_quiet rfl rfl rfl (by exact rfl) (by exact rfl) (by exact rfl) (a_iaddrA (by exact rfl) (by exact rfl) (by omega)) ?_
     refine wD_quiet rfl rfl rfl (by exact rfl) (by exact rfl) (by exact rfl) (a_iaddrA (by exact rfl) (by exact rfl) (by omega)) ?_;refine wD_quiet rfl rfl rfl (by exact rfl) (by exact rfl) (by exact rfl) (a_load (by exact rfl) (by assumption) (by assumption)) ?_;refine qF ?_
     refine qL ?_;refine qM ?_;refine wD_quiet rfl rfl rfl (by exact rfl) (by exact rfl) (by exact rfl) (a_iaddrS (by exact rfl) (by exact rfl) (by omega)) ?_
     refine qF ?_;refine wD_quiet rfl rfl rfl (by exact rfl) (by exact rfl) (by exact rfl) (a_load (by exact rfl) (by assumption) (by assumption)) ?_;refine wD_quiet rfl rfl rfl (by exact rfl) (by exact rfl) (by exact rfl) (a_max (by exact rfl) (by exact rfl)) ?_
     refine wD_quiet rfl rfl rfl (by exact rfl) (by exact rfl) (by exact rfl) (a_iaddrA (by exact rfl) (by exact rfl) (by omega)) ?_;refine wD_quiet rfl rfl rfl (by exact rfl) (by exact rfl) (by exact rfl) (a_iaddrA (by exact rfl) (by exact rfl) (by omega)) ?_
     refine wD_store (ws:=ints (grid (updF (updF (doneF G a b) a b P) a b (mx P x.worth)))) rfl rfl rfl (by exact rfl) (by exact rfl) (by exact rfl) (by assumption) (grid_st (by omega) (by omega)) (grid_put (by omega) _) (by omega) (by omega) (by apply ra_dropC rfl;apply ra_dropC rfl;apply ra_dropC rfl;apply ra_dropC rfl;apply ra_dropC rfl;apply ra_dropC rfl;apply ra_dropC rfl;apply ra_dropC rfl;apply ra_dropC rfl;apply ra_dropC rfl;apply ra_dropC rfl;apply ra_dropC rfl;apply ra_dropC rfl;apply ra_dropC rfl;apply ra_dropC rfl;apply ra_dropC rfl;exact ra_nil) ?_
     refine wD_nil ?_;refine y1 ?_;refine kB_n ?_;refine kS_n ?_;refine wE_region ?_;refine yM ?_;refine yinc ?_;refine yM ?_;refine y3 ?_
     refine⟨l.length-(i+1),by omega,i+1,by omega,rfl,rfl,rfl,?_⟩
     have:=w6.wr (base:=h.next) (a:=a) (b:=b) (mx P x.worth) (by omega)
     rw[hstep]
     rw[updF_upd]at this⊢
     exact this
    |false=>
     rw[hpl,if_neg Bool.false_ne_true]at hstep
     refine y3 ?_;refine yX ?_;refine wE_skip ?_;refine kB_n ?_;refine kS_n ?_;refine wE_region ?_;refine yM ?_;refine yinc ?_
     refine yM ?_;refine y3 ?_
     refine⟨l.length-(i+1),by omega,i+1,by omega,rfl,rfl,rfl,?_⟩
     rw[hstep]
     exact w6
   ·obtain rfl:i=l.length:=by omega
    rw[List.take_of_length_le (Nat.le_refl _),hleaf0 a b ha1 hb1,doneF_next]at w6
    refine wE_seq ?_;refine y4 ?_;refine yM ?_;refine yF ?_;refine yL ?_;refine yD ?_;refine yf ?_;refine y3 ?_;refine yX ?_;refine wE_exit ?_;refine kS_e ?_;refine kS_e ?_;refine kB_e ?_;refine kB_n ?_;refine kS_n ?_;refine wE_region ?_;refine yM ?_;refine yinc ?_
    refine yM ?_;refine y3 ?_
    exact⟨17-(b+1),by omega,b+1,by omega,by omega,rfl,rfl,rfl,w6⟩
  ·obtain rfl:b=17:=by omega
   refine wE_seq ?_;refine y4 ?_;refine yM ?_;refine yf ?_;refine y3 ?_;refine yX ?_;refine wE_exit ?_;refine kS_e ?_
   refine kS_e ?_;refine kB_e ?_;refine kB_n ?_;refine kS_n ?_;refine wE_region ?_;refine yM ?_;refine yinc ?_;refine yM ?_;refine y3 ?_
   refine⟨17-(a+1),by omega,a+1,by omega,by omega,rfl,rfl,rfl,w5.congr fun x y hx hy=> ?_⟩
   unfold doneF
   by_cases hq:x<a∨(x=a∧y<17)
   ·rw[if_pos hq,if_pos (by omega)]
   ·rw[if_neg hq]
    split
    ·exact(hout x y (by omega)).symm
    ·rfl
 ·obtain rfl:a=17:=by omega
  have w7:Vt (h.next+2) hA h4 (Shf kerf (wsOf l) l 0):=w4.congr fun x y hx hy=>by unfold doneF;rw[if_pos (by omega),←hG]
  clear w4 hG hout hleaf0
  refine wE_seq ?_;refine y4 ?_;refine yM ?_;refine yf ?_;refine y3 ?_;refine yX ?_;refine wE_exit ?_;refine kS_e ?_
  refine kS_e ?_;refine kB_e ?_;refine kS_n ?_;refine wE_seq ?_;refine y4 ?_;refine yM ?_;refine y3 ?_;refine wE_block ?_
  refine wE_loop (fun m e ds h'=>∃d:Nat,d≤dp∧m=dp-d∧e=[(1, .int .i64 dp),(2, .pointer (some ⟨h.next,0,none⟩)),(4, .pointer (some ⟨h.next+1,0,none⟩)),(5, .pointer (some ⟨h.next+2,0,none⟩)),(9, .int .i64 d)]∧ds=[]∧Vt (h.next+2) hA h' (Shf kerf (wsOf l) l d))
   ⟨0,Nat.zero_le _,rfl,rfl,rfl,w7⟩ ?_
  clear w7 h4
  rintro m e ds h4 ⟨d,hd,rfl,rfl,rfl,w4⟩
  have g1:=(w4.old h.next (by omega)).trans A1
  have g2:=(w4.old (h.next+1) (by omega)).trans A2
  have g3:=w4.obj
  have wl:=w4.log
  have k3:=w4.nx
  by_cases hlt:d<dp
  ·have C:=deeper124 F.p F.f124 (.of w4.wf) (a0:=a0) (n:=l.length) (c:=c) hk hW hws d
   have hl:(ints (grid (Shf kerf (wsOf l) l d))).length=289:=by rw[ints_len,grid_len]
   have hl2:(ints (grid (Shf kerf (wsOf l) l (d+1)))).length=289:=by rw[ints_len,grid_len]
   have eA:ltake 289 (ldrop 0 (ints (grid (Shf kerf (wsOf l) l d))))=ints (grid (Shf kerf (wsOf l) l d)):=by rw[ltake_eq,ldrop_eq,List.drop_zero,List.take_of_length_le (by omega)]
   have eC:ones (ints (grid (Shf kerf (wsOf l) l (d+1))))=true:=ones_ints _
   have hgoal:∀h',h'=h4.wr h.next (h.next+2) (.cells (ints (grid (Shf kerf (wsOf l) l (d+1)))) true 1)→Vt (h.next+2) hA h' (Shf kerf (wsOf l) l (d+1)):=fun h' e=>by
    rw[e]
    exact⟨fun y hy=>(z5 (by omega)).trans (w4.old y hy),Heap.get_wr_new w4.obj,(Heap.log_wr_new (by omega)).trans w4.log,w4.wf.as (AS.wr _ _ _ _),w4.nx⟩
   clear w4 g2
   generalize hX:ints (grid (Shf kerf (wsOf l) l d))=XS at*
   generalize hY:ints (grid (Shf kerf (wsOf l) l (d+1)))=YS at*
   refine wE_seq ?_;refine y4 ?_;refine yM ?_;refine yM ?_;refine yt ?_;refine y3 ?_;refine yY ?_
   refine wE_skip ?_;refine kS_n ?_;refine wE_seq ?_;refine wE_block ?_;refine wE_region ?_;refine yN ?_
   refine wO_val (a_loadN (l:=XS) (by exact rfl) g3 eA (by rw[llen_eq,hl];rfl)) ?_
   skip
   refine yC ?_
   refine FW.pu C ?_
   refine wO_val (a_store (ws:=YS) (by exact rfl) (by exact rfl) g3 (st_all hl2 hl eC) (lputs_all (by show YS.length=_;rw[hl2,hl]))) ?_
   refine wO_nil ?_;refine y1 ?_;refine kB_n ?_;refine kS_n ?_;refine wE_region ?_;refine yM ?_;refine yinc ?_;refine yM ?_;refine y3 ?_
   exact⟨dp-(d+1),by omega,d+1,by omega,rfl,rfl,rfl,hgoal _ rfl⟩
  ·obtain rfl:d=dp:=by omega
   have hl:(ints (grid (Shf kerf (wsOf l) l d))).length=289:=by rw[ints_len,grid_len]
   have hl0:(ints (grid fun _ _=>0)).length=289:=by rw[ints_len,grid_len]
   have eA:ltake 289 (ldrop 0 (ints (grid (Shf kerf (wsOf l) l d))))=ints (grid (Shf kerf (wsOf l) l d)):=by rw[ltake_eq,ldrop_eq,List.drop_zero,List.take_of_length_le (by omega)]
   have eC:ones (ints (grid (Shf kerf (wsOf l) l d)))=true:=ones_ints _
   have hz:PLift (h4.get (h.next+2)=some (.cells (ints (grid (Shf kerf (wsOf l) l d))) true 1)∧h4.get (h.next+1)=some (.cells (ints (grid fun _ _=>0)) true 1)):=⟨⟨g3,g2⟩⟩
   clear g3 g2 w4 A1 A2 A3
   generalize ints (grid (Shf kerf (wsOf l) l d))=XS at*
   generalize ints (grid fun _ _=>0)=ZS at*
   refine wE_seq ?_;refine y4 ?_;refine yM ?_;refine yM ?_;refine yf ?_;refine y3 ?_;refine yX ?_
   refine wE_exit ?_;refine kS_e ?_;refine kS_e ?_;refine kB_e ?_;refine kS_n ?_;refine y4 ?_
   refine wO_val (a_loadN (l:=XS) (by exact rfl) hz.down.1 eA (by rw[llen_eq,hl];rfl)) ?_
   refine wO_val (a_store (ws:=XS) (by exact rfl) (by exact rfl) hz.down.2 (st_all hl hl0 eC) (lputs_all (by show XS.length=_;rw[hl,hl0]))) ?_
   refine y3 ?_;refine wE_ret ?_
   exact endP_ret ((Heap.log_wr_new (by omega)).trans wl) (res_cells (b:=h.next+1) (l:=XS) (by exact rfl) (Heap.get_wr_new hz.down.2) eA (by rw[llen_eq,hl];rfl) res_nil) rfl
end Go.A.Pk
end
section
set_option maxRecDepth 100000
namespace Go.A.Pk
variable {T:Nat→Option AFunc}
structure FnsRQ (T:Nat→Option AFunc):Prop extends FnsRB T,FnsD T where
 f33:T 33=some f33
set_option maxHeartbeats 8000000 in
theorem rbest33(F:FnsRQ T){h:Heap}(hr:Rdy h){a:Option Addr}{n c:Nat}{l:List Kd}(hs:SliceOf h 5 (.slice a n c) n (kcs l))(kerf:Int)(hn:n<1000000)(w ht:Int):Pu T 33 [.agg #[.slice a n c, .int .i64 kerf], .int .i64 w, .int .i64 ht] h (bestR kerf l w ht):=by
 refine .of F.toFnsRB.p F.f33 hr rfl ?_
 have hx:Ext h (h.push (.cells [.slice a n c, .int .i64 kerf] true 1)):=(Ext.refl h).push _
 obtain rfl:n=l.length:=by have:=hs.len;rw[kcs_length]at this;omega
 have C1:=asked79 F.toFnsD (.of (hx.wf hr.wf)) ((hs.ext hx).log []) kerf w ht hn
 change Pu T 79 _ _ (.int .i64 (asked kerf l (OnB w ht)))at C1
 refine y4 ?_;refine yB ?_;refine yM ?_;refine yM ?_;refine y3 ?_;refine y4 ?_
 refine yN ?_;refine yM ?_;refine yM ?_
 refine yC ?_
 refine FW.pu C1 ?_
 by_cases hA:asked kerf l (OnB w ht)=0
 ·rw[bestR_ok hA]
  obtain⟨hc,hb⟩:=asked_zero hA
  obtain⟨q1,q2,q3,q4⟩:=chk_iff.1 hc
  have hb0:=hb
  obtain⟨⟨e1,e2⟩,e3,e4⟩:=hb0
  obtain⟨w,rfl⟩:=Int.eq_ofNat_of_zero_le (show 0≤w by omega)
  obtain⟨ht,rfl⟩:=Int.eq_ofNat_of_zero_le (show 0≤ht by omega)
  have C2:=rbest93 F.toFnsRB (.of (hx.wf hr.wf)) ((hs.ext hx).log []) (W:=1000000) (by omega) ⟨q2.1,by omega⟩ (by omega) (wsOf_bd hc)
  have hv:bestV kerf l w ht=Vf kerf (wsOf l) l w ht:=bestV_eq q2.1 e1 e3
  rw[hv]
  have c1:=grid_get (f:=Vf kerf (wsOf l) l) (a:=w) (b:=ht) (by omega) (by omega)
  have hl:(ints (grid (Vf kerf (wsOf l) l))).length=289:=by rw[ints_len,grid_len]
  have eC:ones (ints (grid (Vf kerf (wsOf l) l)))=true:=ones_ints _
  refine yM ?_;refine y3 ?_;refine wE_seq ?_;refine y4 ?_;refine yM ?_;refine yf ?_;refine y3 ?_;refine yX ?_;refine wE_skip ?_;refine kS_n ?_;refine y4 ?_
  refine yN ?_
  refine yC ?_
  refine FW.pu C2 ?_
  generalize ints (grid (Vf kerf (wsOf l) l))=XS at*
  refine wO_val a_new ?_
  refine wO_val (a_store (ws:=XS) (by exact rfl) (by exact rfl) (by(simp(disch:=first|omega|(simp only[z1,z2];omega)|(simp only[z1,z2];done)|fail)only[z8,z4,z5,z9,z7,z1,z2, *];exact rfl)) (st_all hl rep_len eC) (lputs_all (by show XS.length=_;rw[hl,rep_len]))) ?_
  refine y3 ?_;refine y4 ?_;refine yM ?_;refine yM ?_;refine wO_val (a_iaddrA (by exact rfl) (by exact rfl) (by omega)) ?_;refine wO_val (a_iaddrA (by exact rfl) (by exact rfl) (by omega)) ?_
  refine wO_val (a_load (by exact rfl) (by(simp(disch:=first|omega|(simp only[z1,z2];omega)|(simp only[z1,z2];done)|fail)only[z8,z4,z5,z9,z7,z1,z2, *];exact rfl)) (by assumption)) ?_;refine yM ?_
  refine yM ?_;refine y3 ?_;refine wE_ret ?_
  exact endP_ret ((Heap.log_wr_new (by(simp only[z1,z2];omega))).trans hr.log) rfl rfl
 ·rw[bestR_no hA]
  refine yM ?_;refine y3 ?_;refine wE_seq ?_;refine y4 ?_;refine yM ?_;refine yt ?_;refine y3 ?_;refine yY ?_;refine y4 ?_;refine yM ?_;refine yM ?_;refine yM ?_;refine y3 ?_;refine wE_ret ?_;refine kS_r ?_
  exact endP_ret hr.log rfl rfl
end Go.A.Pk
end
section
set_option maxRecDepth 100000
namespace Go.A.Pk
variable {T:Nat→Option AFunc}
structure FnsRF (T:Nat→Option AFunc):Prop extends FnsRQ T,FnsRS T where
 f21:T 21=some f21
 f23:T 23=some f23
theorem asked_D{kerf:Int}{l:List Kd}{w ht dp:Int}:asked kerf l (OnD w ht dp)=if asked kerf l (OnB w ht)=0 then(if 0≤dp∧dp≤40 then 0 else 1)else asked kerf l (OnB w ht):=by
 unfold asked OnD
 by_cases hc:chk kerf l=0
 ·by_cases hb:OnB w ht<;>by_cases hd:0≤dp∧dp≤40<;>simp[hc,hb,hd]
 ·simp[hc]
set_option maxHeartbeats 8000000 in
theorem rshallow21(F:FnsRF T){h:Heap}(hr:Rdy h){a:Option Addr}{n c:Nat}{l:List Kd}(hs:SliceOf h 5 (.slice a n c) n (kcs l))(kerf:Int)(hn:n<1000000)(w ht dp:Int):Pu T 21 [.agg #[.slice a n c, .int .i64 kerf], .int .i64 w, .int .i64 ht, .int .i64 dp] h (shalR kerf l w ht dp):=by
 have hp:=F.toFnsRQ.toFnsRB.p
 refine .of hp F.f21 hr rfl ?_
 have hx:Ext h (h.push (.cells [.slice a n c, .int .i64 kerf] true 1)):=(Ext.refl h).push _
 obtain rfl:n=l.length:=by have:=hs.len;rw[kcs_length]at this;omega
 have C1:=asked79 F.toFnsRQ.toFnsD (.of (hx.wf hr.wf)) ((hs.ext hx).log []) kerf w ht hn
 change Pu T 79 _ _ (.int .i64 (asked kerf l (OnB w ht)))at C1
 have hD:=asked_D (kerf:=kerf) (l:=l) (w:=w) (ht:=ht) (dp:=dp)
 unfold shalR
 refine y4 ?_;refine yB ?_;refine yM ?_;refine yM ?_;refine y3 ?_;refine y4 ?_
 refine yN ?_;refine yM ?_;refine yM ?_
 refine yC ?_
 refine FW.pu C1 ?_
 clear C1
 by_cases hA:asked kerf l (OnB w ht)=0
 ·rw[if_pos hA]at hD
  obtain⟨hc,hb⟩:=asked_zero hA
  by_cases hd:0≤dp∧dp≤40
  ·rw[if_pos hd]at hD
   rw[hD,hA,if_pos rfl]
   obtain⟨q1,q2,q3,q4⟩:=chk_iff.1 hc
   obtain⟨⟨e1,e2⟩,e3,e4⟩:=hb
   obtain⟨w,rfl⟩:=Int.eq_ofNat_of_zero_le (show 0≤w by omega)
   obtain⟨ht,rfl⟩:=Int.eq_ofNat_of_zero_le (show 0≤ht by omega)
   obtain⟨dp,rfl⟩:=Int.eq_ofNat_of_zero_le hd.1
   have C0:=in80T hp F.toFnsRQ.toFnsD.toFnsB.f80 (.of (hx.wf hr.wf)) hd
   have C2:=rshallow81 F.toFnsRS (.of (hx.wf hr.wf)) ((hs.ext hx).log []) (W:=1000000) (by omega) ⟨q2.1,by omega⟩ (by omega) (wsOf_bd hc) dp (by omega)
   have hv:ShF kerf (wsP l) l ((dp:Int)).toNat ((w:Int),(ht:Int))=Shf kerf (wsOf l) l dp w ht:=rfl
   rw[hv]
   have c1:=grid_get (f:=Shf kerf (wsOf l) l dp) (a:=w) (b:=ht) (by omega) (by omega)
   have hl:(ints (grid (Shf kerf (wsOf l) l dp))).length=289:=by rw[ints_len,grid_len]
   have eC:ones (ints (grid (Shf kerf (wsOf l) l dp)))=true:=ones_ints _
   clear hv hD hA
   refine yM ?_;refine y3 ?_;refine wE_seq ?_;refine y4 ?_;refine yM ?_;refine yt ?_;refine yM ?_
   refine yO ?_;refine yM ?_;refine yO ?_
   refine yC ?_
   refine FW.pu C0 ?_
   clear C0
   refine yO ?_;refine yA ?_;refine yT ?_;refine y3 ?_;refine yX ?_;refine wE_skip ?_;refine kS_n ?_;refine wE_seq ?_;refine y4 ?_
   refine yM ?_;refine yf ?_;refine y3 ?_;refine yX ?_;refine wE_skip ?_;refine kS_n ?_;refine y4 ?_
   refine yN ?_;refine yM ?_
   refine yC ?_
   refine FW.pu C2 ?_
   clear C2
   generalize ints (grid (Shf kerf (wsOf l) l dp))=XS at*
   refine wO_val a_new ?_
   refine wO_val (a_store (ws:=XS) (by exact rfl) (by exact rfl) (by(simp(disch:=first|omega|(simp only[z1,z2];omega)|(simp only[z1,z2];done)|fail)only[z8,z4,z5,z9,z7,z1,z2, *];exact rfl)) (st_all hl rep_len eC) (lputs_all (by show XS.length=_;rw[hl,rep_len]))) ?_
   refine y3 ?_;refine y4 ?_;refine yM ?_;refine yM ?_;refine wO_val (a_iaddrA (by exact rfl) (by exact rfl) (by omega)) ?_;refine wO_val (a_iaddrA (by exact rfl) (by exact rfl) (by omega)) ?_
   refine wO_val (a_load (by exact rfl) (by(simp(disch:=first|omega|(simp only[z1,z2];omega)|(simp only[z1,z2];done)|fail)only[z8,z4,z5,z9,z7,z1,z2, *];exact rfl)) (by assumption)) ?_;refine yM ?_
   refine yM ?_;refine y3 ?_;refine wE_ret ?_
   exact endP_ret ((Heap.log_wr_new (by(simp only[z1,z2];omega))).trans hr.log) rfl rfl
  ·rw[if_neg hd]at hD
   rw[hD,if_neg (by omega)]
   have C0:=in80F hp F.toFnsRQ.toFnsD.toFnsB.f80 (.of (hx.wf hr.wf)) hd
   rw[hA]
   clear hD hA
   refine yM ?_;refine y3 ?_;refine wE_seq ?_;refine y4 ?_;refine yM ?_;refine yt ?_;refine yM ?_
   refine yO ?_;refine yM ?_;refine yO ?_
   refine yC ?_
   refine FW.pu C0 ?_
   refine yO ?_;refine yA ?_;refine yT ?_;refine y3 ?_;refine yY ?_;refine wE_region ?_;refine yM ?_;refine y3 ?_;refine wE_seq ?_;refine y4 ?_;refine yM ?_;refine yt ?_;refine y3 ?_;refine yY ?_;refine y4 ?_;refine yM ?_;refine yM ?_;refine yM ?_;refine y3 ?_;refine wE_ret ?_;refine kS_r ?_
   exact endP_ret hr.log rfl rfl
 ·rw[if_neg hA]at hD
  rw[hD,if_neg hA]
  clear hD
  refine yM ?_;refine y3 ?_;refine wE_seq ?_;refine y4 ?_;refine yM ?_;refine yf ?_;refine yM ?_
  refine yP ?_;refine yP ?_;refine yP ?_;refine yU ?_;refine y3 ?_;refine yX ?_;refine wE_skip ?_
  refine kS_n ?_;refine wE_seq ?_;refine y4 ?_;refine yM ?_;refine yt ?_;refine y3 ?_;refine yY ?_;refine y4 ?_;refine yM ?_;refine yM ?_;refine yM ?_;refine y3 ?_;refine wE_ret ?_;refine kS_r ?_
  exact endP_ret hr.log rfl rfl
set_option maxHeartbeats 8000000 in
theorem renough23(F:FnsRF T){h:Heap}(hr:Rdy h){a:Option Addr}{n c:Nat}{l:List Kd}(hs:SliceOf h 5 (.slice a n c) n (kcs l))(kerf:Int)(hn:n<1000000)(w ht:Int):Pu T 23 [.agg #[.slice a n c, .int .i64 kerf], .int .i64 w, .int .i64 ht] h (enR kerf l w ht):=by
 have hp:=F.toFnsRQ.toFnsRB.p
 refine .of hp F.f23 hr rfl ?_
 have hx:Ext h (h.push (.cells [.slice a n c, .int .i64 kerf] true 1)):=(Ext.refl h).push _
 obtain rfl:n=l.length:=by have:=hs.len;rw[kcs_length]at this;omega
 have C1:=asked79 F.toFnsRQ.toFnsD (.of (hx.wf hr.wf)) ((hs.ext hx).log []) kerf w ht hn
 change Pu T 79 _ _ (.int .i64 (asked kerf l (OnB w ht)))at C1
 unfold enR
 refine y4 ?_;refine yB ?_;refine yM ?_;refine yM ?_;refine y3 ?_;refine y4 ?_
 refine yN ?_;refine yM ?_;refine yM ?_
 refine yC ?_
 refine FW.pu C1 ?_
 clear C1
 by_cases hA:asked kerf l (OnB w ht)=0
 ·have C2:=rbest33 F.toFnsRQ (.of (hx.wf hr.wf)) ((hs.ext hx).log []) kerf hn w ht
  have C3:∀dp,Pu T 21 _ _ _:=fun dp=>rshallow21 F (.of (hx.wf hr.wf)) ((hs.ext hx).log []) kerf hn w ht dp
  unfold bestR at C2
  rw[if_pos hA]at C2⊢
  obtain⟨hc,hb⟩:=asked_zero hA
  have hbb:=hb
  obtain⟨⟨e1,e2⟩,e3,e4⟩:=hbb
  obtain⟨w,rfl⟩:=Int.eq_ofNat_of_zero_le (show 0≤w by omega)
  obtain⟨ht,rfl⟩:=Int.eq_ofNat_of_zero_le (show 0≤ht by omega)
  obtain⟨d,d1,d2,d3,d4⟩:=enough_ex hc hb
  have hd40:d<40:=by omega
  rw[d4]
  have hD:∀j:Nat,j≤40→asked kerf l (OnD w ht j)=0:=fun j hj=>by rw[asked_D,if_pos hA,if_pos (by omega)]
  have C3':∀j:Nat,j≤40→shalR kerf l w ht j= .tuple #[.int .i64 (ShF kerf (wsP l) l j ((w:Int),(ht:Int))), .int .i64 0]:=fun j hj=>by
   unfold shalR
   rw[hD j hj,if_pos rfl]
   rfl
  rw[hA]at C2⊢
  clear hA hD d4
  generalize hbv:bestV kerf l w ht=bv at*
  refine yM ?_;refine y3 ?_;refine wE_seq ?_;refine y4 ?_;refine yM ?_;refine yf ?_;refine y3 ?_;refine yX ?_;refine wE_skip ?_;refine kS_n ?_;refine y4 ?_
  refine yN ?_;refine yM ?_;refine yM ?_
  refine yC ?_
  refine FW.pu C2 ?_
  clear C2
  refine yM ?_;refine yE ?_;refine yE ?_;refine yM ?_;refine yM ?_;refine y3 ?_;refine wE_seq ?_
  refine y4 ?_;refine yM ?_;refine y3 ?_;refine wE_block ?_
  refine wE_loop (fun m e ds h'=>∃i:Nat,i≤d∧m=40-i∧e=[(1, .int .i64 w),(2, .int .i64 ht),(3, .pointer (some ⟨h.next,0,none⟩)),(9, .int .i64 bv),(11, .int .i64 i)]∧ds=[]∧h'=h.push (.cells [.slice a l.length c, .int .i64 kerf] true 1))
   ⟨0,Nat.zero_le _,rfl,rfl,rfl,rfl⟩ ?_
  rintro m e ds h' ⟨i,hid,rfl,rfl,rfl,rfl⟩
  have C4:=C3 (i:Int)
  rw[C3' i (by omega)]at C4
  by_cases hi:i=d
  ·subst hi
   rw[d2]at C4
   clear C3 C3' d2 d3
   refine wE_seq ?_;refine y4 ?_;refine yM ?_;refine yt ?_;refine y3 ?_;refine yY ?_;refine wE_skip ?_;refine kS_n ?_
   refine wE_seq ?_;refine wE_block ?_;refine y4 ?_;refine yN ?_
   refine yM ?_;refine yM ?_;refine yM ?_
   refine yC ?_
   refine FW.pu C4 ?_
   refine yM ?_;refine yE ?_;refine yE ?_;refine yM ?_;refine yM ?_;refine y3 ?_;refine y4 ?_;refine yM ?_;refine yM ?_;refine yt ?_;refine y3 ?_;refine yY ?_;refine y4 ?_
   refine yM ?_;refine yM ?_;refine yM ?_;refine y3 ?_;refine wE_ret ?_;refine kB_r ?_;refine kS_r ?_;refine kS_r ?_;refine kB_r ?_;refine kS_r ?_
   exact endP_ret hr.log rfl rfl
  ·have hne:=d3 i (by omega)
   generalize ShF kerf (wsP l) l i ((w:Int),(ht:Int))=sv at*
   clear C3 C3' d2 d3
   refine wE_seq ?_;refine y4 ?_;refine yM ?_;refine yt ?_;refine y3 ?_;refine yY ?_;refine wE_skip ?_;refine kS_n ?_
   refine wE_seq ?_;refine wE_block ?_;refine y4 ?_;refine yN ?_
   refine yM ?_;refine yM ?_;refine yM ?_
   refine yC ?_
   refine FW.pu C4 ?_
   refine yM ?_;refine yE ?_;refine yE ?_;refine yM ?_;refine yM ?_;refine y3 ?_;refine y4 ?_;refine yM ?_;refine yM ?_;refine yf ?_;refine y3 ?_;refine yX ?_;refine wE_skip ?_;refine kB_n ?_
   refine kS_n ?_;refine wE_region ?_;refine yM ?_;refine yinc ?_;refine yM ?_;refine y3 ?_
   exact⟨40-(i+1),by omega,i+1,by omega,rfl,rfl,rfl,rfl⟩
 ·rw[if_neg hA]
  refine yM ?_;refine y3 ?_;refine wE_seq ?_;refine y4 ?_;refine yM ?_;refine yt ?_;refine y3 ?_;refine yY ?_;refine y4 ?_;refine yM ?_;refine yM ?_;refine yM ?_;refine y3 ?_;refine wE_ret ?_;refine kS_r ?_
  exact endP_ret hr.log rfl rfl
end Go.A.Pk
end
section
set_option maxRecDepth 100000
namespace Go.A.Pk
variable {T:Nat→Option AFunc}
def ncI:List (Nat×Int)→List Value
 |[]=>[]
 |x::l=>[.int .u8 x.1, .int .i64 x.2]++ncI l
theorem ncI_len:∀l,(ncI l).length=l.length*2
 |[]=>rfl
 |x::l=>by simp[ncI,ncI_len l];omega
theorem ncI_drop:∀(l:List (Nat×Int)) (i:Nat),(ncI l).drop (i*2)=ncI (l.drop i)
 |[],i=>by simp[ncI]
 |x::l,0=>by simp
 |x::l,i+1=>by
  rw[List.drop_succ_cons,←ncI_drop l i,show(i+1)*2=2+i*2 by omega,←List.drop_drop]
  rfl
theorem ncs_ncI:∀l:List (Nat×Nat),ncs l=ncI (l.map fun x=>(x.1,(x.2:Int)))
 |[]=>rfl
 |x::l=>by rw[ncs,List.map_cons,ncI,ncs_ncI l];rfl
structure Sm where
 ok:Bool
 worth:Int
 cells:Int
 depth:Int
 used:List Int
def smC(s:Sm):List Value:= .bool s.ok:: .int .i64 s.worth:: .int .i64 s.cells:: .int .i64 s.depth::ints s.used
def z12:List Int:=[0,0,0,0,0,0,0,0,0,0,0,0]
def sm0:Sm:=⟨false,0,0,0,z12⟩
def isP(k:Kd)(kind:Nat)(p:Int×Int):Prop:=(kind=1∧k.w=p.1∧k.h=p.2)∨(kind=2∧k.turn=true∧k.h=p.1∧k.w=p.2)
instance(k:Kd)(kind:Nat)(p:Int×Int):Decidable (isP k kind p):=by unfold isP;infer_instance
def oneI(x:Nat×Int)(p:Int×Int):Int×Int:=if x.1=3 then(x.2,p.2)else(p.1,x.2)
def twoI(kerf:Int)(x:Nat×Int)(p:Int×Int):Int×Int:=if x.1=3 then(p.1-x.2-kerf,p.2)else(p.1,p.2-x.2-kerf)
def sizeI(x:Nat×Int)(p:Int×Int):Int:=if x.1=3 then p.1 else p.2
def plankS(l:List Kd)(x:Nat×Int)(p:Int×Int):Sm×Nat:=
 if 0≤x.2∧x.2≤(l.length:Int)-1 then(match l[x.2.toNat]? with
  |some k=>(⟨decide (isP k x.1 p),k.worth,p.1*p.2,0,z12.set x.2.toNat 1⟩,1)
  |none=>(sm0,0))else(sm0,0)
def nodeS(l:List Kd)(x:Nat×Int)(p:Int×Int):Sm×Nat:=
 if x.1=0 then({sm0 with ok:=decide (x.2=0)},1)else if x.1=1∨x.1=2 then plankS l x p else(sm0,0)
def joinS(kerf size at1:Int)(one two:Sm×Nat):Sm×Nat:=
 if one.1.ok=true then
  if size-at1-kerf<1 then({one.1 with depth:=one.1.depth+1},one.2+1)
  else if two.1.ok=true then(⟨true,one.1.worth+two.1.worth,one.1.cells+two.1.cells,1+mx one.1.depth two.1.depth,List.zipWith (· + ·) one.1.used two.1.used⟩,1+one.2+two.2)
  else(sm0,0)
 else(sm0,0)
def treeS(kerf:Int)(l:List Kd):Nat→Int×Int→List (Nat×Int)→Sm×Nat
 |_,_,[]=>(sm0,0)
 |0,p,x::_=>if x.1=3∨x.1=4 then(sm0,0)else nodeS l x p
 |f+1,p,x::ns=>if x.1=3∨x.1=4 then
   (if 1≤x.2∧x.2≤sizeI x p-1 then joinS kerf (sizeI x p) x.2 (treeS kerf l f (oneI x p) ns) (treeS kerf l f (twoI kerf x p) (ns.drop (treeS kerf l f (oneI x p) ns).2))else(sm0,0))
  else nodeS l x p
structure TB (s:Sm) (m:Nat):Prop where
 worth:0≤s.worth∧s.worth≤1000000*m
 cells:0≤s.cells∧s.cells≤256*m
 depth:0≤s.depth∧s.depth≤m
 len:s.used.length=12
 used:∀u∈s.used,0≤u∧u≤m
theorem TB.zero(b:Bool)(m:Nat):TB {sm0 with ok:=b} m:=⟨by show(0:Int)≤0∧(0:Int)≤_;omega,by show(0:Int)≤0∧(0:Int)≤_;omega,by show(0:Int)≤0∧(0:Int)≤_;omega,rfl,fun u hu=>by
 have:u=0:=by simpa[sm0,z12]using hu
 omega⟩
theorem node_bd{kerf:Int}{l:List Kd}(hc:chk kerf l=0)(x:Nat×Int){p:Int×Int}(h1:1≤p.1∧p.1≤16)(h2:1≤p.2∧p.2≤16):TB (nodeS l x p).1 (nodeS l x p).2∧(nodeS l x p).2≤1:=by
 unfold nodeS
 split
 ·exact⟨TB.zero _ _,Nat.le_refl _⟩
 ·split
  ·unfold plankS
   split
   ·split
    ·rename_i k hk
     have:=(chk_iff.1 hc).2.2.1 k (List.mem_of_getElem? hk)
     refine⟨⟨by dsimp only;have:=this.2.2.2;omega,?_,by show(0:Int)≤0∧(0:Int)≤_;omega,by simp[z12],fun u hu=> ?_⟩,Nat.le_refl _⟩
     ·have q1:=Int.mul_nonneg (show 0≤p.1 by omega) (show 0≤p.2 by omega)
      have q2:=Int.mul_le_mul h1.2 h2.2 (by omega) (by omega)
      dsimp only
      omega
     ·rcases List.mem_or_eq_of_mem_set hu with hu|rfl
      ·have:u=0:=by simpa[z12]using hu
       omega
      ·omega
    ·exact⟨TB.zero false _,Nat.zero_le _⟩
   ·exact⟨TB.zero false _,Nat.zero_le _⟩
  ·exact⟨TB.zero false _,Nat.zero_le _⟩
theorem zip_mem{a b:List Int}{u:Int}(h:u∈List.zipWith (· + ·) a b):∃x∈a,∃y∈b,u=x+y:=by
 induction a generalizing b with
 |nil=>simp at h
 |cons x a ih=>
  cases b with
  |nil=>simp at h
  |cons y b=>
   rw[List.zipWith_cons_cons,List.mem_cons]at h
   rcases h with rfl|h
   ·exact⟨x,List.mem_cons_self ..,y,List.mem_cons_self ..,rfl⟩
   ·obtain⟨x',hx,y',hy,e⟩:=ih h
    exact⟨x',List.mem_cons_of_mem _ hx,y',List.mem_cons_of_mem _ hy,e⟩
theorem tree_bd{kerf:Int}{l:List Kd}(hc:chk kerf l=0):∀(f:Nat) (p:Int×Int) (ns:List (Nat×Int)),1≤p.1∧p.1≤16→1≤p.2∧p.2≤16→TB (treeS kerf l f p ns).1 (treeS kerf l f p ns).2∧(treeS kerf l f p ns).2≤ns.length
 |f,p,[],_,_=>by cases f<;>exact⟨TB.zero false _,Nat.le_refl _⟩
 |0,p,x::ns,h1,h2=>by
  rw[treeS]
  split
  ·exact⟨TB.zero false _,Nat.zero_le _⟩
  ·have:=node_bd hc x h1 h2
   exact⟨this.1,by simp;omega⟩
 |f+1,p,x::ns,h1,h2=>by
  rw[treeS]
  split
  ·split
   ·rename_i hk hat
    have hk0:=(chk_iff.1 hc).2.1
    have g1:1≤(oneI x p).1∧(oneI x p).1≤16:=by unfold oneI;unfold sizeI at hat;split<;>(split at hat)<;>dsimp only<;>omega
    have g2:1≤(oneI x p).2∧(oneI x p).2≤16:=by unfold oneI;unfold sizeI at hat;split<;>(split at hat)<;>dsimp only<;>omega
    obtain⟨t1,n1⟩:=tree_bd hc f (oneI x p) ns g1 g2
    generalize treeS kerf l f (oneI x p) ns=one at*
    unfold joinS
    split
    ·split
     ·refine⟨⟨?_,?_,?_,t1.len,fun u hu=> ?_⟩,by simp;omega⟩
      ·have:=t1.worth;dsimp only;omega
      ·have:=t1.cells;dsimp only;omega
      ·have:=t1.depth;dsimp only;omega
      ·have:=t1.used u hu;omega
     ·rename_i hr
      have g3:1≤(twoI kerf x p).1∧(twoI kerf x p).1≤16:=by unfold twoI;unfold sizeI at hat hr;split<;>(split at hat)<;>(split at hr)<;>dsimp only<;>omega
      have g4:1≤(twoI kerf x p).2∧(twoI kerf x p).2≤16:=by unfold twoI;unfold sizeI at hat hr;split<;>(split at hat)<;>(split at hr)<;>dsimp only<;>omega
      obtain⟨t2,n2⟩:=tree_bd hc f (twoI kerf x p) (ns.drop one.2) g3 g4
      generalize treeS kerf l f (twoI kerf x p) (ns.drop one.2)=two at*
      rw[List.length_drop]at n2
      split
      ·refine⟨⟨?_,?_,?_,?_,fun u hu=> ?_⟩,by simp;omega⟩
       ·have:=t1.worth;have:=t2.worth;dsimp only;omega
       ·have:=t1.cells;have:=t2.cells;dsimp only;omega
       ·have:=t1.depth;have:=t2.depth;dsimp only;unfold mx;split<;>omega
       ·simp[t1.len,t2.len]
       ·obtain⟨a,ha,b,hb,rfl⟩:=zip_mem hu
        have:=t1.used a ha;have:=t2.used b hb;omega
      ·exact⟨TB.zero false _,Nat.zero_le _⟩
    ·exact⟨TB.zero false _,Nat.zero_le _⟩
   ·exact⟨TB.zero false _,Nat.zero_le _⟩
  ·have:=node_bd hc x h1 h2
   exact⟨this.1,by simp;omega⟩
theorem smC_len{s:Sm}(h:s.used.length=12):(smC s).length=16:=by simp[smC,ints,h]
theorem ones_smC(s:Sm):ones (smC s)=true:=by
 have:∀xs:List Int,ones (ints xs)=true:=fun xs=>by
  induction xs with
  |nil=>rfl
  |cons x xs ih=>exact ih
 exact this s.used
theorem smC_take{s:Sm}(h:s.used.length=12):ltake 16 (ldrop 0 (smC s))=smC s∧Nat.beq (llen (smC s)) 16=true:=
 ⟨by rw[ltake_eq,ldrop_eq,List.drop_zero,List.take_of_length_le (by rw[smC_len h];omega)],by rw[llen_eq,smC_len h];rfl⟩
theorem noRef_smC(s:Sm)(m:Int):noRef (.tuple #[.agg (smC s).toArray, .int .i64 m])=true:=by
 have:∀xs:List Int,scalL (ints xs)=true:=fun xs=>by
  induction xs with
  |nil=>rfl
  |cons x xs ih=>exact ih
 have h2:scalL (smC s)=true:=this s.used
 simp[noRef,flatL,flat,h2,scalL,scal,scal1]
section
variable {base:Nat} {h:Heap} {e:Env}
theorem a_storeAll{x y:Operand}{b n sz:Nat}{vs cs:List Value}(hx:ev h e x=some (.pointer (some ⟨b,0,none⟩)))(hy:ev h e y=some (.agg cs.toArray))(hb:h.get b=some (.cells vs true sz))(hn:cs.length=n)(hv:vs.length=n)(h1:ones cs=true):
 aop h base e (.store n x y)=some (.val (.tuple #[]) (h.wr base b (.cells cs true sz))):=by
 have hc:cellsOf (.agg cs.toArray)=cs:=by show cs.toArray.toList=cs;simp
 refine a_store hx hy hb ?_ ?_
 ·rw[hc,llen_eq,llen_eq,hn,hv,h1,nbeq_self,Nat.zero_add,nble_of (Nat.le_refl n)];rfl
 ·rw[hc,lputs_mid (by omega)]
  simp only[List.take_zero,List.nil_append,Nat.zero_add]
  rw[List.drop_of_length_le (by omega),List.append_nil]
theorem a_store1{x y:Operand}{b o sz:Nat}{vs:List Value}{v:Value}(hx:ev h e x=some (.pointer (some ⟨b,o,none⟩)))(hy:ev h e y=some v)(hb:h.get b=some (.cells vs true sz))(hc:cellsOf v=[v])(h1:ones [v]=true)(ho:o<vs.length):
 aop h base e (.store 1 x y)=some (.val (.tuple #[]) (h.wr base b (.cells (vs.set o v) true sz))):=by
 refine a_store hx hy hb ?_ ?_
 ·rw[hc,h1,llen_eq,llen_eq,nble_of (by omega)];rfl
 ·rw[hc]
  show lset vs o v=vs.set o v
  clear hx hy hb
  induction vs generalizing o with
  |nil=>simp at ho
  |cons w vs ih=>
   cases o with
   |zero=>rfl
   |succ o=>simp only[lset,List.set_cons_succ];rw[ih (by simpa using ho)]
end
def recsIn(m:Nat):List Rec→Bool
 |[]=>true
 |r::rs=>Nat.testBit m r.i&&recsIn m rs
theorem recs_all{base:Nat}{h:Heap}{mask:Nat}{lg:List Nat}:∀{rs:List Rec},recsIn mask rs=true→recsAfter h base lg mask rs=some []
 |[],_=>rfl
 |r::rs,hm=>by
  simp only[recsIn,Bool.and_eq_true]at hm
  exact ra_drop hm.1 (recs_all hm.2)
theorem wD_sliceLo{base:Nat}{h:Heap}{e:Env}{ops:List AOper}{bf:List Nat}{rs rsM:List Rec}{Q:Env→Heap→Prop}{i mask m2 n c k:Nat}{is:List Nat}{dst:Option Nat}{g:Option (Nat×Bool)}{er:Env}{x y:Operand}{a:Option Addr}{cs:List Value}{kd:IntKind}
 (s:SliceOf h 2 (.slice a n c) n cs)(u:U2 h (.slice a n c))(hk:k≤n)(h0:0<n)(hn:n<1000000)(hcap:c<1000000∨c=UNK)(ho:lget ops i=some ⟨dst, .slice (.sl 2) x (some y) none none,g⟩)(hm:lget bf i=some mask)(he:keepE e (slotsA ⟨dst, .slice (.sl 2) x (some y) none none,g⟩)=er)(hwt:wantedA er g=some true)
 (hx:∀H:Heap,ev H er x=some (.slice a n c))(hy:∀H:Heap,ev H er y=some (.int kd (k:Nat)))(hall:allIn bf i is=true)(hrs:recsAfter (h.push (.cells [] false 2)) base [] mask rs=some rsM)(hs1:recsIn m2 rs=true)(hs2:recsIn m2 rsM=true)(hid:Nat.testBit m2 i=true)
 (hK:∀v h' rs',Ext h h'→SliceOf h' 2 v (n-k) (cs.drop (k*2))→U2 h' v→(∃a' c',v= .slice a' (n-k) c'∧(c'<1000000∨c'=UNK))→recsIn m2 rs'=true→WD T base ops bf Q is rs' (dstE e dst v) h'):WD T base ops bf Q (i::is) rs e h:=by
 rcases s.inv with⟨_,_,hz,_⟩|⟨b,o,cap,hv,s1,hc⟩
 ·omega
 cases hv
 obtain⟨vs,own,t,g1,g2⟩:=s1.obj
 have hdrop:ltake ((n-k)*2) (ldrop (o+k*2) vs)=cs.drop (k*2):=by
  rw[←g2]
  simp only[ltake_eq,ldrop_eq,List.drop_take,List.drop_drop]
  rw[Nat.sub_mul]
 have hlen:(cs.drop (k*2)).length=(n-k)*2:=by rw[List.length_drop,s1.len,Nat.sub_mul]
 have hr2:∀v:Value,recsIn m2 (⟨i,⟨dst, .slice (.sl 2) x (some y) none none,g⟩,er,v, .quiet⟩::rs:List Rec)=true:=fun v=>by
  simp only[recsIn,Bool.and_eq_true];exact⟨hid,hs1⟩
 by_cases hU:c=UNK
 ·subst hU
  obtain⟨vs',own',g3⟩:=u b o n rfl
  rw[g1]at g3
  cases g3
  by_cases hlt:k<n
  ·refine wD_quiet ho hm he hwt rfl rfl (a_slice_lo (hx h) (hy h) g1 hlt) (hK _ _ _ (.refl h) (.mem ⟨s1.lt,⟨vs,own,2,g1,hdrop⟩,hlen⟩ (by unfold UNK;omega)) (fun b' o' n' e'=>by cases e';exact⟨vs,own,g1⟩) ⟨_,_,rfl, .inr rfl⟩ (hr2 _))
  ·obtain rfl:k=n:=by omega
   have hy':=hy {h with log:=[]}
   refine wD_made ho hm he hwt rfl rfl (a_slice_end (hx h) (hy h) g1 (by omega)) ?_ hall (a_slice_end (h:={h with log:=[]}) (hx _) hy' g1 (by omega)) (eq_push _) (lg_push _) hrs ?_
   ·show Nat.beq (h.next+1) h.next=false
    exact nbeq_not (by omega)
   ·refine hK _ _ _ ((Ext.refl h).push _) ?_ (fun b' o' n' e'=>by cases e';exact⟨[],false,z3 _ _⟩) ⟨some ⟨h.next,0,none⟩,UNK,by rw[Nat.sub_self], .inr rfl⟩ hs2
    rw[Nat.sub_self,List.drop_of_length_le (by rw[s1.len];omega)]
    exact .mem ⟨Nat.lt_succ_self _,⟨[],false,2,z3 _ _,rfl⟩,rfl⟩ (Nat.zero_le _)
 ·have hcl:c<1000000:=hcap.elim id fun q=>absurd q hU
  by_cases hck:c=k
  ·have hbk:Nat.beq c k=true:=by rw[hck];exact nbeq_self k
   have hop:∀H:Heap,aop H base er (.slice (.sl 2) x (some y) none none)=some (.val (.slice (some ⟨b,o,none⟩) (n-k) (c-k)) H):=fun H=>by
    simp only[aop,hx H,sliceOp,bnd_some (hy H),bnd_none,nbeq_not hU,nble_of hk,nble_of hc,hbk,Bool.and_self,cond_true,cond_false,asPair]
   obtain rfl:k=n:=by omega
   refine wD_quiet ho hm he hwt rfl rfl (hop h) (hK _ _ _ (.refl h) ?_ (fun b' o' n' e'=>by injection e' with e1 e2 e3;unfold UNK at e3;omega) ⟨_,_,rfl, .inl (by omega)⟩ (hr2 _))
   rw[Nat.sub_self,List.drop_of_length_le (by rw[s1.len];omega)]
   exact .mem ⟨s1.lt,⟨vs,own,t,g1,by rw[Nat.zero_mul];cases ldrop o vs<;>rfl⟩,rfl⟩ (Nat.zero_le _)
  ·refine wD_quiet ho hm he hwt rfl rfl (a_sliceC (hi:=none) (hx h) (bnd_some (hy h)) bnd_none hk hc (by omega) hcl) (hK _ _ _ (.refl h) (.mem ⟨s1.lt,⟨vs,own,t,g1,hdrop⟩,hlen⟩ (by omega)) (fun b' o' n' e'=>by injection e' with e1 e2 e3;unfold UNK at e3;omega) ⟨_,_,rfl, .inl (by omega)⟩ (hr2 _))
theorem wD_storeAll{base:Nat}{h:Heap}{e:Env}{ops:List AOper}{bf:List Nat}{rs rs':List Rec}{Q:Env→Heap→Prop}{i mask:Nat}{is:List Nat}{dst:Option Nat}{g:Option (Nat×Bool)}{er:Env}{x y:Operand}{b n sz:Nat}{vs cs:List Value}
 (ho:lget ops i=some ⟨dst, .store n x y,g⟩)(hm:lget bf i=some mask)(he:keepE e (slotsA ⟨dst, .store n x y,g⟩)=er)(hwt:wantedA er g=some true)(hx:ev {h with log:=[]} er x=some (.pointer (some ⟨b,0,none⟩)))(hy:ev {h with log:=[]} er y=some (.agg cs.toArray))(hb:h.get b=some (.cells vs true sz))
 (hn:cs.length=n)(hv:vs.length=n)(h1:ones cs=true)(hlt:b<h.next)(hbb:base≤b)(hrs:recsAfter (h.wr base b (.cells cs true sz)) base [b] mask rs=some rs')
 (H:WD T base ops bf Q is rs' (dstE e dst (.tuple #[])) (h.wr base b (.cells cs true sz))):WD T base ops bf Q (i::is) rs e h:=
 wD_actH ho hm he hwt rfl (a_storeAll (h:={h with log:=[]}) hx hy hb hn hv h1) (eq_wr hlt hbb _) (lg_wr hlt _) hrs H
end Go.A.Pk
end
section
set_option maxRecDepth 100000
namespace Go.A.Pk
variable {T:Nat→Option AFunc}
structure FnsTr (T:Nat→Option AFunc):Prop where
 p:primAS T
 f80:T 80=some f80
 f137:T 137=some f137
def blkB:ACode→ACode
 | .block _ b=>b
 |c=>c
def cnA:ACode→ACode
 | .cond _ a _=>a
 |c=>c
def cnB:ACode→ACode
 | .cond _ _ b=>b
 |c=>c
def tB0:ACode:=blkB (cR (cL (cR (cR (cR (codeOf f137))))))
def tA12:ACode:=cnA (cR (cnB (cR tB0)))
def tA34:ACode:=cnA (cR (cnB (cR (cnB (cR tB0)))))
theorem wE_cutT{base:Nat}{rnd:Option Nat}{Q:XQ}{e:Env}{E0:Env}{ds:Dfs}{h H0:Heap}{a b:ACode}(H1:WE T base rnd a (fun x e' ds' h'=>x= .normal∧e'=E0∧ds'=[]∧h'=H0) e ds h)(H2:WE T base rnd b Q E0 [] H0):WE T base rnd (.seq a b) Q e ds h:=by
 refine wE_seq (H1.mono ?_)
 rintro x e' ds' h' ⟨rfl,rfl,rfl,rfl⟩
 exact kS_n H2
theorem WE.genT{base:Nat}{rnd:Option Nat}{c:ACode}{Q:XQ}{e:Env}{ds:Dfs}{h:Heap}(hK:∀hA,hA=h→WE T base rnd c Q e ds hA):WE T base rnd c Q e ds h:=hK h rfl
theorem set_smC(b:Bool)(w c d:Int)(us:List Int)(i:Nat)(v:Int):(smC ⟨b,w,c,d,us⟩).set (0+4+i*1) (.int .i64 v)=smC ⟨b,w,c,d,us.set i v⟩:=by
 rw[show 0+4+i*1=i+4 by omega]
 simp[smC,ints,List.map_set]
def treeV(s:Sm×Nat):Value:= .tuple #[.agg (smC s.1).toArray, .int .i64 (s.2:Nat)]
def treeRs:List (Nat×Option (Option Nat)):=[(8,some (some 16)),(9,none)]
theorem tree_end{h:Heap}{e:Env}{p8:Nat}{s:Sm}{m:Nat}(hl:s.used.length=12)(hlog:h.log=[])(e8:geT e 8=some (.pointer (some ⟨p8,0,none⟩)))(e9:geT e 9=some (.int .i64 (m:Nat)))(g8:h.get p8=some (.cells (smC s) true 1)):endP treeRs (treeV (s,m)) .ret e [] h:=
 endP_ret hlog (res_cells e8 g8 (smC_take hl).1 (smC_take hl).2 (res_slot e9 res_nil)) rfl
set_option maxHeartbeats 16000000 in
theorem tree_plank(F:FnsTr T){base p4 p8 p10:Nat}{H:Heap}(hw:WF H)(hlog:H.log=[])(hb8:base≤p8)(hbase:base≤H.next){a:Option Addr}{c:Nat}{l:List Kd}{kerf:Int}{x:Nat×Int}{p:Int×Int}(hks:SliceOf H 5 (.slice a l.length c) l.length (kcs l))(hc:chk kerf l=0)
 (g4:H.get p4=some (.cells [.slice a l.length c, .int .i64 kerf] true 1))(g8:H.get p8=some (.cells (smC sm0) true 1))(g10:H.get p10=some (.cells [.int .u8 x.1, .int .i64 x.2] true 1))(hx:x.1=1∨x.1=2)(h1:1≤p.1∧p.1≤16)(h2:1≤p.2∧p.2≤16){v3 v32:Value}{Q:XQ}
 (hQ:∀e H',endP treeRs (treeV (plankS l x p)) .ret e [] H'→Q .ret e [] H'):
 WE T base none tA12 Q [(1, .int .i64 p.1),(2, .int .i64 p.2),(3,v3),(4, .pointer (some ⟨p4,0,none⟩)),(8, .pointer (some ⟨p8,0,none⟩)),(10, .pointer (some ⟨p10,0,none⟩)),(32,v32),(39, .bool true)] [] H:=by
 have k4:=WF.get_lt hw g4
 have k8:=WF.get_lt hw g8
 have k10:=WF.get_lt hw g10
 have hl12:=(chk_iff.1 hc).1
 obtain⟨xk,xa⟩:=x
 obtain⟨p1,p2⟩:=p
 dsimp only at g10 hx h1 h2⊢
 unfold tA12 tB0
 simp only[cR,cL,cnA,cnB,blkB,codeOf,f137]
 refine wE_seq ?_;refine y4 ?_;refine yF ?_;refine yL ?_;refine yF ?_;refine yL ?_;refine yD ?_
 refine ysub ?_
 refine yC ?_
 by_cases hin:0≤xa∧xa≤(l.length:Int)-1
 ·refine FW.pu (in80T F.p F.f80 (.of hw) hin) ?_
  obtain⟨i,rfl⟩:=Int.eq_ofNat_of_zero_le hin.1
  have hil:i<l.length:=by omega
  obtain⟨k,hkl⟩:∃k,l[i]? =some k:=⟨l[i],List.getElem?_eq_getElem hil⟩
  have hP:plankS l (xk,(i:Int)) (p1,p2)=(⟨decide (isP k xk (p1,p2)),k.worth,p1*p2,0,z12.set i 1⟩,1):=by
   unfold plankS
   rw[if_pos hin]
   simp only[Int.toNat_natCast,hkl]
  rw[hP]at hQ
  clear hP
  rcases hks.inv with⟨_,_,h0,_⟩|⟨kb,ko,kcap,hv,sk,hkcap⟩
  ·omega
  cases hv
  obtain⟨vk,ownk,tk,gk1,gk2⟩:=slice_elem sk hkl
  obtain⟨id,kw,kh,kwo,tu⟩:=k
  have gk2':ltake 5 (ldrop (ko+i*5) vk)=[.int .i64 id, .int .i64 kw, .int .i64 kh, .int .i64 kwo, .bool tu]:=gk2
  have em:numOp .mul (.int .i64 p1) (.int .i64 p2)=some (.int .i64 (p1*p2)):=by
   have q1:=Int.mul_nonneg (show 0≤p1 by omega) (show 0≤p2 by omega)
   have q2:=Int.mul_le_mul h1.2 h2.2 (by omega) (by omega)
   have e:wrapA .i64 (p1*p2)=p1*p2:=wrapA_i64 (by omega) (by omega)
   simp[numOp,arith,e]
  clear gk2
  refine yA ?_;refine y3 ?_;refine yX ?_;refine wE_skip ?_;refine kS_n ?_;refine y4 ?_;refine yF ?_;refine yL ?_
  refine yF ?_;refine yL ?_;refine wO_val (a_iaddrS (by exact rfl) (by exact rfl) (by omega)) ?_
  refine wO_val (a_loadN (by exact rfl) gk1 gk2' (by exact rfl)) ?_
  refine wO_val a_new ?_
  refine wO_val (a_store (ws:=[.int .i64 id, .int .i64 kw, .int .i64 kh, .int .i64 kwo, .bool tu]) (by exact rfl) (by exact rfl) (by(simp(disch:=first|omega|(simp only[z1,z2];omega))only[z3,z4,z5,z6,z7,z1,z2, *];exact rfl)) (by exact rfl) (by exact rfl)) ?_
  refine y3 ?_
  refine WE.genT ?_
  intro hA hAe
  have hxA:Ext H hA:=by rw[hAe];exact((Ext.refl H).push _).wr (by omega) (by omega)
  have A11:hA.get H.next=some (.cells [.int .i64 id, .int .i64 kw, .int .i64 kh, .int .i64 kwo, .bool tu] true 1):=by rw[hAe];(simp(disch:=first|omega|(simp only[z1,z2];omega))only[z3,z4,z5,z6,z7,z1,z2, *];done)
  have hnA:hA.next=H.next+1:=by rw[hAe];rfl
  have A8:=(hxA.old _ k8).trans g8
  have A10:=(hxA.old _ k10).trans g10
  have wA:=hxA.wf hw
  have lA:=hxA.log.trans hlog
  clear hAe gk1 gk2' g4 g8 g10
  refine wE_cutT (E0:=[(1, .int .i64 p1),(2, .int .i64 p2),(8, .pointer (some ⟨p8,0,none⟩)),(10, .pointer (some ⟨p10,0,none⟩)),(11, .pointer (some ⟨H.next,0,none⟩)),(12, .bool (decide (xk=1∧kw=p1∧kh=p2)))]) (H0:=hA) ?_ ?_
  ·by_cases c1:xk=1
   ·by_cases c2:kw=p1
    ·by_cases c3:kh=p2
     ·rw[decide_eq_true (show xk=1∧kw=p1∧kh=p2 from⟨c1,c2,c3⟩)]
      refine wE_region ?_;refine yF ?_;refine yL ?_;refine yt ?_;refine yM ?_;refine yO ?_;refine yF ?_;refine yO ?_
      refine yL ?_;refine yO ?_;refine yM ?_;refine yO ?_;refine yt ?_;refine yT ?_;refine yM ?_;refine yO ?_
      refine yF ?_;refine yO ?_;refine yL ?_;refine yO ?_;refine yM ?_;refine yO ?_;refine yt ?_;refine yT ?_
      refine yM ?_;refine wO_nil ?_;refine y1 ?_
      exact⟨rfl,rfl,rfl,rfl⟩
     ·rw[decide_eq_false (show¬ (xk=1∧kw=p1∧kh=p2)from fun q=>c3 q.2.2)]
      refine wE_region ?_;refine yF ?_;refine yL ?_;refine yt ?_;refine yM ?_;refine yO ?_;refine yF ?_;refine yO ?_
      refine yL ?_;refine yO ?_;refine yM ?_;refine yO ?_;refine yt ?_;refine yT ?_;refine yM ?_;refine yO ?_
      refine yF ?_;refine yO ?_;refine yL ?_;refine yO ?_;refine yM ?_;refine yO ?_;refine yf ?_;refine yT ?_
      refine yM ?_;refine wO_nil ?_;refine y1 ?_
      exact⟨rfl,rfl,rfl,rfl⟩
    ·rw[decide_eq_false (show¬ (xk=1∧kw=p1∧kh=p2)from fun q=>c2 q.2.1)]
     refine wE_region ?_;refine yF ?_;refine yL ?_;refine yt ?_;refine yM ?_;refine yO ?_;refine yF ?_;refine yO ?_
     refine yL ?_;refine yO ?_;refine yM ?_;refine yO ?_;refine yf ?_;refine yT ?_;refine yM ?_
     refine yP ?_;refine yP ?_;refine yP ?_;refine yP ?_;refine yU ?_;refine yM ?_;refine wO_nil ?_
     refine y1 ?_
     exact⟨rfl,rfl,rfl,rfl⟩
   ·rw[decide_eq_false (show¬ (xk=1∧kw=p1∧kh=p2)from fun q=>c1 q.1)]
    refine wE_region ?_;refine yF ?_;refine yL ?_;refine yf ?_;refine yM ?_;refine yP ?_;refine yP ?_
    refine yP ?_;refine yP ?_;refine yU ?_;refine yM ?_;refine yP ?_;refine yP ?_;refine yP ?_;refine yP ?_
    refine yU ?_;refine yM ?_;refine wO_nil ?_;refine y1 ?_
    exact⟨rfl,rfl,rfl,rfl⟩
  refine wE_cutT (E0:=[(1, .int .i64 p1),(2, .int .i64 p2),(8, .pointer (some ⟨p8,0,none⟩)),(10, .pointer (some ⟨p10,0,none⟩)),(11, .pointer (some ⟨H.next,0,none⟩)),(12, .bool (decide (xk=1∧kw=p1∧kh=p2))),(13, .bool (decide (xk=2∧tu=true∧kh=p1∧kw=p2)))]) (H0:=hA) ?_ ?_
  ·by_cases c1:xk=2
   ·cases tu with
    |false=>
     rw[decide_eq_false (show¬ (xk=2∧false=true∧kh=p1∧kw=p2)from fun q=>by cases q.2.1)]
     refine wE_region ?_;refine yF ?_;refine yL ?_;refine yt ?_;refine yM ?_;refine yO ?_;refine yF ?_;refine yO ?_
     refine yL ?_;refine yT ?_;refine yM ?_;refine yP ?_;refine yP ?_;refine yP ?_;refine yP ?_
     refine yU ?_;refine yM ?_;refine yP ?_;refine yP ?_;refine yP ?_;refine yP ?_;refine yU ?_;refine yM ?_
     refine wO_nil ?_;refine y1 ?_
     exact⟨rfl,rfl,rfl,rfl⟩
    |true=>
     by_cases c2:kh=p1
     ·by_cases c3:kw=p2
      ·rw[decide_eq_true (show xk=2∧true=true∧kh=p1∧kw=p2 from⟨c1,rfl,c2,c3⟩)]
       refine wE_region ?_;refine yF ?_;refine yL ?_;refine yt ?_;refine yM ?_;refine yO ?_;refine yF ?_;refine yO ?_
       refine yL ?_;refine yT ?_;refine yM ?_;refine yO ?_;refine yF ?_;refine yO ?_;refine yL ?_;refine yO ?_
       refine yM ?_;refine yO ?_;refine yt ?_;refine yT ?_;refine yM ?_;refine yO ?_;refine yF ?_;refine yO ?_
       refine yL ?_;refine yO ?_;refine yM ?_;refine yO ?_;refine yt ?_;refine yT ?_;refine yM ?_;refine wO_nil ?_
       refine y1 ?_
       exact⟨rfl,rfl,rfl,rfl⟩
      ·rw[decide_eq_false (show¬ (xk=2∧true=true∧kh=p1∧kw=p2)from fun q=>c3 q.2.2.2)]
       refine wE_region ?_;refine yF ?_;refine yL ?_;refine yt ?_;refine yM ?_;refine yO ?_;refine yF ?_;refine yO ?_
       refine yL ?_;refine yT ?_;refine yM ?_;refine yO ?_;refine yF ?_;refine yO ?_;refine yL ?_;refine yO ?_
       refine yM ?_;refine yO ?_;refine yt ?_;refine yT ?_;refine yM ?_;refine yO ?_;refine yF ?_;refine yO ?_
       refine yL ?_;refine yO ?_;refine yM ?_;refine yO ?_;refine yf ?_;refine yT ?_;refine yM ?_;refine wO_nil ?_
       refine y1 ?_
       exact⟨rfl,rfl,rfl,rfl⟩
     ·rw[decide_eq_false (show¬ (xk=2∧true=true∧kh=p1∧kw=p2)from fun q=>c2 q.2.2.1)]
      refine wE_region ?_;refine yF ?_;refine yL ?_;refine yt ?_;refine yM ?_;refine yO ?_;refine yF ?_;refine yO ?_
      refine yL ?_;refine yT ?_;refine yM ?_;refine yO ?_;refine yF ?_;refine yO ?_;refine yL ?_;refine yO ?_
      refine yM ?_;refine yO ?_;refine yf ?_;refine yT ?_;refine yM ?_;refine yP ?_;refine yP ?_;refine yP ?_
      refine yP ?_;refine yU ?_;refine yM ?_;refine wO_nil ?_;refine y1 ?_
      exact⟨rfl,rfl,rfl,rfl⟩
   ·rw[decide_eq_false (show¬ (xk=2∧tu=true∧kh=p1∧kw=p2)from fun q=>c1 q.1)]
    refine wE_region ?_;refine yF ?_;refine yL ?_;refine yf ?_;refine yM ?_;refine yP ?_;refine yP ?_
    refine yU ?_;refine yM ?_;refine yP ?_;refine yP ?_;refine yP ?_;refine yP ?_;refine yU ?_;refine yM ?_
    refine yP ?_;refine yP ?_;refine yP ?_;refine yP ?_;refine yU ?_;refine yM ?_;refine wO_nil ?_
    refine y1 ?_
    exact⟨rfl,rfl,rfl,rfl⟩
  have hor:decide (isP ⟨id,kw,kh,kwo,tu⟩ xk (p1,p2))=(decide (xk=1∧kw=p1∧kh=p2)||decide (xk=2∧tu=true∧kh=p1∧kw=p2)):=by
   by_cases q1:xk=1∧kw=p1∧kh=p2
   ·rw[decide_eq_true (show isP ⟨id,kw,kh,kwo,tu⟩ xk (p1,p2)from .inl q1),decide_eq_true q1];rfl
   ·by_cases q2:xk=2∧tu=true∧kh=p1∧kw=p2
    ·rw[decide_eq_true (show isP ⟨id,kw,kh,kwo,tu⟩ xk (p1,p2)from .inr q2),decide_eq_false q1,decide_eq_true q2];rfl
    ·rw[decide_eq_false (show¬isP ⟨id,kw,kh,kwo,tu⟩ xk (p1,p2)from fun q=>q.elim q1 q2),decide_eq_false q1,decide_eq_false q2];rfl
  rw[hor]at hQ
  dsimp only at hQ
  generalize decide (xk=1∧kw=p1∧kh=p2)=b12 at*
  generalize decide (xk=2∧tu=true∧kh=p1∧kw=p2)=b13 at*
  clear hor
  cases b12 with
  |true=>
   refine y4 ?_;refine yM ?_;refine yM ?_;refine yP ?_;refine yT ?_;refine yF ?_;refine yL ?_;refine yM ?_
   refine yM ?_;refine wO_val (a_num (by exact rfl) (by exact rfl) (by with_reducible assumption)) ?_;refine wO_val (a_build (by exact rfl)) ?_;refine wO_val a_new ?_
   refine yS ?_;refine y3 ?_;refine y4 ?_;refine yF ?_
   refine yL ?_;refine yF ?_;refine wO_val (a_iaddrA (by exact rfl) (by exact rfl) (by omega)) ?_
   refine wO_val (a_store1 (b:=hA.next) (o:=0+4+i*1) (vs:=smC ⟨true,kwo,p1*p2,0,z12⟩) (by exact rfl) (by exact rfl) (by(simp(disch:=first|omega|(simp only[z1,z2];omega)|(simp only[z1,z2];done)|fail)only[z8,z4,z5,z9,z7,z1,z2, *];exact rfl)) (by exact rfl) (by exact rfl) (by show 0+4+i*1<16;omega)) ?_
   rw[set_smC]
   refine y3 ?_;refine y4 ?_
   refine wO_val (a_loadN (l:=smC ⟨true,kwo,p1*p2,0,z12.set i 1⟩) (by exact rfl) (by(simp(disch:=first|omega|(simp only[z1,z2];omega)|(simp only[z1,z2];done)|fail)only[z8,z4,z5,z9,z7,z1,z2, *];exact rfl)) (smC_take (by simp[z12])).1 (smC_take (by simp[z12])).2) ?_
   refine wO_val (a_storeAll (cs:=smC ⟨true,kwo,p1*p2,0,z12.set i 1⟩) (vs:=smC sm0) (by exact rfl) (by exact rfl) (by(simp(disch:=first|omega|(simp only[z1,z2];omega))only[z3,z4,z5,z6,z7,z1,z2, *];exact rfl)) (smC_len (by simp[z12])) rfl (ones_smC _)) ?_
   refine yM ?_;refine y3 ?_;refine wE_ret ?_
   refine hQ _ _ (tree_end (p8:=p8) (by simp[z12]) ?_ rfl rfl (by(simp(disch:=first|omega|(simp only[z1,z2];omega))only[z3,z4,z5,z6,z7,z1,z2, *];exact rfl)))
   simp(disch:=first|omega|(simp only[z1,z2];omega))only[Heap.log_wr_new,Heap.log_push]
   exact lA
  |false=>
   refine y4 ?_;refine yM ?_;refine yM ?_;refine yO ?_;refine yM ?_;refine yU ?_;refine yF ?_;refine yL ?_
   refine yM ?_;refine yM ?_;refine wO_val (a_num (by exact rfl) (by exact rfl) (by with_reducible assumption)) ?_;refine wO_val (a_build (by exact rfl)) ?_;refine wO_val a_new ?_
   refine yS ?_;refine y3 ?_;refine y4 ?_;refine yF ?_
   refine yL ?_;refine yF ?_;refine wO_val (a_iaddrA (by exact rfl) (by exact rfl) (by omega)) ?_
   refine wO_val (a_store1 (b:=hA.next) (o:=0+4+i*1) (vs:=smC ⟨b13,kwo,p1*p2,0,z12⟩) (by exact rfl) (by exact rfl) (by(simp(disch:=first|omega|(simp only[z1,z2];omega)|(simp only[z1,z2];done)|fail)only[z8,z4,z5,z9,z7,z1,z2, *];exact rfl)) (by exact rfl) (by exact rfl) (by show 0+4+i*1<16;omega)) ?_
   rw[set_smC]
   refine y3 ?_;refine y4 ?_
   refine wO_val (a_loadN (l:=smC ⟨b13,kwo,p1*p2,0,z12.set i 1⟩) (by exact rfl) (by(simp(disch:=first|omega|(simp only[z1,z2];omega)|(simp only[z1,z2];done)|fail)only[z8,z4,z5,z9,z7,z1,z2, *];exact rfl)) (smC_take (by simp[z12])).1 (smC_take (by simp[z12])).2) ?_
   refine wO_val (a_storeAll (cs:=smC ⟨b13,kwo,p1*p2,0,z12.set i 1⟩) (vs:=smC sm0) (by exact rfl) (by exact rfl) (by(simp(disch:=first|omega|(simp only[z1,z2];omega))only[z3,z4,z5,z6,z7,z1,z2, *];exact rfl)) (smC_len (by simp[z12])) rfl (ones_smC _)) ?_
   refine yM ?_;refine y3 ?_;refine wE_ret ?_
   refine hQ _ _ (tree_end (p8:=p8) (by simp[z12]) ?_ rfl rfl (by(simp(disch:=first|omega|(simp only[z1,z2];omega))only[z3,z4,z5,z6,z7,z1,z2, *];exact rfl)))
   simp(disch:=first|omega|(simp only[z1,z2];omega))only[Heap.log_wr_new,Heap.log_push]
   exact lA
 ·refine FW.pu (in80F F.p F.f80 (.of hw) hin) ?_
  have hP:plankS l (xk,xa) (p1,p2)=(sm0,0):=by unfold plankS;rw[if_neg hin]
  rw[hP]at hQ
  refine yA ?_;refine y3 ?_;refine yY ?_;refine y4 ?_;refine wO_val (a_build (by exact rfl)) ?_;refine yS ?_
  refine yM ?_;refine y3 ?_;refine wE_ret ?_;refine kS_r ?_
  exact hQ _ _ (tree_end (p8:=p8) rfl ((Heap.log_wr_new hb8).trans hlog) rfl rfl (by(simp(disch:=first|omega|(simp only[z1,z2];omega))only[z3,z4,z5,z6,z7,z1,z2, *];exact rfl)))
end Go.A.Pk
end
section
set_option maxRecDepth 100000
namespace Go.A.Pk
variable {T:Nat→Option AFunc}
theorem wE_cutP{base:Nat}{rnd:Option Nat}{Q:XQ}{e:Env}{E0:Env}{ds:Dfs}{h:Heap}{a b:ACode}{P:Heap→Prop}(H1:WE T base rnd a (fun x e' ds' h'=>x= .normal∧e'=E0∧ds'=[]∧P h') e ds h)(H2:∀h',P h'→WE T base rnd b Q E0 [] h'):WE T base rnd (.seq a b) Q e ds h:=by
 refine wE_seq (H1.mono ?_)
 rintro x e' ds' h' ⟨rfl,rfl,rfl,hp⟩
 exact kS_n (H2 h' hp)
theorem wE_cutK{base:Nat}{rnd:Option Nat}{K:Env→Dfs→Heap→Prop}{Q:XQ}{e:Env}{E0:Env}{ds:Dfs}{h:Heap}{a:ACode}{P:Heap→Prop}(H1:WE T base rnd a (fun x e' ds' h'=>x= .normal∧e'=E0∧ds'=[]∧P h') e ds h)(H2:∀h',P h'→K E0 [] h'):WE T base rnd a (KS K Q) e ds h:=by
 refine H1.mono ?_
 rintro x e' ds' h' ⟨rfl,rfl,rfl,hp⟩
 exact kS_n (H2 h' hp)
theorem wE_cutR{base:Nat}{rnd:Option Nat}{K:Env→Dfs→Heap→Prop}{Q:XQ}{e:Env}{E0:Env→Env}{ds:Dfs}{h:Heap}{a:ACode}{P:Heap→Prop}(H1:WE T base rnd a (fun x e' ds' h'=>x= .normal∧(∃r,e'=E0 r)∧ds'=[]∧P h') e ds h)(H2:∀r h',P h'→K (E0 r) [] h'):WE T base rnd a (KS K Q) e ds h:=by
 refine H1.mono ?_
 rintro x e' ds' h' ⟨rfl,⟨r,rfl⟩,rfl,hp⟩
 exact kS_n (H2 r h' hp)
theorem wD_store1{base:Nat}{h:Heap}{e:Env}{ops:List AOper}{bf:List Nat}{rs rs':List Rec}{Q:Env→Heap→Prop}{i mask:Nat}{is:List Nat}{dst:Option Nat}{g:Option (Nat×Bool)}{er:Env}{x y:Operand}{b o sz:Nat}{vs:List Value}{v:Value}
 (ho:lget ops i=some ⟨dst, .store 1 x y,g⟩)(hm:lget bf i=some mask)(he:keepE e (slotsA ⟨dst, .store 1 x y,g⟩)=er)(hwt:wantedA er g=some true)(hx:ev {h with log:=[]} er x=some (.pointer (some ⟨b,o,none⟩)))(hy:ev {h with log:=[]} er y=some v)(hb:h.get b=some (.cells vs true sz))
 (hc:cellsOf v=[v])(h1:ones [v]=true)(ho':o<vs.length)(hlt:b<h.next)(hbb:base≤b)(hrs:recsAfter (h.wr base b (.cells (vs.set o v) true sz)) base [b] mask rs=some rs')
 (H:WD T base ops bf Q is rs' (dstE e dst (.tuple #[])) (h.wr base b (.cells (vs.set o v) true sz))):WD T base ops bf Q (i::is) rs e h:=
 wD_actH ho hm he hwt rfl (a_store1 (h:={h with log:=[]}) hx hy hb hc h1 ho') (eq_wr hlt hbb _) (lg_wr hlt _) hrs H
theorem recsIn_nil{m:Nat}:recsIn m []=true:=rfl
theorem recsIn_cons{m:Nat}{r:Rec}{rs:List Rec}(h:Nat.testBit m r.i=true)(hs:recsIn m rs=true):recsIn m (r::rs)=true:=by
 simp only[recsIn,h,hs,Bool.and_self]
theorem recsIn_consC{m i:Nat}{o:AOper}{e:Env}{v:Value}{k:Rk}{rs:List Rec}(h:Nat.testBit m i=true)(hs:recsIn m rs=true):recsIn m (⟨i,o,e,v,k⟩::rs)=true:=recsIn_cons h hs
theorem used_smC{s:Sm}{i:Nat}(hi:i<s.used.length):lget (smC s) (0+4+i*1)=some (.int .i64 (s.used.getD i 0)):=by
 rw[lget_eq,show 0+4+i*1=i+4 by omega]
 simp[smC,ints,List.getD_eq_getElem?_getD,List.getElem?_eq_getElem hi]
def zipN(u v:List Int)(i:Nat):List Int:=(List.zipWith (· + ·) u v).take i++List.replicate (12-i) 0
theorem zipN_len{u v:List Int}(hu:u.length=12)(hv:v.length=12){i:Nat}(hi:i≤12):(zipN u v i).length=12:=by
 simp[zipN,hu,hv];omega
theorem zipN_all{u v:List Int}(hu:u.length=12)(hv:v.length=12):zipN u v 12=List.zipWith (· + ·) u v:=by
 rw[zipN,List.take_of_length_le (by simp[hu,hv])];simp
theorem zipN_set{u v:List Int}(hu:u.length=12)(hv:v.length=12){i:Nat}(hi:i<12):(zipN u v i).set i (u.getD i 0+v.getD i 0)=zipN u v (i+1):=by
 have hz:(List.zipWith (· + ·) u v).length=12:=by simp[hu,hv]
 have hg:(List.zipWith (· + ·) u v)[i]? =some (u.getD i 0+v.getD i 0):=by
  rw[List.getElem?_zipWith,List.getElem?_eq_getElem (by omega),List.getElem?_eq_getElem (by omega)]
  simp[List.getD_eq_getElem?_getD,List.getElem?_eq_getElem (show i<u.length by omega),List.getElem?_eq_getElem (show i<v.length by omega)]
 unfold zipN
 generalize List.zipWith (· + ·) u v=z at*
 rw[List.take_add_one,hg,List.set_append_right _ _ (by simp;omega)]
 obtain⟨m,hm⟩:∃m,12-i=m+1:=⟨11-i,by omega⟩
 rw[hm,show 12-(i+1)=m by omega,List.length_take,Nat.min_eq_left (by omega),Nat.sub_self,List.replicate_succ,List.set_cons_zero,List.append_assoc]
 rfl
set_option maxHeartbeats 32000000 in
theorem tree_cut(F:FnsTr T){base p4 p8 p10:Nat}{H:Heap}(hw:WF H)(hlog:H.log=[])(hb8:base≤p8)(hbase:base≤H.next){a:Option Addr}{c:Nat}{l:List Kd}{kerf:Int}{x:Nat×Int}{p:Int×Int}{f:Nat}{ns:List (Nat×Int)}{pa:Option Addr}{pc:Nat}(hks:SliceOf H 5 (.slice a l.length c) l.length (kcs l))(hc:chk kerf l=0)
 (g4:H.get p4=some (.cells [.slice a l.length c, .int .i64 kerf] true 1))(g8:H.get p8=some (.cells (smC sm0) true 1))(g10:H.get p10=some (.cells [.int .u8 x.1, .int .i64 x.2] true 1))(hx:x.1=3∨x.1=4)(h1:1≤p.1∧p.1≤16)(h2:1≤p.2∧p.2≤16)
 (hns:SliceOf H 2 (.slice pa (ns.length+1) pc) (ns.length+1) (ncI (x::ns)))(hu:U2 H (.slice pa (ns.length+1) pc))(hpc:pc<1000000∨pc=UNK)(hlen:ns.length+1≤1000){rest:Env}{Q:XQ}{psum:Int}(hps:psum=p.1+p.2)
 (IH:∀(p:Int×Int) (ms:List (Nat×Int)) (h:Heap) (qa:Option Addr) (qc:Nat),1≤p.1∧p.1≤16→1≤p.2∧p.2≤16→p.1+p.2<psum→ms.length≤ns.length→Rdy h→SliceOf h 5 (.slice a l.length c) l.length (kcs l)→SliceOf h 2 (.slice qa ms.length qc) ms.length (ncI ms)→U2 h (.slice qa ms.length qc)→(qc<1000000∨qc=UNK)→
   Pu T 137 [.agg #[.slice a l.length c, .int .i64 kerf], .int .i64 p.1, .int .i64 p.2, .slice qa ms.length qc] h (treeV (treeS kerf l f p ms)))
 (hQ:∀e H',endP treeRs (treeV (if 1≤x.2∧x.2≤sizeI x p-1 then joinS kerf (sizeI x p) x.2 (treeS kerf l f (oneI x p) ns) (treeS kerf l f (twoI kerf x p) (ns.drop (treeS kerf l f (oneI x p) ns).2))else(sm0,0))) .ret e [] H'→Q .ret e [] H'):
 WE T base none tA34 Q ((1, .int .i64 p.1)::(2, .int .i64 p.2)::(3, .slice pa (ns.length+1) pc)::(4, .pointer (some ⟨p4,0,none⟩))::(8, .pointer (some ⟨p8,0,none⟩))::(10, .pointer (some ⟨p10,0,none⟩))::rest) [] H:=by
 have k4:=WF.get_lt hw g4
 have k8:=WF.get_lt hw g8
 have k10:=WF.get_lt hw g10
 have hk2:=(chk_iff.1 hc).2.1
 obtain⟨xk,xa⟩:=x
 obtain⟨p1,p2⟩:=p
 dsimp only at g10 hx h1 h2⊢
 unfold tA34 tB0
 simp only[cR,cL,cnA,cnB,blkB,codeOf,f137]
 refine wE_cutP (E0:=[(1, .int .i64 p1),(2, .int .i64 p2),(3, .slice pa (ns.length+1) pc),(4, .pointer (some ⟨p4,0,none⟩)),(8, .pointer (some ⟨p8,0,none⟩)),(10, .pointer (some ⟨p10,0,none⟩)),(15, .bool (decide (xk=3)))]) (P:=fun h'=>H=h') ?_ ?_
 ·rcases hx with rfl|rfl
  ·refine wE_region ?_;refine yF ?_;refine yL ?_;refine yt ?_;refine yM ?_;refine wO_nil ?_;refine y1 ?_
   exact⟨rfl,rfl,rfl,rfl⟩
  ·refine wE_region ?_;refine yF ?_;refine yL ?_;refine yf ?_;refine yM ?_;refine wO_nil ?_;refine y1 ?_
   exact⟨rfl,rfl,rfl,rfl⟩
 rintro _ rfl
 refine y4 ?_;refine yM ?_;refine yM ?_;refine y3 ?_;refine wE_seq ?_;refine y4 ?_;refine yM ?_;refine y3 ?_
 refine wE_cutR (E0:=fun r=>(1, .int .i64 p1)::(2, .int .i64 p2)::(3, .slice pa (ns.length+1) pc)::(4, .pointer (some ⟨p4,0,none⟩))::(8, .pointer (some ⟨p8,0,none⟩))::(10, .pointer (some ⟨p10,0,none⟩))::(15, .bool (decide (xk=3)))::(16, .int .i64 (sizeI (xk,xa) (p1,p2)))::r) (P:=fun h'=>H=h') ?_ ?_
 ·rcases hx with rfl|rfl
  ·refine yY ?_;refine wE_region ?_;refine yM ?_;refine yM ?_;refine wO_nil ?_;refine y1 ?_
   exact⟨rfl,⟨[],rfl⟩,rfl,rfl⟩
  ·refine yX ?_;refine wE_skip ?_
   exact⟨rfl,⟨_,rfl⟩,rfl,rfl⟩
 rintro r113 _ rfl
 have hsz:1≤sizeI (xk,xa) (p1,p2)∧sizeI (xk,xa) (p1,p2)≤16:=by unfold sizeI;split<;>dsimp only<;>omega
 generalize hsize:sizeI (xk,xa) (p1,p2)=size at*
 refine wE_seq ?_;refine y4 ?_;refine yF ?_;refine yL ?_;refine yM ?_;refine ysub ?_
 refine yC ?_
 by_cases hin:1≤xa∧xa≤size-1
 ·rw[if_pos hin]at hQ
  refine FW.pu (in80T F.p F.f80 (.of hw) hin) ?_
  have b1:(1≤(oneI (xk,xa) (p1,p2)).1∧(oneI (xk,xa) (p1,p2)).1≤16)∧(1≤(oneI (xk,xa) (p1,p2)).2∧(oneI (xk,xa) (p1,p2)).2≤16):=by
   unfold oneI;split<;>dsimp only<;>omega
  have T1:=tree_bd hc f (oneI (xk,xa) (p1,p2)) ns b1.1 b1.2
  have b2:¬size-xa-kerf<1→(1≤(twoI kerf (xk,xa) (p1,p2)).1∧(twoI kerf (xk,xa) (p1,p2)).1≤16)∧(1≤(twoI kerf (xk,xa) (p1,p2)).2∧(twoI kerf (xk,xa) (p1,p2)).2≤16):=fun q=>by
   unfold sizeI at hsize;unfold twoI;split<;>(split at hsize)<;>dsimp only at hsize⊢ <;>omega
  have C1:=fun(h:Heap) (qa:Option Addr) (qc:Nat)=>IH (oneI (xk,xa) (p1,p2)) ns h qa qc b1.1 b1.2 (by dsimp only at hps;unfold sizeI at hsize;unfold oneI;split<;>(split at hsize)<;>dsimp only at hsize⊢ <;>omega) (Nat.le_refl _)
  generalize hone:treeS kerf l f (oneI (xk,xa) (p1,p2)) ns=one at*
  obtain⟨s1,n1⟩:=one
  obtain⟨T1,hn1⟩:=T1
  dsimp only at T1 hn1
  refine yA ?_;refine y3 ?_;refine yX ?_;refine wE_skip ?_;refine kS_n ?_;refine y4 ?_;refine wO_val (a_build (by exact rfl)) ?_;refine wO_val a_new ?_
  refine yS ?_;refine y3 ?_;refine y4 ?_;refine yM ?_;refine y3 ?_;refine wE_seq ?_;refine y4 ?_
  refine yM ?_;refine y3 ?_
  refine wE_cutK (E0:=[(1, .int .i64 p1),(2, .int .i64 p2),(3, .slice pa (ns.length+1) pc),(4, .pointer (some ⟨p4,0,none⟩)),(8, .pointer (some ⟨p8,0,none⟩)),(10, .pointer (some ⟨p10,0,none⟩)),(15, .bool (decide (xk=3))),(16, .int .i64 size),(17, .pointer (some ⟨H.next,0,none⟩)),(18, .int .i64 n1)]) (P:=fun h'=>Ext H h'∧H.next<h'.next∧h'.get H.next=some (.cells (smC s1) true 1)) ?_ ?_
  ·refine WE.genT ?_
   intro hA hAe
   have hxA:Ext H hA:=by rw[hAe];exact((Ext.refl H).push _).wr (by omega) (by omega)
   have A17:hA.get H.next=some (.cells (smC sm0) true 1):=by rw[hAe];(simp(disch:=first|omega|(simp only[z1,z2];omega))only[z3,z4,z5,z6,z7,z1,z2, *];exact rfl)
   have hnA:H.next<hA.next:=by rw[hAe];exact Nat.lt_succ_self _
   have A4:=(hxA.old _ k4).trans g4
   have A10:=(hxA.old _ k10).trans g10
   have wA:=hxA.wf hw
   have sA:=hns.ext hxA
   have uA:U2 hA (.slice pa (ns.length+1) pc):=fun b o n e=>by
    obtain⟨vs,own,g⟩:=hu b o n e
    exact⟨vs,own,(hxA.old _ (WF.get_lt hw g)).trans g⟩
   clear hAe hQ b2 IH g4 g8 g10
   rcases hx with rfl|rfl
   ·have eo:oneI (3,xa) (p1,p2)=(xa,p2):=rfl
    rw[eo]at C1
    dsimp only at C1
    refine yY ?_;refine wE_draw ?_;refine qN ?_;refine qF ?_
    refine qL ?_;refine qM ?_;refine qM ?_
    refine wD_sliceLo (k:=1) (m2:=63) sA uA (by omega) (by omega) (by omega) hpc rfl rfl rfl (by exact rfl) (fun _=>rfl) (fun _=>rfl) (by exact rfl) (by apply ra_dropC rfl;apply ra_keepC rfl (rq_quiet rfl (a_mov (by exact rfl)) (by exact sv_int _ _)) rfl;apply ra_keepC rfl (rq_quiet rfl (a_load (by exact rfl) (by(simp(disch:=first|omega|(simp only[z1,z2];omega))only[z3,z4,z5,z6,z7,z1,z2, *];exact rfl)) (by exact rfl)) (by exact sv_int _ _)) rfl;apply ra_keepC rfl (rq_quiet rfl (a_faddr (by exact rfl)) (by exact sv_ptr _)) rfl;apply ra_keepC rfl (rq_quiet rfl (a_loadN (by exact rfl) (by(simp(disch:=first|omega|(simp only[z1,z2];omega))only[z3,z4,z5,z6,z7,z1,z2, *];exact rfl)) (by exact rfl) (by exact rfl)) (by exact sv_agg (by refine sl_cons (s1_slice _ _ _) ?_;refine sl_cons (s1_int _ _) ?_;exact sl_nil))) rfl;exact ra_nil) (by repeat (first|exact recsIn_nil|refine recsIn_consC rfl ?_)) (by repeat (first|exact recsIn_nil|refine recsIn_consC rfl ?_)) rfl ?_
    rintro v hB rs' hxB sB uB ⟨qa,qc,rfl,hqc⟩ hrs
    simp only[Nat.add_sub_cancel]at sB uB⊢
    have sB':SliceOf hB 2 (.slice qa ns.length qc) ns.length (ncI ns):=sB
    have B17:=(hxB.old _ hnA).trans A17
    have hnB:=hxB.next
    clear A17 sA A4 A10
    refine qC ?_
    refine FW.puD (C1 _ qa qc (.of (hxB.wf wA)) ((hks.ext (hxA.trans hxB)).log []) (sB'.log []) (fun b o n e=>uB b o n e) hqc) (recs_all hrs) ?_
    refine qM ?_;refine qE ?_;refine qE ?_
    refine wD_storeAll (cs:=smC s1) (vs:=smC sm0) rfl rfl rfl (by exact rfl) (by exact rfl) (by exact rfl) B17 (smC_len T1.len) rfl (ones_smC _) (by omega) hbase (by apply ra_keepC rfl (rq_quiet rfl (a_extract (by exact rfl) (by exact rfl)) (by exact sv_int _ _)) rfl;apply ra_dropC rfl;apply ra_dropC rfl;exact ra_nil) ?_
    refine qM ?_;refine wD_nil ?_;refine y1 ?_
    exact⟨rfl,rfl,rfl,(hxA.trans hxB).wr (Nat.le_refl _) hbase,by show H.next<hB.next;omega,Heap.get_wr_new B17⟩
   ·have eo:oneI (4,xa) (p1,p2)=(p1,xa):=rfl
    rw[eo]at C1
    dsimp only at C1
    refine yX ?_;refine wE_draw ?_;refine qN ?_;refine qM ?_;refine qF ?_
    refine qL ?_;refine qM ?_
    refine wD_sliceLo (k:=1) (m2:=63) sA uA (by omega) (by omega) (by omega) hpc rfl rfl rfl (by exact rfl) (fun _=>rfl) (fun _=>rfl) (by exact rfl) (by apply ra_dropC rfl;apply ra_keepC rfl (rq_quiet rfl (a_load (by exact rfl) (by(simp(disch:=first|omega|(simp only[z1,z2];omega))only[z3,z4,z5,z6,z7,z1,z2, *];exact rfl)) (by exact rfl)) (by exact sv_int _ _)) rfl;apply ra_keepC rfl (rq_quiet rfl (a_faddr (by exact rfl)) (by exact sv_ptr _)) rfl;apply ra_keepC rfl (rq_quiet rfl (a_mov (by exact rfl)) (by exact sv_int _ _)) rfl;apply ra_keepC rfl (rq_quiet rfl (a_loadN (by exact rfl) (by(simp(disch:=first|omega|(simp only[z1,z2];omega))only[z3,z4,z5,z6,z7,z1,z2, *];exact rfl)) (by exact rfl) (by exact rfl)) (by exact sv_agg (by refine sl_cons (s1_slice _ _ _) ?_;refine sl_cons (s1_int _ _) ?_;exact sl_nil))) rfl;exact ra_nil) (by repeat (first|exact recsIn_nil|refine recsIn_consC rfl ?_)) (by repeat (first|exact recsIn_nil|refine recsIn_consC rfl ?_)) rfl ?_
    rintro v hB rs' hxB sB uB ⟨qa,qc,rfl,hqc⟩ hrs
    simp only[Nat.add_sub_cancel]at sB uB⊢
    have sB':SliceOf hB 2 (.slice qa ns.length qc) ns.length (ncI ns):=sB
    have B17:=(hxB.old _ hnA).trans A17
    have hnB:=hxB.next
    clear A17 sA A4 A10
    refine qC ?_
    refine FW.puD (C1 _ qa qc (.of (hxB.wf wA)) ((hks.ext (hxA.trans hxB)).log []) (sB'.log []) (fun b o n e=>uB b o n e) hqc) (recs_all hrs) ?_
    refine qM ?_;refine qE ?_;refine qE ?_
    refine wD_storeAll (cs:=smC s1) (vs:=smC sm0) rfl rfl rfl (by exact rfl) (by exact rfl) (by exact rfl) B17 (smC_len T1.len) rfl (ones_smC _) (by omega) hbase (by apply ra_keepC rfl (rq_quiet rfl (a_extract (by exact rfl) (by exact rfl)) (by exact sv_int _ _)) rfl;apply ra_dropC rfl;apply ra_dropC rfl;exact ra_nil) ?_
    refine qM ?_;refine wD_nil ?_;refine y1 ?_
    exact⟨rfl,rfl,rfl,(hxA.trans hxB).wr (Nat.le_refl _) hbase,by show H.next<hB.next;omega,Heap.get_wr_new B17⟩
  ·rintro h3 ⟨hx3,hn3,g17⟩
   have w3:=hx3.wf hw
   have l3:=hx3.log.trans hlog
   have G4:=(hx3.old _ k4).trans g4
   have G8:=(hx3.old _ k8).trans g8
   have G10:=(hx3.old _ k10).trans g10
   have s3:=hns.ext hx3
   have u3:U2 h3 (.slice pa (ns.length+1) pc):=fun b o n e=>by
    obtain⟨vs,own,g⟩:=hu b o n e
    exact⟨vs,own,(hx3.old _ (WF.get_lt hw g)).trans g⟩
   have g8H:=g8
   clear C1 g4 g8 g10
   obtain⟨ok1,wo1,ce1,de1,us1⟩:=s1
   have t1w:=T1.worth
   have t1c:=T1.cells
   have t1d:=T1.depth
   have t1l:=T1.len
   have t1u:=T1.used
   clear T1
   dsimp only at t1w t1c t1d t1l t1u
   cases ok1 with
   |false=>
    have eJ:∀two,joinS kerf size xa (⟨false,wo1,ce1,de1,us1⟩,n1) two=(sm0,0):=fun two=>by unfold joinS;rw[if_neg (by simp)]
    rw[eJ]at hQ
    refine wE_seq ?_;refine y4 ?_;refine yF ?_;refine yL ?_;refine yA ?_;refine y3 ?_;refine yY ?_;refine y4 ?_;refine wO_val (a_build (by exact rfl)) ?_;refine yS ?_;refine yM ?_;refine y3 ?_;refine wE_ret ?_;refine kS_r ?_
    exact hQ _ _ (tree_end (p8:=p8) rfl ((Heap.log_wr_new hb8).trans l3) rfl rfl (by(simp(disch:=first|omega|(simp only[z1,z2];omega))only[z3,z4,z5,z6,z7,z1,z2, *];exact rfl)))
   |true=>
    by_cases hr1:size-xa-kerf<1
    ·have eJ:∀two,joinS kerf size xa (⟨true,wo1,ce1,de1,us1⟩,n1) two=(⟨true,wo1,ce1,de1+1,us1⟩,n1+1):=fun two=>by unfold joinS;rw[if_pos rfl,if_pos hr1]
     rw[eJ]at hQ
     have ed:numOp .add (.int .i64 de1) (.int .i64 1)=some (.int .i64 (de1+1)):=m_add (wrapA_i64 (by omega) (by omega))
     refine wE_seq ?_;refine y4 ?_;refine yF ?_;refine yL ?_;refine yA ?_;refine y3 ?_;refine yX ?_;refine wE_skip ?_
     refine kS_n ?_;refine y4 ?_;refine yM ?_;refine yF ?_;refine yL ?_;refine ysub ?_;refine yF ?_
     refine yL ?_;refine ysub ?_;refine yM ?_;refine y3 ?_;refine wE_seq ?_;refine y4 ?_;refine yM ?_;refine yt ?_;refine y3 ?_;refine yY ?_;refine y4 ?_;refine yF ?_
     refine yL ?_;refine wO_val (a_num (by exact rfl) (by exact rfl) (by with_reducible assumption)) ?_;refine yF ?_;refine yS ?_;refine y3 ?_;refine y4 ?_
     refine wO_val (a_loadN (l:=smC ⟨true,wo1,ce1,de1+1,us1⟩) (by exact rfl) (by(simp(disch:=first|omega|(simp only[z1,z2];omega))only[z3,z4,z5,z6,z7,z1,z2, *];exact rfl)) (smC_take t1l).1 (smC_take t1l).2) ?_
     refine yM ?_;refine yinc ?_
     refine wO_val (a_storeAll (cs:=smC ⟨true,wo1,ce1,de1+1,us1⟩) (vs:=smC sm0) (by exact rfl) (by exact rfl) (by(simp(disch:=first|omega|(simp only[z1,z2];omega))only[z3,z4,z5,z6,z7,z1,z2, *];exact rfl)) (smC_len t1l) rfl (ones_smC _)) ?_
     refine yM ?_;refine y3 ?_;refine wE_ret ?_;refine kS_r ?_
     exact hQ _ _ (tree_end (p8:=p8) t1l ((Heap.log_wr_new hb8).trans ((Heap.log_wr_new hbase).trans l3)) rfl rfl (by(simp(disch:=first|omega|(simp only[z1,z2];omega))only[z3,z4,z5,z6,z7,z1,z2, *];done)))
    ·have b2:=b2 hr1
     have T2:=tree_bd hc f (twoI kerf (xk,xa) (p1,p2)) (ns.drop n1) b2.1 b2.2
     have C2:=fun(h:Heap) (qa:Option Addr) (qc:Nat)=>IH (twoI kerf (xk,xa) (p1,p2)) (ns.drop n1) h qa qc b2.1 b2.2 (by dsimp only at hps;unfold sizeI at hsize;unfold twoI;split<;>(split at hsize)<;>dsimp only at hsize⊢ <;>omega) (by rw[List.length_drop];omega)
     have eadd:numOp .add (.int .i64 1) (.int .i64 n1)=some (.int .i64 ((1+n1:Nat):Int)):=by
      have e:wrapA .i64 (1+(n1:Int))=((1+n1:Nat):Int):=by rw[wrapA_i64 (by omega) (by omega)];omega
      simp[numOp,arith,e]
     generalize htwo:treeS kerf l f (twoI kerf (xk,xa) (p1,p2)) (ns.drop n1)=two at*
     obtain⟨s2,n2⟩:=two
     obtain⟨T2,hn2⟩:=T2
     rw[List.length_drop]at hn2
     dsimp only at T2 hn2
     refine wE_seq ?_;refine y4 ?_;refine yF ?_;refine yL ?_;refine yA ?_;refine y3 ?_;refine yX ?_;refine wE_skip ?_
     refine kS_n ?_;refine y4 ?_;refine yM ?_;refine yF ?_;refine yL ?_;refine ysub ?_;refine yF ?_
     refine yL ?_;refine ysub ?_;refine yM ?_;refine y3 ?_;refine wE_seq ?_;refine y4 ?_;refine yM ?_;refine yf ?_;refine y3 ?_;refine yX ?_;refine wE_skip ?_;refine kS_n ?_;refine y4 ?_
     refine wO_val (a_build (by exact rfl)) ?_;refine wO_val a_new ?_;refine yS ?_;refine y3 ?_;refine y4 ?_;refine yM ?_;refine y3 ?_;refine wE_seq ?_;refine y4 ?_
     refine yM ?_;refine y3 ?_
     refine wE_cutK (E0:=[(8, .pointer (some ⟨p8,0,none⟩)),(17, .pointer (some ⟨H.next,0,none⟩)),(18, .int .i64 n1),(20, .pointer (some ⟨h3.next,0,none⟩)),(21, .int .i64 n2)]) (P:=fun h'=>Ext H h'∧h3.next<h'.next∧h'.get H.next=some (.cells (smC ⟨true,wo1,ce1,de1,us1⟩) true 1)∧h'.get h3.next=some (.cells (smC s2) true 1)) ?_ ?_
     ·refine WE.genT ?_
      intro hA hAe
      have hxA:Ext h3 hA:=by rw[hAe];exact((Ext.refl h3).push _).wr (by omega) (by omega)
      have A20:hA.get h3.next=some (.cells (smC sm0) true 1):=by rw[hAe];(simp(disch:=first|omega|(simp only[z1,z2];omega))only[z3,z4,z5,z6,z7,z1,z2, *];exact rfl)
      have hnA:h3.next<hA.next:=by rw[hAe];exact Nat.lt_succ_self _
      have A4:=(hxA.old _ (by omega)).trans G4
      have A17:=(hxA.old _ hn3).trans g17
      have wA:=hxA.wf w3
      have sA:=s3.ext hxA
      have uA:U2 hA (.slice pa (ns.length+1) pc):=fun b o n e=>by
       obtain⟨vs,own,g⟩:=u3 b o n e
       exact⟨vs,own,(hxA.old _ (WF.get_lt w3 g)).trans g⟩
      clear hAe hQ IH g17 G4 G8 G10
      rcases hx with rfl|rfl
      ·have eo:twoI kerf (3,xa) (p1,p2)=(p1-xa-kerf,p2):=rfl
       obtain rfl:p1=size:=hsize
       rw[eo]at C2
       dsimp only at C2
       refine yY ?_;refine wE_draw ?_;refine qN ?_;refine qM ?_;refine qM ?_
       refine qM ?_;refine qM ?_;refine wD_quiet rfl rfl rfl (by exact rfl) (by exact rfl) (by exact rfl) (a_num (by exact rfl) (by exact rfl) (by with_reducible assumption)) ?_
       refine wD_sliceLo (k:=1+n1) (m2:=127) sA uA (by omega) (by omega) (by omega) hpc rfl rfl rfl (by exact rfl) (fun _=>rfl) (fun _=>rfl) (by exact rfl) (by apply ra_dropC rfl;apply ra_dropC rfl;apply ra_dropC rfl;apply ra_keepC rfl (rq_quiet rfl (a_mov (by exact rfl)) (by exact sv_int _ _)) rfl;apply ra_keepC rfl (rq_quiet rfl (a_mov (by exact rfl)) (by exact sv_int _ _)) rfl;apply ra_keepC rfl (rq_quiet rfl (a_loadN (by exact rfl) (by(simp(disch:=first|omega|(simp only[z1,z2];omega))only[z3,z4,z5,z6,z7,z1,z2, *];exact rfl)) (by exact rfl) (by exact rfl)) (by exact sv_agg (by refine sl_cons (s1_slice _ _ _) ?_;refine sl_cons (s1_int _ _) ?_;exact sl_nil))) rfl;exact ra_nil) (by repeat (first|exact recsIn_nil|refine recsIn_consC rfl ?_)) (by repeat (first|exact recsIn_nil|refine recsIn_consC rfl ?_)) rfl ?_
       rintro v hB rs' hxB sB uB ⟨qa,qc,rfl,hqc⟩ hrs
       have hle:ns.length+1-(1+n1)=(ns.drop n1).length:=by rw[List.length_drop];omega
       rw[hle]at sB uB⊢
       have sB':SliceOf hB 2 (.slice qa (ns.drop n1).length qc) (ns.drop n1).length (ncI (ns.drop n1)):=by
        rw[show(1+n1)*2=(n1+1)*2 by omega,ncI_drop]at sB
        exact sB
       have B20:=(hxB.old _ hnA).trans A20
       have B17:=(hxB.old _ (by omega)).trans A17
       have hnB:=hxB.next
       clear A17 A20 sA A4
       refine qC ?_
       refine FW.puD (C2 _ qa qc (.of (hxB.wf wA)) ((hks.ext (hx3.trans (hxA.trans hxB))).log []) (sB'.log []) (fun b o n e=>uB b o n e) hqc) (recs_all hrs) ?_
       refine qM ?_;refine qE ?_;refine qE ?_
       refine wD_storeAll (cs:=smC s2) (vs:=smC sm0) rfl rfl rfl (by exact rfl) (by exact rfl) (by exact rfl) B20 (smC_len T2.len) rfl (ones_smC _) (by omega) (by omega) (by apply ra_keepC rfl (rq_quiet rfl (a_extract (by exact rfl) (by exact rfl)) (by exact sv_int _ _)) rfl;apply ra_dropC rfl;apply ra_dropC rfl;exact ra_nil) ?_
       refine qM ?_;refine wD_nil ?_;refine y1 ?_
       exact⟨rfl,rfl,rfl,(hx3.trans (hxA.trans hxB)).wr (by omega) (by omega),by show h3.next<hB.next;omega,(z5 (by omega)).trans B17,Heap.get_wr_new B20⟩
      ·have eo:twoI kerf (4,xa) (p1,p2)=(p1,p2-xa-kerf):=rfl
       obtain rfl:p2=size:=hsize
       rw[eo]at C2
       dsimp only at C2
       refine yX ?_;refine wE_draw ?_;refine qN ?_;refine qM ?_;refine qM ?_
       refine qM ?_;refine qM ?_;refine wD_quiet rfl rfl rfl (by exact rfl) (by exact rfl) (by exact rfl) (a_num (by exact rfl) (by exact rfl) (by with_reducible assumption)) ?_
       refine wD_sliceLo (k:=1+n1) (m2:=127) sA uA (by omega) (by omega) (by omega) hpc rfl rfl rfl (by exact rfl) (fun _=>rfl) (fun _=>rfl) (by exact rfl) (by apply ra_dropC rfl;apply ra_dropC rfl;apply ra_dropC rfl;apply ra_keepC rfl (rq_quiet rfl (a_mov (by exact rfl)) (by exact sv_int _ _)) rfl;apply ra_keepC rfl (rq_quiet rfl (a_mov (by exact rfl)) (by exact sv_int _ _)) rfl;apply ra_keepC rfl (rq_quiet rfl (a_loadN (by exact rfl) (by(simp(disch:=first|omega|(simp only[z1,z2];omega))only[z3,z4,z5,z6,z7,z1,z2, *];exact rfl)) (by exact rfl) (by exact rfl)) (by exact sv_agg (by refine sl_cons (s1_slice _ _ _) ?_;refine sl_cons (s1_int _ _) ?_;exact sl_nil))) rfl;exact ra_nil) (by repeat (first|exact recsIn_nil|refine recsIn_consC rfl ?_)) (by repeat (first|exact recsIn_nil|refine recsIn_consC rfl ?_)) rfl ?_
       rintro v hB rs' hxB sB uB ⟨qa,qc,rfl,hqc⟩ hrs
       have hle:ns.length+1-(1+n1)=(ns.drop n1).length:=by rw[List.length_drop];omega
       rw[hle]at sB uB⊢
       have sB':SliceOf hB 2 (.slice qa (ns.drop n1).length qc) (ns.drop n1).length (ncI (ns.drop n1)):=by
        rw[show(1+n1)*2=(n1+1)*2 by omega,ncI_drop]at sB
        exact sB
       have B20:=(hxB.old _ hnA).trans A20
       have B17:=(hxB.old _ (by omega)).trans A17
       have hnB:=hxB.next
       clear A17 A20 sA A4
       refine qC ?_
       refine FW.puD (C2 _ qa qc (.of (hxB.wf wA)) ((hks.ext (hx3.trans (hxA.trans hxB))).log []) (sB'.log []) (fun b o n e=>uB b o n e) hqc) (recs_all hrs) ?_
       refine qM ?_;refine qE ?_;refine qE ?_
       refine wD_storeAll (cs:=smC s2) (vs:=smC sm0) rfl rfl rfl (by exact rfl) (by exact rfl) (by exact rfl) B20 (smC_len T2.len) rfl (ones_smC _) (by omega) (by omega) (by apply ra_keepC rfl (rq_quiet rfl (a_extract (by exact rfl) (by exact rfl)) (by exact sv_int _ _)) rfl;apply ra_dropC rfl;apply ra_dropC rfl;exact ra_nil) ?_
       refine qM ?_;refine wD_nil ?_;refine y1 ?_
       exact⟨rfl,rfl,rfl,(hx3.trans (hxA.trans hxB)).wr (by omega) (by omega),by show h3.next<hB.next;omega,(z5 (by omega)).trans B17,Heap.get_wr_new B20⟩
     ·rintro h4 ⟨hx4,hn4,g17',g20⟩
      have l4:=hx4.log.trans hlog
      have G8':=(hx4.old _ k8).trans g8H
      clear g8H
      clear C2 G4 G8 G10 g17 IH
      obtain⟨ok2,wo2,ce2,de2,us2⟩:=s2
      have t2w:=T2.worth
      have t2c:=T2.cells
      have t2d:=T2.depth
      have t2l:=T2.len
      have t2u:=T2.used
      clear T2
      dsimp only at t2w t2c t2d t2l t2u
      cases ok2 with
      |false=>
       have eJ:joinS kerf size xa (⟨true,wo1,ce1,de1,us1⟩,n1) (⟨false,wo2,ce2,de2,us2⟩,n2)=(sm0,0):=by unfold joinS;rw[if_pos rfl,if_neg hr1,if_neg (by simp)]
       rw[eJ]at hQ
       refine wE_seq ?_;refine y4 ?_;refine yF ?_;refine yL ?_;refine yA ?_;refine y3 ?_;refine yY ?_;refine y4 ?_;refine wO_val (a_build (by exact rfl)) ?_;refine yS ?_;refine yM ?_;refine y3 ?_;refine wE_ret ?_;refine kS_r ?_
       exact hQ _ _ (tree_end (p8:=p8) rfl ((Heap.log_wr_new hb8).trans l4) rfl rfl (by(simp(disch:=first|omega|(simp only[z1,z2];omega))only[z3,z4,z5,z6,z7,z1,z2, *];exact rfl)))
      |true=>
       have eJ:joinS kerf size xa (⟨true,wo1,ce1,de1,us1⟩,n1) (⟨true,wo2,ce2,de2,us2⟩,n2)=(⟨true,wo1+wo2,ce1+ce2,1+mx de1 de2,List.zipWith (· + ·) us1 us2⟩,1+n1+n2):=by unfold joinS;rw[if_pos rfl,if_neg hr1,if_pos rfl]
       rw[eJ]at hQ
       have hmx:0≤mx de1 de2∧mx de1 de2≤100000:=by unfold mx;split<;>omega
       have eadd2:numOp .add (.int .i64 ((1+n1:Nat):Int)) (.int .i64 n2)=some (.int .i64 ((1+n1+n2:Nat):Int)):=by
        have e:wrapA .i64 (((1+n1:Nat):Int)+n2)=((1+n1+n2:Nat):Int):=by rw[wrapA_i64 (by omega) (by omega)];omega
        have e2:numOp .add (.int .i64 ((1+n1:Nat):Int)) (.int .i64 n2)=some (.int .i64 (wrapA .i64 (((1+n1:Nat):Int)+n2))):=rfl
        rw[e2,e]
       have ew:numOp .add (.int .i64 wo1) (.int .i64 wo2)=some (.int .i64 (wo1+wo2)):=m_add (wrapA_i64 (by omega) (by omega))
       have ec:numOp .add (.int .i64 ce1) (.int .i64 ce2)=some (.int .i64 (ce1+ce2)):=m_add (wrapA_i64 (by omega) (by omega))
       have ed:numOp .add (.int .i64 1) (.int .i64 (mx de1 de2))=some (.int .i64 (1+mx de1 de2)):=m_add (wrapA_i64 (by omega) (by omega))
       refine wE_seq ?_;refine y4 ?_;refine yF ?_;refine yL ?_;refine yA ?_;refine y3 ?_;refine yX ?_;refine wE_skip ?_
       refine kS_n ?_;refine y4 ?_;refine yF ?_;refine yL ?_;refine yF ?_;refine yL ?_;refine wO_val (a_num (by exact rfl) (by exact rfl) (by with_reducible assumption)) ?_
       refine yF ?_;refine yL ?_;refine yF ?_;refine yL ?_;refine wO_val (a_num (by exact rfl) (by exact rfl) (by with_reducible assumption)) ?_;refine yF ?_
       refine yL ?_;refine yF ?_;refine yL ?_;refine wO_val (a_max (by exact rfl) (by exact rfl)) ?_;refine wO_val (a_num (by exact rfl) (by exact rfl) (by with_reducible assumption)) ?_;refine wO_val (a_build (by exact rfl)) ?_;refine wO_val a_new ?_
       refine yS ?_;refine y3 ?_;refine wE_seq ?_;refine y4 ?_;refine yM ?_;refine y3 ?_;refine wE_block ?_
       refine wE_loop (fun m e ds h'=>∃i:Nat,i≤12∧m=12-i∧e=[(8, .pointer (some ⟨p8,0,none⟩)),(17, .pointer (some ⟨H.next,0,none⟩)),(18, .int .i64 n1),(20, .pointer (some ⟨h3.next,0,none⟩)),(21, .int .i64 n2),(22, .pointer (some ⟨h4.next,0,none⟩)),(23, .int .i64 i)]∧ds=[]∧Ext h4 h'∧h4.next<h'.next∧h'.get h4.next=some (.cells (smC ⟨true,wo1+wo2,ce1+ce2,1+mx de1 de2,zipN us1 us2 i⟩) true 1))
        ⟨0,Nat.zero_le _,rfl,rfl,rfl,((Ext.refl h4).push _).wr (base:=base) (x:=h4.next) (Nat.le_refl _) (by omega),Nat.lt_succ_self _,by(simp(disch:=first|omega|(simp only[z1,z2];omega))only[z3,z4,z5,z6,z7,z1,z2, *];exact rfl)⟩ ?_
       rintro m e ds h5 ⟨i,hi,rfl,rfl,rfl,hx5,hn5,g22⟩
       have D17:=(hx5.old _ (by omega)).trans g17'
       have D20:=(hx5.old _ hn4).trans g20
       by_cases hil:i<12
       ·have eu1:=used_smC (s:=⟨true,wo1,ce1,de1,us1⟩) (i:=i) (by dsimp only;omega)
        have eu2:=used_smC (s:=⟨true,wo2,ce2,de2,us2⟩) (i:=i) (by dsimp only;omega)
        have hz:=zipN_set t1l t2l hil
        have hv1:0≤us1.getD i 0∧us1.getD i 0≤100000:=by
         rw[List.getD_eq_getElem?_getD,List.getElem?_eq_getElem (show i<us1.length by omega)]
         have:=t1u _ (List.getElem_mem (show i<us1.length by omega))
         show 0≤us1[i]∧us1[i]≤100000
         omega
        have hv2:0≤us2.getD i 0∧us2.getD i 0≤100000:=by
         rw[List.getD_eq_getElem?_getD,List.getElem?_eq_getElem (show i<us2.length by omega)]
         have:=t2u _ (List.getElem_mem (show i<us2.length by omega))
         show 0≤us2[i]∧us2[i]≤100000
         omega
        dsimp only at eu1 eu2
        generalize us1.getD i 0=v1 at*
        generalize us2.getD i 0=v2 at*
        refine wE_seq ?_;refine y4 ?_;refine yM ?_;refine yt ?_;refine y3 ?_;refine yY ?_;refine wE_skip ?_;refine kS_n ?_
        refine wE_seq ?_;refine wE_block ?_;refine wE_draw ?_;refine qM ?_;refine qM ?_;refine qF ?_
        refine wD_quiet rfl rfl rfl (by exact rfl) (by exact rfl) (by exact rfl) (a_iaddrA (by exact rfl) (by exact rfl) (by omega)) ?_;refine wD_quiet rfl rfl rfl (by exact rfl) (by exact rfl) (by exact rfl) (a_load (by exact rfl) (by assumption) (by assumption)) ?_;refine qM ?_
        refine qF ?_;refine wD_quiet rfl rfl rfl (by exact rfl) (by exact rfl) (by exact rfl) (a_iaddrA (by exact rfl) (by exact rfl) (by omega)) ?_;refine wD_quiet rfl rfl rfl (by exact rfl) (by exact rfl) (by exact rfl) (a_load (by exact rfl) (by assumption) (by assumption)) ?_
        refine wD_quiet rfl rfl rfl (by exact rfl) (by exact rfl) (by exact rfl) (a_num (by exact rfl) (by exact rfl) (by exact m_add (wrapA_i64 (by omega) (by omega)))) ?_;refine qF ?_;refine wD_quiet rfl rfl rfl (by exact rfl) (by exact rfl) (by exact rfl) (a_iaddrA (by exact rfl) (by exact rfl) (by omega)) ?_
        refine wD_store1 (b:=h4.next) (o:=0+4+i*1) (vs:=smC ⟨true,wo1+wo2,ce1+ce2,1+mx de1 de2,zipN us1 us2 i⟩) rfl rfl rfl (by exact rfl) (by exact rfl) (by exact rfl) g22 (by exact rfl) (by exact rfl) (by rw[smC_len (zipN_len t1l t2l hi)];omega) hn5 (by omega) (by apply ra_dropC rfl;apply ra_dropC rfl;apply ra_dropC rfl;apply ra_dropC rfl;apply ra_dropC rfl;apply ra_dropC rfl;apply ra_dropC rfl;apply ra_dropC rfl;apply ra_dropC rfl;apply ra_dropC rfl;apply ra_dropC rfl;apply ra_dropC rfl;exact ra_nil) ?_
        rw[set_smC,hz]
        refine wD_nil ?_;refine y1 ?_;refine kB_n ?_;refine kS_n ?_;refine wE_region ?_;refine yM ?_;refine yinc ?_;refine yM ?_;refine y3 ?_
        exact⟨12-(i+1),by omega,i+1,by omega,rfl,rfl,rfl,hx5.wr (Nat.le_refl _) (by omega),hn5,Heap.get_wr_new g22⟩
       ·obtain rfl:i=12:=by omega
        rw[zipN_all t1l t2l]at g22
        have hzl:(List.zipWith (· + ·) us1 us2).length=12:=by simp[t1l,t2l]
        have D8:=(hx5.old _ (by omega)).trans G8'
        generalize List.zipWith (· + ·) us1 us2=us3 at*
        refine wE_seq ?_;refine y4 ?_;refine yM ?_;refine yf ?_;refine y3 ?_;refine yX ?_;refine wE_exit ?_;refine kS_e ?_
        refine kS_e ?_;refine kB_e ?_;refine kS_n ?_;refine y4 ?_
        refine wO_val (a_loadN (l:=smC ⟨true,wo1+wo2,ce1+ce2,1+mx de1 de2,us3⟩) (by exact rfl) (by assumption) (smC_take hzl).1 (smC_take hzl).2) ?_
        refine yM ?_;refine wO_val (a_num (by exact rfl) (by exact rfl) (by with_reducible assumption)) ?_;refine yM ?_;refine wO_val (a_num (by exact rfl) (by exact rfl) (by with_reducible assumption)) ?_
        refine wO_val (a_storeAll (cs:=smC ⟨true,wo1+wo2,ce1+ce2,1+mx de1 de2,us3⟩) (vs:=smC sm0) (by exact rfl) (by exact rfl) (by assumption) (smC_len hzl) rfl (ones_smC _)) ?_
        refine yM ?_;refine y3 ?_;refine wE_ret ?_
        exact hQ _ _ (tree_end (p8:=p8) hzl ((Heap.log_wr_new hb8).trans (hx5.log.trans l4)) rfl rfl (by(simp(disch:=first|omega|(simp only[z1,z2];omega))only[z3,z4,z5,z6,z7,z1,z2, *];done)))
 ·rw[if_neg hin]at hQ
  refine FW.pu (in80F F.p F.f80 (.of hw) hin) ?_
  refine yA ?_;refine y3 ?_;refine yY ?_;refine y4 ?_;refine wO_val (a_build (by exact rfl)) ?_;refine yS ?_
  refine yM ?_;refine y3 ?_;refine wE_ret ?_;refine kS_r ?_
  exact hQ _ _ (tree_end (p8:=p8) rfl ((Heap.log_wr_new hb8).trans hlog) rfl rfl (by(simp(disch:=first|omega|(simp only[z1,z2];omega))only[z3,z4,z5,z6,z7,z1,z2, *];exact rfl)))
end Go.A.Pk
end
section
set_option maxRecDepth 100000
namespace Go.A.Pk
variable {T:Nat→Option AFunc}
theorem first_node{h:Heap}{b o n:Nat}{x:Nat×Int}{ns:List (Nat×Int)}(s:SliceAt h b o n 2 (ncI (x::ns))):∃vs own t,h.get b=some (.cells vs own t)∧ltake 2 (ldrop (o+0*2) vs)=[.int .u8 x.1, .int .i64 x.2]:=by
 obtain⟨vs,own,t,g1,g2⟩:=s.obj
 refine⟨vs,own,t,g1,?_⟩
 have hl:=s.len
 rw[ncI_len]at hl
 have h1:(ltake (n*2) (ldrop o vs)).take 2=[.int .u8 x.1, .int .i64 x.2]:=by rw[g2];rfl
 rw[ltake_eq,ldrop_eq,List.take_take,Nat.min_eq_left (by simp at hl;omega)]at h1
 rw[ltake_eq,ldrop_eq,Nat.zero_mul,Nat.add_zero]
 exact h1
set_option maxHeartbeats 32000000 in
theorem tree137(F:FnsTr T){a:Option Addr}{c:Nat}{l:List Kd}{kerf:Int}(hc:chk kerf l=0):∀(f:Nat) (p:Int×Int) (ns:List (Nat×Int)) (h:Heap) (qa:Option Addr) (qc:Nat),1≤p.1∧p.1≤16→1≤p.2∧p.2≤16→p.1+p.2≤f→ns.length≤1000→Rdy h→
 SliceOf h 5 (.slice a l.length c) l.length (kcs l)→SliceOf h 2 (.slice qa ns.length qc) ns.length (ncI ns)→U2 h (.slice qa ns.length qc)→(qc<1000000∨qc=UNK)→
 Pu T 137 [.agg #[.slice a l.length c, .int .i64 kerf], .int .i64 p.1, .int .i64 p.2, .slice qa ns.length qc] h (treeV (treeS kerf l f p ns)):=by
 intro f
 induction f with
 |zero=>intro p ns h qa qc h1 h2 hf;omega
 |succ f ih=>
  intro p ns h qa qc h1 h2 hf hlen hr hs hns hu hqc
  refine .of F.p F.f137 hr (noRef_smC _ _) ?_
  have hx:Ext h ((h.push (.cells [.slice a l.length c, .int .i64 kerf] true 1)).push (.cells (smC sm0) true 1)):=((Ext.refl h).push _).push _
  cases ns with
  |nil=>
   refine y4 ?_;refine yB ?_;refine wO_val a_new ?_;refine yM ?_;refine y3 ?_;refine wE_seq ?_;refine y4 ?_;refine yM ?_
   refine yD ?_;refine wO_val (a_num (by exact rfl) (by exact rfl) (by exact m_eql)) ?_;refine y3 ?_;refine yY ?_;refine y4 ?_;refine wO_val (a_build (by exact rfl)) ?_
   refine yS ?_
   refine yM ?_;refine y3 ?_;refine wE_ret ?_;refine kS_r ?_
   exact tree_end (s:=sm0) (m:=0) (p8:=h.next+1) rfl ((Heap.log_wr_new (by(simp only[z1,z2];omega))).trans (hx.log.trans hr.log)) rfl rfl (by(simp(disch:=first|omega|(simp only[z1,z2];omega)|(simp only[z1,z2];done)|fail)only[z8,z4,z5,z9,z7,z1,z2, *];exact rfl))
  |cons x ns=>
   simp only[List.length_cons]at hns hu hlen⊢
   rcases hns.inv with⟨_,_,h0,_⟩|⟨b,o,cap,hv,s,hcap⟩
   ·omega
   cases hv
   obtain⟨vs,own,t,g1,g2⟩:=first_node s
   have kb:=s.lt
   have hl0:((ns.length+1:Nat):Int)≠0:=by omega
   refine y4 ?_;refine yB ?_;refine wO_val a_new ?_;refine yM ?_;refine y3 ?_;refine wE_seq ?_;refine y4 ?_;refine yM ?_
   refine yD ?_;refine yf ?_;refine y3 ?_;refine yX ?_;refine wE_skip ?_;refine kS_n ?_;refine y4 ?_
   refine yM ?_
   refine wO_val (a_iaddrS (i:=0) (by exact rfl) (by exact rfl) (by omega)) ?_
   refine wO_val (a_loadN (by exact rfl) (by(simp(disch:=first|omega|(simp only[z1,z2];omega))only[z3,z4,z5,z6,z7,z1,z2, *];exact rfl)) g2 (by exact rfl)) ?_
   refine wO_val a_new ?_
   refine wO_val (a_store (ws:=[.int .u8 x.1, .int .i64 x.2]) (by exact rfl) (by exact rfl) (by(simp(disch:=first|omega|(simp only[z1,z2];omega)|(simp only[z1,z2];done)|fail)only[z8,z4,z5,z9,z7,z1,z2, *];exact rfl)) (by exact rfl) (by exact rfl)) ?_
   refine y3 ?_
   refine WE.genT ?_
   intro hA hAe
   have hxA:Ext h hA:=by rw[hAe];exact(hx.push _).wr (by(simp only[z1,z2];omega)) (by(simp only[z1,z2];omega))
   have A4:hA.get h.next=some (.cells [.slice a l.length c, .int .i64 kerf] true 1):=by rw[hAe];(simp(disch:=first|omega|(simp only[z1,z2];omega))only[z3,z4,z5,z6,z7,z1,z2, *];exact rfl)
   have A8:hA.get (h.next+1)=some (.cells (smC sm0) true 1):=by rw[hAe];(simp(disch:=first|omega|(simp only[z1,z2];omega)|(simp only[z1,z2];done)|fail)only[z8,z4,z5,z9,z7,z1,z2, *];exact rfl)
   have A10:hA.get (h.next+2)=some (.cells [.int .u8 x.1, .int .i64 x.2] true 1):=by rw[hAe];(simp(disch:=first|omega|(simp only[z1,z2];omega)|(simp only[z1,z2];done)|fail)only[z8,z4,z5,z9,z7,z1,z2, *];done)
   have wA:=hxA.wf hr.wf
   have lA:=hxA.log.trans hr.log
   have nA:=hxA.next
   clear hAe g1 g2 hx
   by_cases k0:x.1=0
   ·have eT:treeS kerf l (f+1) p (x::ns)=({sm0 with ok:=decide (x.2=0)},1):=by rw[treeS,if_neg (by omega),nodeS,if_pos k0]
    rw[eT]
    by_cases kz:x.2=0
    ·rw[decide_eq_true kz]
     refine wE_seq ?_;refine y4 ?_;refine yF ?_;refine yL ?_;refine y3 ?_;refine wE_block ?_;refine y4 ?_
     refine yt ?_;refine yM ?_;refine y3 ?_;refine yY ?_;refine y4 ?_;refine yF ?_
     refine yL ?_;refine yt ?_;refine wO_val (a_build (by exact rfl)) ?_;refine yS ?_;refine yM ?_;refine y3 ?_;refine wE_ret ?_;refine kB_r ?_;refine kS_r ?_
     exact tree_end (s:={sm0 with ok:=true}) (m:=1) (p8:=h.next+1) rfl ((Heap.log_wr_new (by(simp only[z1,z2];omega))).trans lA) rfl rfl (by(simp(disch:=first|omega|(simp only[z1,z2];omega))only[z3,z4,z5,z6,z7,z1,z2, *];exact rfl))
    ·rw[decide_eq_false kz]
     refine wE_seq ?_;refine y4 ?_;refine yF ?_;refine yL ?_;refine y3 ?_;refine wE_block ?_;refine y4 ?_
     refine yt ?_;refine yM ?_;refine y3 ?_;refine yY ?_;refine y4 ?_;refine yF ?_
     refine yL ?_;refine yf ?_;refine wO_val (a_build (by exact rfl)) ?_;refine yS ?_;refine yM ?_;refine y3 ?_;refine wE_ret ?_;refine kB_r ?_;refine kS_r ?_
     exact tree_end (s:={sm0 with ok:=false}) (m:=1) (p8:=h.next+1) rfl ((Heap.log_wr_new (by(simp only[z1,z2];omega))).trans lA) rfl rfl (by(simp(disch:=first|omega|(simp only[z1,z2];omega))only[z3,z4,z5,z6,z7,z1,z2, *];exact rfl))
   ·by_cases k12:x.1=1∨x.1=2
    ·have eT:treeS kerf l (f+1) p (x::ns)=plankS l x p:=by rw[treeS,if_neg (by omega),nodeS,if_neg k0,if_pos k12]
     rw[eT]
     have TAIL:=fun(Q:XQ) (hQ:∀e H',endP treeRs (treeV (plankS l x p)) .ret e [] H'→Q .ret e [] H')=>tree_plank F (base:=h.next) (p4:=h.next) (p8:=h.next+1) (p10:=h.next+2) (v3:= .slice (some ⟨b,o,none⟩) (ns.length+1) qc) (v32:= .int .u8 x.1) wA lA (by omega) (by omega) (hs.ext hxA) hc A4 A8 A10 k12 h1 h2 (Q:=Q) hQ
     unfold tA12 tB0 at TAIL
     simp only[cR,cL,cnA,cnB,blkB,codeOf,f137]at TAIL
     by_cases k1:x.1=1
     ·refine wE_seq ?_;refine y4 ?_;refine yF ?_;refine yL ?_;refine y3 ?_;refine wE_block ?_;refine y4 ?_
      refine yf ?_;refine yM ?_;refine y3 ?_;refine yX ?_;refine wE_seq ?_;refine y4 ?_
      refine yt ?_;refine yM ?_;refine y3 ?_;refine yY ?_;refine wE_skip ?_;refine kS_n ?_;refine yY ?_;refine TAIL _ ?_
      exact fun e' H' q=>kB_r (kS_r q)
     ·have k2:x.1=2:=by omega
      refine wE_seq ?_;refine y4 ?_;refine yF ?_;refine yL ?_;refine y3 ?_;refine wE_block ?_;refine y4 ?_
      refine yf ?_;refine yM ?_;refine y3 ?_;refine yX ?_;refine wE_seq ?_;refine y4 ?_
      refine yf ?_;refine yM ?_;refine y3 ?_;refine yX ?_;refine wE_region ?_;refine yt ?_
      refine yM ?_;refine y3 ?_;refine yY ?_;refine TAIL _ ?_
      exact fun e' H' q=>kB_r (kS_r q)
    ·by_cases k34:x.1=3∨x.1=4
     ·have eT:treeS kerf l (f+1) p (x::ns)=if 1≤x.2∧x.2≤sizeI x p-1 then joinS kerf (sizeI x p) x.2 (treeS kerf l f (oneI x p) ns) (treeS kerf l f (twoI kerf x p) (ns.drop (treeS kerf l f (oneI x p) ns).2))else(sm0,0):=by rw[treeS,if_pos k34]
      rw[eT]
      have uA:U2 hA (.slice (some ⟨b,o,none⟩) (ns.length+1) qc):=fun b' o' n' e'=>by
       obtain⟨vs,own,g⟩:=hu b' o' n' e'
       exact⟨vs,own,(hxA.old _ (WF.get_lt hr.wf g)).trans g⟩
      have TAIL:=fun(rest:Env) (Q:XQ) (hQ:∀e H',endP treeRs (treeV (if 1≤x.2∧x.2≤sizeI x p-1 then joinS kerf (sizeI x p) x.2 (treeS kerf l f (oneI x p) ns) (treeS kerf l f (twoI kerf x p) (ns.drop (treeS kerf l f (oneI x p) ns).2))else(sm0,0))) .ret e [] H'→Q .ret e [] H')=>tree_cut F (base:=h.next) (p4:=h.next) (p8:=h.next+1) (p10:=h.next+2) (rest:=rest) (psum:=p.1+p.2) wA lA (by omega) (by omega) (hs.ext hxA) hc A4 A8 A10 k34 h1 h2 (hns.ext hxA) uA hqc hlen rfl
       (fun p' ms h' qa' qc' y1 y2 y3 y4 hr' hs' z1 z2 z3=>ih p' ms h' qa' qc' y1 y2 (by omega) (by omega) hr' hs' z1 z2 z3) (Q:=Q) hQ
      unfold tA34 tB0 at TAIL
      simp only[cR,cL,cnA,cnB,blkB,codeOf,f137]at TAIL
      generalize(if 1≤x.2∧x.2≤sizeI x p-1 then joinS kerf (sizeI x p) x.2 (treeS kerf l f (oneI x p) ns) (treeS kerf l f (twoI kerf x p) (ns.drop (treeS kerf l f (oneI x p) ns).2))else(sm0,0))=res at*
      by_cases k3:x.1=3
      ·replace TAIL:=TAIL [(32, .int .u8 x.1),(106, .bool true)]
       refine wE_seq ?_;refine y4 ?_;refine yF ?_;refine yL ?_;refine y3 ?_;refine wE_block ?_;refine y4 ?_
       refine yf ?_;refine yM ?_;refine y3 ?_;refine yX ?_;refine wE_seq ?_;refine y4 ?_
       refine yf ?_;refine yM ?_;refine y3 ?_;refine yX ?_;refine wE_region ?_;refine yf ?_
       refine yM ?_;refine y3 ?_;refine yX ?_;refine wE_seq ?_;refine y4 ?_;refine yt ?_;refine yM ?_
       refine y3 ?_;refine yY ?_;refine wE_skip ?_;refine kS_n ?_;refine yY ?_;refine TAIL _ ?_
       exact fun e' H' q=>kB_r (kS_r q)
      ·have k4:x.1=4:=by omega
       replace TAIL:=TAIL [(106, .bool true)]
       refine wE_seq ?_;refine y4 ?_;refine yF ?_;refine yL ?_;refine y3 ?_;refine wE_block ?_;refine y4 ?_
       refine yf ?_;refine yM ?_;refine y3 ?_;refine yX ?_;refine wE_seq ?_;refine y4 ?_
       refine yf ?_;refine yM ?_;refine y3 ?_;refine yX ?_;refine wE_region ?_;refine yf ?_
       refine yM ?_;refine y3 ?_;refine yX ?_;refine wE_seq ?_;refine y4 ?_;refine yf ?_;refine yM ?_
       refine y3 ?_;refine yX ?_;refine wE_region ?_;refine yt ?_;refine yM ?_;refine y3 ?_;refine yY ?_;refine TAIL _ ?_
       exact fun e' H' q=>kB_r (kS_r q)
     ·have eT:treeS kerf l (f+1) p (x::ns)=(sm0,0):=by rw[treeS,if_neg k34,nodeS,if_neg k0,if_neg k12]
      rw[eT]
      refine wE_seq ?_;refine y4 ?_;refine yF ?_;refine yL ?_;refine y3 ?_;refine wE_block ?_;refine y4 ?_
      refine yf ?_;refine yM ?_;refine y3 ?_;refine yX ?_;refine wE_seq ?_;refine y4 ?_
      refine yf ?_;refine yM ?_;refine y3 ?_;refine yX ?_;refine wE_region ?_;refine yf ?_
      refine yM ?_;refine y3 ?_;refine yX ?_;refine wE_seq ?_;refine y4 ?_;refine yf ?_;refine yM ?_
      refine y3 ?_;refine yX ?_;refine wE_region ?_;refine yf ?_;refine yM ?_;refine y3 ?_;refine yX ?_;refine wE_skip ?_;refine kB_n ?_;refine kS_n ?_;refine y4 ?_;refine wO_val (a_build (by exact rfl)) ?_;refine yS ?_
      refine yM ?_;refine y3 ?_;refine wE_ret ?_
      exact tree_end (s:=sm0) (m:=0) (p8:=h.next+1) rfl ((Heap.log_wr_new (by(simp only[z1,z2];omega))).trans lA) rfl rfl (by(simp(disch:=first|omega|(simp only[z1,z2];omega))only[z3,z4,z5,z6,z7,z1,z2, *];exact rfl))
end Go.A.Pk
end
section
set_option maxRecDepth 100000
namespace Go.A.Pk
variable {T:Nat→Option AFunc}
structure FnsC9 (T:Nat→Option AFunc):Prop extends FnsTr T,FnsD T where
 f95:T 95=some f95
def planS(kerf:Int)(l:List Kd)(p:Int×Int)(ns:List (Nat×Int)):Sm:=if(treeS kerf l 32 p ns).1.ok=true∧(treeS kerf l 32 p ns).2=ns.length then(treeS kerf l 32 p ns).1 else sm0
theorem planS_len{kerf:Int}{l:List Kd}(hc:chk kerf l=0){p:Int×Int}(h1:1≤p.1∧p.1≤16)(h2:1≤p.2∧p.2≤16)(ns:List (Nat×Int)):(planS kerf l p ns).used.length=12:=by
 unfold planS
 split
 ·exact(tree_bd hc 32 p ns h1 h2).1.len
 ·rfl
theorem noRef_sm(s:Sm):noRef (.agg (smC s).toArray)=true:=by
 have:∀xs:List Int,scalL (ints xs)=true:=fun xs=>by
  induction xs with
  |nil=>rfl
  |cons x xs ih=>exact ih
 have h2:scalL (smC s)=true:=this s.used
 simp[noRef,flatL,flat,h2]
set_option maxHeartbeats 8000000 in
theorem plan95(F:FnsC9 T){a:Option Addr}{c:Nat}{l:List Kd}{kerf:Int}(hc:chk kerf l=0){p:Int×Int}{ns:List (Nat×Int)}{h:Heap}{qa:Option Addr}{qc:Nat}(h1:1≤p.1∧p.1≤16)(h2:1≤p.2∧p.2≤16)(hlen:ns.length≤1000)(hr:Rdy h)
 (hs:SliceOf h 5 (.slice a l.length c) l.length (kcs l))(hns:SliceOf h 2 (.slice qa ns.length qc) ns.length (ncI ns))(hu:U2 h (.slice qa ns.length qc))(hqc:qc<1000000∨qc=UNK):
 Pu T 95 [.agg #[.slice a l.length c, .int .i64 kerf], .int .i64 p.1, .int .i64 p.2, .slice qa ns.length qc] h (.agg (smC (planS kerf l p ns)).toArray):=by
 refine .of F.toFnsTr.p F.f95 hr (noRef_sm _) ?_
 have hx:Ext h ((h.push (.cells [.slice a l.length c, .int .i64 kerf] true 1)).push (.cells (smC sm0) true 1)):=((Ext.refl h).push _).push _
 have C:=tree137 F.toFnsTr hc 32 p ns _ qa qc h1 h2 (by omega) hlen (.of (hx.wf hr.wf)) ((hs.ext hx).log []) ((hns.ext hx).log []) (fun b o n e=>by
  obtain⟨vs,own,g⟩:=hu b o n e
  exact⟨vs,own,(hx.old _ (WF.get_lt hr.wf g)).trans g⟩) hqc
 have hb:=tree_bd hc 32 p ns h1 h2
 have hP:planS kerf l p ns=if(treeS kerf l 32 p ns).1.ok=true∧(treeS kerf l 32 p ns).2=ns.length then(treeS kerf l 32 p ns).1 else sm0:=rfl
 rw[hP]
 clear hP
 generalize treeS kerf l 32 p ns=r at*
 obtain⟨s,m⟩:=r
 have hl:=hb.1.len
 have hm:=hb.2
 clear hb
 obtain⟨ok,wo,ce,de,us⟩:=s
 dsimp only at hl hm⊢
 refine y4 ?_;refine yB ?_;refine wO_val a_new ?_;refine y3 ?_;refine y4 ?_
 refine yN ?_;refine yM ?_;refine yM ?_
 refine yM ?_
 refine yC ?_
 refine FW.pu C ?_
 clear C
 refine yM ?_;refine yE ?_;refine yE ?_;refine wO_val a_new ?_
 refine wO_val (a_storeAll (cs:=smC ⟨ok,wo,ce,de,us⟩) (vs:=smC sm0) (by exact rfl) (by exact rfl) (by(simp(disch:=first|omega|(simp only[z1,z2];omega)|(simp only[z1,z2];done)|fail)only[z8,z4,z5,z9,z7,z1,z2, *];exact rfl)) (smC_len hl) rfl (ones_smC _)) ?_
 cases ok with
 |false=>
  rw[if_neg (fun q=>by cases q.1)]
  refine yM ?_;refine y3 ?_;refine wE_seq ?_;refine y4 ?_;refine yF ?_
  refine yL ?_;refine yA ?_
  refine yM ?_;refine yP ?_;refine yP ?_;refine yP ?_;refine yP ?_;refine yT ?_;refine y3 ?_;refine yY ?_;refine y4 ?_;refine wO_val (a_build (by exact rfl)) ?_
  refine yS ?_;refine y3 ?_;refine wE_ret ?_;refine kS_r ?_
  refine endP_ret ?_ (res_cells (b:=h.next+1) rfl (by(simp(disch:=first|omega|(simp only[z1,z2];omega)|(simp only[z1,z2];done)|fail)only[z8,z4,z5,z9,z7,z1,z2, *];exact rfl)) (smC_take (s:=sm0) rfl).1 (smC_take (s:=sm0) rfl).2 res_nil) rfl
  simp(disch:=first|omega|(simp only[z1,z2];omega))only[Heap.log_wr_new,Heap.log_push]
  exact hr.log
 |true=>
  by_cases hml:m=ns.length
  ·rw[if_pos ⟨rfl,hml⟩]
   refine yM ?_;refine y3 ?_;refine wE_seq ?_;refine y4 ?_;refine yF ?_
   refine yL ?_;refine yA ?_
   refine yM ?_;refine yO ?_;refine yM ?_;refine yO ?_;refine yM ?_;refine yO ?_;refine yD ?_;refine yO ?_;refine yf ?_
   refine yU ?_;refine y3 ?_;refine yX ?_;refine wE_skip ?_;refine kS_n ?_;refine y4 ?_
   refine wO_val (a_loadN (l:=smC ⟨true,wo,ce,de,us⟩) (by exact rfl) (by(simp(disch:=first|omega|(simp only[z1,z2];omega)|(simp only[z1,z2];done)|fail)only[z8,z4,z5,z9,z7,z1,z2, *];exact rfl)) (smC_take hl).1 (smC_take hl).2) ?_
   refine wO_val (a_storeAll (cs:=smC ⟨true,wo,ce,de,us⟩) (vs:=smC sm0) (by exact rfl) (by exact rfl) (by(simp(disch:=first|omega|(simp only[z1,z2];omega)|(simp only[z1,z2];done)|fail)only[z8,z4,z5,z9,z7,z1,z2, *];exact rfl)) (smC_len hl) rfl (ones_smC _)) ?_
   refine y3 ?_;refine wE_ret ?_
   refine endP_ret ?_ (res_cells (b:=h.next+1) rfl (by(simp(disch:=first|omega|(simp only[z1,z2];omega)|(simp only[z1,z2];done)|fail)only[z8,z4,z5,z9,z7,z1,z2, *];exact rfl)) (smC_take hl).1 (smC_take hl).2 res_nil) rfl
   simp(disch:=first|omega|(simp only[z1,z2];omega))only[Heap.log_wr_new,Heap.log_push]
   exact hr.log
  ·rw[if_neg (fun q=>hml q.2)]
   refine yM ?_;refine y3 ?_;refine wE_seq ?_;refine y4 ?_;refine yF ?_
   refine yL ?_;refine yA ?_
   refine yM ?_;refine yO ?_;refine yM ?_;refine yO ?_;refine yM ?_;refine yO ?_;refine yD ?_;refine yO ?_;refine yt ?_
   refine yU ?_;refine y3 ?_;refine yY ?_;refine y4 ?_;refine wO_val (a_build (by exact rfl)) ?_
   refine yS ?_;refine y3 ?_;refine wE_ret ?_;refine kS_r ?_
   refine endP_ret ?_ (res_cells (b:=h.next+1) rfl (by(simp(disch:=first|omega|(simp only[z1,z2];omega)|(simp only[z1,z2];done)|fail)only[z8,z4,z5,z9,z7,z1,z2, *];exact rfl)) (smC_take (s:=sm0) rfl).1 (smC_take (s:=sm0) rfl).2 res_nil) rfl
   simp(disch:=first|omega|(simp only[z1,z2];omega))only[Heap.log_wr_new,Heap.log_push]
   exact hr.log
end Go.A.Pk
end
section
namespace Go.A.Pk
def nI(ns:List (Nat×Nat)):List (Nat×Int):=ns.map fun x=>(x.1,(x.2:Int))
theorem leafAt_inv{k:Kd}{i a b:Nat}{x:Nat×Nat}(h:x∈leafAt k i a b):x.2=i∧((x.1=1∧(a:Int)=k.w∧(b:Int)=k.h)∨(x.1=2∧k.turn=true∧(a:Int)=k.h∧(b:Int)=k.w)):=by
 unfold leafAt at h
 rcases List.mem_append.1 h with h|h
 ·split at h
  ·rename_i q
   rw[List.mem_singleton.1 h]
   exact⟨rfl, .inl ⟨rfl,q⟩⟩
  ·cases h
 ·split at h
  ·rename_i q
   rw[List.mem_singleton.1 h]
   exact⟨rfl, .inr ⟨rfl,q⟩⟩
  ·cases h
theorem leaves_inv{a b:Nat}:∀{l:List Kd} {i:Nat} {x:Nat×Nat},x∈leavesL a b l i→∃j k,l[j]? =some k∧x.2=i+j∧((x.1=1∧(a:Int)=k.w∧(b:Int)=k.h)∨(x.1=2∧k.turn=true∧(a:Int)=k.h∧(b:Int)=k.w))
 |[],_,x,h=>by cases h
 |k::l,i,x,h=>by
  simp only[leavesL,List.mem_append]at h
  rcases h with h|h
  ·obtain⟨h1,h2⟩:=leafAt_inv h
   exact⟨0,k,rfl,h1,h2⟩
  ·obtain⟨j,k',h1,h2,h3⟩:=leaves_inv h
   exact⟨j+1,k',h1,by omega,h3⟩
theorem foldM_att{α:Type}{f:α→Int}:∀{xs:List α} {m:Int},foldM f xs m=m∨∃x∈xs,foldM f xs m=f x
 |[],m=> .inl rfl
 |y::xs,m=>by
  show foldM f xs (mx m (f y))=m∨∃x∈y::xs,foldM f xs (mx m (f y))=f x
  rcases foldM_att (f:=f) (xs:=xs) (m:=mx m (f y))with h|⟨x,hx,h⟩
  ·rw[h]
   by_cases hc:f y≤m
   ·left;unfold mx;split<;>omega
   ·right;exact⟨y,List.mem_cons_self ..,by unfold mx;split<;>omega⟩
  ·right;exact⟨x,List.mem_cons_of_mem _ hx,h⟩
theorem plan_nil{kerf:Int}{ws:List Int}{kl:List Kd}{t:Tab}{p:Int×Int}{ns:List (Nat×Nat)}(h:PlanR kerf ws kl t p ns)(hp:¬ (1≤p.1∧1≤p.2)):ns=[]:=by
 cases h with
 |none _=>rfl
 |leaf q1 q2 _ _=>exact absurd ⟨by dsimp only;omega,by dsimp only;omega⟩ hp
 |cut q1 q2 _ _ _ _=>exact absurd ⟨by dsimp only;omega,by dsimp only;omega⟩ hp
 |waste q1 q2 _ _=>exact absurd ⟨by dsimp only;omega,by dsimp only;omega⟩ hp
theorem plan_tree{kerf:Int}{l:List Kd}{t:Tab}{W Hh:Int}(hk:0≤kerf)(hV:∀q:Int×Int,1≤q.1→q.1≤W→1≤q.2→q.2≤Hh→look t q=V kerf (wsP l) l q)(h0:∀q:Int×Int,¬ (1≤q.1∧1≤q.2)→look t q=0){p:Int×Int}{ns:List (Nat×Nat)}(R:PlanR kerf (wsP l) l t p ns):
 1≤p.1→1≤p.2→p.1≤W→p.2≤Hh→∀(f:Nat) (rest:List (Nat×Int)),p.1+p.2≤f→(treeS kerf l f p (nI ns++rest)).1.ok=true∧(treeS kerf l f p (nI ns++rest)).1.worth=look t p∧(treeS kerf l f p (nI ns++rest)).2=ns.length:=by
 induction R with
 |none h=>intro h1 h2;exact absurd ⟨h1,h2⟩ h
 | @leaf a b x ha hb hx hw=>
   intro h1 h2 h3 h4 f rest hf
   obtain⟨j,k,hj,hj2,hk3⟩:=leaves_inv hx
   have ex:x.2=j:=by omega
   have hjl:j<l.length:=(List.getElem?_eq_some_iff.1 hj).1
   have hn34:¬ (x.1=3∨x.1=4):=by rcases hk3 with⟨e,_⟩|⟨e,_⟩<;>omega
   have hwk:(wsP l).getD x.2 0=k.worth:=by rw[wsP,List.getD_eq_getElem?_getD,List.getElem?_map,ex,hj];rfl
   have e1:∀f:Nat,treeS kerf l f ((a:Int),(b:Int)) (nI [x]++rest)=nodeS l (x.1,(x.2:Int)) ((a:Int),(b:Int)):=fun f=>by
    show treeS kerf l f ((a:Int),(b:Int)) ((x.1,(x.2:Int))::rest)=_
    cases f<;>rw[treeS,if_neg hn34]
   have e2:nodeS l (x.1,(x.2:Int)) ((a:Int),(b:Int))=(⟨decide (isP k x.1 ((a:Int),(b:Int))),k.worth,(a:Int)*b,0,z12.set x.2 1⟩,1):=by
    unfold nodeS plankS
    rw[if_neg (show¬x.1=0 by rcases hk3 with⟨e,_⟩|⟨e,_⟩<;>omega),if_pos (show x.1=1∨x.1=2 by rcases hk3 with⟨e,_⟩|⟨e,_⟩<;>omega),if_pos (by omega)]
    simp only[Int.toNat_natCast,ex,hj]
   rw[e1,e2]
   refine⟨decide_eq_true ?_,hwk.symm.trans hw,rfl⟩
   unfold isP
   rcases hk3 with⟨e,e3,e4⟩|⟨e,e3,e4,e5⟩
   ·exact .inl ⟨e,e3.symm,e4.symm⟩
   ·exact .inr ⟨e,e3,e4.symm,e5.symm⟩
 | @cut a b x n1 n2 ha hb hx hw r1 r2 ih1 ih2=>
   intro h1 h2 h3 h4 f rest hf
   dsimp only at h1 h2 h3 h4 hf
   obtain⟨f,rfl⟩:∃f',f=f'+1:=⟨f-1,by omega⟩
   have eo:oneI (x.1,(x.2:Int)) ((a:Int),(b:Int))=oneB x a b:=by unfold oneI oneB;rfl
   have et:twoI kerf (x.1,(x.2:Int)) ((a:Int),(b:Int))=twoB kerf x a b:=by unfold twoI twoB;rfl
   have hx34:x.1=3∨x.1=4:=by rcases cuts_of hx with⟨e,_⟩|⟨e,_⟩<;>omega
   have hat:1≤(x.2:Int)∧(x.2:Int)≤sizeI (x.1,(x.2:Int)) ((a:Int),(b:Int))-1:=by
    unfold sizeI
    rcases cuts_of hx with⟨e,q1,q2⟩|⟨e,q1,q2⟩
    ·rw[if_pos e];dsimp only;omega
    ·rw[if_neg (show¬ (x.1,(x.2:Int)).1=3 by show¬x.1=3;omega)];dsimp only;omega
   have hone:1≤(oneB x a b).1∧1≤(oneB x a b).2∧(oneB x a b).1≤W∧(oneB x a b).2≤Hh∧(oneB x a b).1+(oneB x a b).2≤f:=by
    rcases cuts_of hx with⟨e3,_,_⟩|⟨e4,_,_⟩
    ·simp only[oneB,e3,if_true];omega
    ·have q3:¬x.1=3:=by omega
     simp only[oneB,if_neg q3];omega
   have htwo:((twoB kerf x a b).1≤W∧(twoB kerf x a b).2≤Hh∧(twoB kerf x a b).1+(twoB kerf x a b).2≤f)∧(sizeI (x.1,(x.2:Int)) ((a:Int),(b:Int))-x.2-kerf<1↔ ¬ (1≤(twoB kerf x a b).1∧1≤(twoB kerf x a b).2)):=by
    unfold sizeI
    rcases cuts_of hx with⟨e3,_,_⟩|⟨e4,_,_⟩
    ·simp only[twoB,e3,if_true];omega
    ·have q3:¬x.1=3:=by omega
     simp only[twoB,if_neg q3];omega
   obtain⟨i1,i2,i3⟩:=ih1 hone.1 hone.2.1 hone.2.2.1 hone.2.2.2.1 f (nI n2++rest) hone.2.2.2.2
   have eL:nI (x::(n1++n2))++rest=(x.1,(x.2:Int))::(nI n1++(nI n2++rest)):=by simp[nI]
   have e1:treeS kerf l (f+1) ((a:Int),(b:Int)) (nI (x::(n1++n2))++rest)=joinS kerf (sizeI (x.1,(x.2:Int)) ((a:Int),(b:Int))) x.2 (treeS kerf l f (oneB x a b) (nI n1++(nI n2++rest))) (treeS kerf l f (twoB kerf x a b) ((nI n1++(nI n2++rest)).drop (treeS kerf l f (oneB x a b) (nI n1++(nI n2++rest))).2)):=by
    rw[eL,treeS,if_pos hx34,if_pos hat,eo,et]
   have ed:(nI n1++(nI n2++rest)).drop n1.length=nI n2++rest:=by
    have:n1.length=(nI n1).length:=by simp[nI]
    rw[this,List.drop_left]
   rw[e1,i3,ed]
   generalize treeS kerf l f (oneB x a b) (nI n1++(nI n2++rest))=one at*
   unfold joinS
   rw[if_pos i1]
   by_cases hr:sizeI (x.1,(x.2:Int)) ((a:Int),(b:Int))-x.2-kerf<1
   ·have hnb:=htwo.2.1 hr
    have z2:n2=[]:=plan_nil r2 hnb
    have z3:=h0 _ hnb
    rw[if_pos hr]
    refine⟨i1,?_,?_⟩
    ·show one.1.worth=_
     rw[←hw,z3,i2];omega
    ·rw[z2];simp;omega
   ·have hb2:1≤(twoB kerf x a b).1∧1≤(twoB kerf x a b).2:=Classical.byContradiction fun q=>hr (htwo.2.2 q)
    obtain⟨j1,j2,j3⟩:=ih2 hb2.1 hb2.2 htwo.1.1 htwo.1.2.1 f rest htwo.1.2.2
    rw[if_neg hr,if_pos j1]
    refine⟨rfl,?_,?_⟩
    ·show one.1.worth+(treeS kerf l f (twoB kerf x a b) (nI n2++rest)).1.worth=_
     rw[i2,j2];exact hw
    ·show 1+one.2+(treeS kerf l f (twoB kerf x a b) (nI n2++rest)).2=_
     rw[i3,j3];simp;omega
 | @waste a b ha hb hlf hct=>
   intro h1 h2 h3 h4 f rest hf
   have e1:∀f:Nat,treeS kerf l f ((a:Int),(b:Int)) (nI [(0,0)]++rest)=({sm0 with ok:=true},1):=fun f=>by
    show treeS kerf l f ((a:Int),(b:Int)) ((0,0)::rest)=_
    cases f<;>(rw[treeS,if_neg (by omega)];rfl)
   rw[e1]
   refine⟨rfl,?_,rfl⟩
   show(0:Int)=_
   have hVe:=hV ((a:Int),(b:Int)) h1 h3 h2 h4
   have hV0:=V_nonneg (kerf:=kerf) (ws:=wsP l) (kl:=l) hk ((a:Int),(b:Int))
   rw[V_eq hk ha hb]at hVe
   by_cases hz:look t ((a:Int),(b:Int))=0
   ·exact hz.symm
   ·exfalso
    have hpos:0<look t ((a:Int),(b:Int)):=by rw[hV _ h1 h3 h2 h4]at hz⊢;omega
    have hsub:∀x∈cutsL a b,V kerf (wsP l) l (oneB x a b)+V kerf (wsP l) l (twoB kerf x a b)=look t (oneB x a b)+look t (twoB kerf x a b):=fun x hx=>by
     have q1:∀q:Int×Int,q.1≤W→q.2≤Hh→V kerf (wsP l) l q=look t q:=fun q y1 y2=>by
      by_cases hq:1≤q.1∧1≤q.2
      ·exact(hV q hq.1 y1 hq.2 y2).symm
      ·rw[h0 q hq,V_out hq]
     dsimp only at h3 h4
     rcases cuts_of hx with⟨e3,_,_⟩|⟨e4,_,_⟩
     ·rw[q1 _ (by simp only[oneB,e3,if_true];omega) (by simp only[oneB,e3,if_true];omega),q1 _ (by simp only[twoB,e3,if_true];omega) (by simp only[twoB,e3,if_true];omega)]
     ·have q3:¬x.1=3:=by omega
      rw[q1 _ (by simp only[oneB,if_neg q3];omega) (by simp only[oneB,if_neg q3];omega),q1 _ (by simp only[twoB,if_neg q3];omega) (by simp only[twoB,if_neg q3];omega)]
    rcases foldM_att (f:=fun x=>V kerf (wsP l) l (oneB x a b)+V kerf (wsP l) l (twoB kerf x a b)) (xs:=cutsL a b) (m:=leafM (wsP l) (leavesL a b l 0) 0)with h|⟨x,hx,h⟩
    ·rw[h]at hVe
     rcases foldM_att (f:=fun x:Nat×Nat=>(wsP l).getD x.2 0) (xs:=leavesL a b l 0) (m:=0)with g|⟨x,hx,g⟩
     ·have:leafM (wsP l) (leavesL a b l 0) 0=0:=g
      omega
     ·exact hlf x hx (g.symm.trans hVe.symm)
    ·rw[h]at hVe
     exact hct hpos x hx ((hsub x hx).symm.trans hVe.symm)
end Go.A.Pk
end
section
set_option maxRecDepth 100000
namespace Go.A.Pk
variable {T:Nat→Option AFunc}
theorem nI_len(ns:List (Nat×Nat)):(nI ns).length=ns.length:=by simp[nI]
theorem planS_best{kerf:Int}{l:List Kd}{w ht:Int}(hc:chk kerf l=0)(hb:OnB w ht){ns:List (Nat×Nat)}(R:PlanR kerf (wsP l) l (tabP kerf l w ht) (w,ht) ns):(planS kerf l (w,ht) (nI ns)).ok=true∧(planS kerf l (w,ht) (nI ns)).worth=bestV kerf l w ht:=by
 have hk:=(chk_iff.1 hc).2.1.1
 have hbb:=hb
 obtain⟨⟨h1,h2⟩,h3,h4⟩:=hbb
 have:=plan_tree hk (W:=w) (Hh:=ht) (fun q a1 a2 a3 a4=>by rw[look_tabP hc hb,if_pos ⟨a1,a2,a3,a4⟩,bestV_eq hk a1 a3];rfl) (fun q hq=>by rw[look_tabP hc hb,if_neg (fun q1=>hq ⟨q1.1,q1.2.2.1⟩)]) R h1 h3 (Int.le_refl _) (Int.le_refl _) 32 [] (by simp only;omega)
 rw[List.append_nil]at this
 obtain⟨t1,t2,t3⟩:=this
 have e:planS kerf l (w,ht) (nI ns)=(treeS kerf l 32 (w,ht) (nI ns)).1:=by
  unfold planS
  rw[if_pos ⟨t1,by rw[t3,nI_len]⟩]
 rw[e]
 refine⟨t1,t2.trans ?_⟩
 rw[look_tabP hc hb,if_pos ⟨h1,Int.le_refl _,h3,Int.le_refl _⟩]
end Go.A.Pk
end
section
namespace Go.A.Pk
def clK(k:Kd):Kd:={k with worth:=k.w*k.h}
def cl(l:List Kd):List Kd:=l.map clK
def areas(l:List Kd):List Int:=l.map fun k=>k.w*k.h
theorem cl_len(l:List Kd):(cl l).length=l.length:=by simp[cl]
theorem wsP_cl(l:List Kd):wsP (cl l)=areas l:=by simp[wsP,cl,areas,clK]
theorem leavesL_cl(a b:Nat):∀(l:List Kd) (i:Nat),leavesL a b (cl l) i=leavesL a b l i
 |[],_=>rfl
 |k::l,i=>by
  show leafAt (clK k) i a b++leavesL a b (cl l) (i+1)=leafAt k i a b++leavesL a b l (i+1)
  rw[leavesL_cl a b l]
  rfl
theorem val_cl{kerf:Int}{ws:List Int}{l:List Kd}(t:Tab)(a b:Nat):val kerf ws (cl l) t a b=val kerf ws l t a b:=by
 unfold val
 rw[leavesL_cl]
theorem tabL_cl{kerf:Int}{ws:List Int}{l:List Kd}(xs:List (Nat×Nat)):tabL kerf ws (cl l) xs=tabL kerf ws l xs:=by
 unfold tabL
 congr 1
 funext t x
 rw[val_cl]
theorem tabP_cl{kerf:Int}{l:List Kd}(w ht:Int):tabP kerf (cl l) w ht=tabL kerf (areas l) l (boardsL w.toNat ht.toNat):=by
 unfold tabP
 rw[wsP_cl,tabL_cl]
theorem area_bd{k:Kd}(h:Right k):1≤k.w*k.h∧k.w*k.h≤256:=by
 have h1:1*1≤k.w*k.h:=Int.mul_le_mul h.2.1.1 h.2.2.1.1 (by omega) (by have:=h.2.1;omega)
 have h2:k.w*k.h≤16*16:=Int.mul_le_mul h.2.1.2 h.2.2.1.2 (by have:=h.2.2.1;omega) (by omega)
 omega
theorem chk_cl{kerf:Int}{l:List Kd}(h:chk kerf l=0):chk kerf (cl l)=0:=by
 obtain⟨h1,h2,h3,h4⟩:=chk_iff.1 h
 refine chk_iff.2 ⟨by rw[cl_len];exact h1,h2,fun k hk=> ?_,?_⟩
 ·obtain⟨k0,hk0,rfl⟩:=List.mem_map.1 hk
  have:=h3 k0 hk0
  have ha:=area_bd this
  exact⟨this.1,this.2.1,this.2.2.1,by show 0≤k0.w*k0.h;omega,by show k0.w*k0.h≤1000000;omega⟩
 ·unfold cl
  rw[List.pairwise_map]
  exact h4
theorem PlanR_cl{kerf:Int}{l:List Kd}{t:Tab}{p:Int×Int}{ns:List (Nat×Nat)}(R:PlanR kerf (areas l) l t p ns):PlanR kerf (wsP (cl l)) (cl l) t p ns:=by
 induction R with
 |none h=>exact .none h
 |leaf ha hb hx hw=>exact .leaf ha hb (by rw[leavesL_cl];exact hx) (by rw[wsP_cl];exact hw)
 |cut ha hb hx hw _ _ i1 i2=>exact .cut ha hb hx hw i1 i2
 |waste ha hb h1 h2=>exact .waste ha hb (by rw[leavesL_cl,wsP_cl];exact h1) h2
theorem tree_cl{kerf:Int}{l:List Kd}:∀(f:Nat) (p:Int×Int) (ns:List (Nat×Int)),(treeS kerf (cl l) f p ns).1.ok=(treeS kerf l f p ns).1.ok∧(treeS kerf (cl l) f p ns).2=(treeS kerf l f p ns).2∧((treeS kerf l f p ns).1.ok=true→(treeS kerf (cl l) f p ns).1.worth=(treeS kerf l f p ns).1.cells):=by
 have hnode:∀(x:Nat×Int) (p:Int×Int),(nodeS (cl l) x p).1.ok=(nodeS l x p).1.ok∧(nodeS (cl l) x p).2=(nodeS l x p).2∧((nodeS l x p).1.ok=true→(nodeS (cl l) x p).1.worth=(nodeS l x p).1.cells):=by
  intro x p
  unfold nodeS
  split
  ·exact⟨rfl,rfl,fun _=>rfl⟩
  ·split
   ·unfold plankS
    rw[cl_len]
    split
    ·unfold cl
     rw[List.getElem?_map]
     cases l[x.2.toNat]? with
     |none=>exact⟨rfl,rfl,fun _=>rfl⟩
     |some k=>
      refine⟨rfl,rfl,fun h=> ?_⟩
      have h':isP k x.1 p:=of_decide_eq_true h
      show k.w*k.h=p.1*p.2
      rcases h' with⟨_,e1,e2⟩|⟨_,_,e1,e2⟩
      ·rw[e1,e2]
      ·rw[e1,e2,Int.mul_comm]
    ·exact⟨rfl,rfl,fun _=>rfl⟩
   ·exact⟨rfl,rfl,fun _=>rfl⟩
 intro f
 induction f with
 |zero=>
  intro p ns
  cases ns with
  |nil=>exact⟨rfl,rfl,fun _=>rfl⟩
  |cons x ns=>
   simp only[treeS]
   split
   ·exact⟨rfl,rfl,fun _=>rfl⟩
   ·exact hnode x p
 |succ f ih=>
  intro p ns
  cases ns with
  |nil=>exact⟨rfl,rfl,fun _=>rfl⟩
  |cons x ns=>
   simp only[treeS]
   split
   ·split
    ·obtain⟨a1,a2,a3⟩:=ih (oneI x p) ns
     rw[a2]
     obtain⟨b1,b2,b3⟩:=ih (twoI kerf x p) (ns.drop (treeS kerf l f (oneI x p) ns).2)
     generalize treeS kerf l f (twoI kerf x p) (ns.drop (treeS kerf l f (oneI x p) ns).2)=y at*
     generalize treeS kerf (cl l) f (twoI kerf x p) (ns.drop (treeS kerf l f (oneI x p) ns).2)=y' at*
     generalize treeS kerf l f (oneI x p) ns=z at*
     generalize treeS kerf (cl l) f (oneI x p) ns=z' at*
     unfold joinS
     rw[a1]
     by_cases hz:z.1.ok=true
     ·rw[if_pos hz,if_pos hz]
      split
      ·exact⟨a1,by rw[a2],fun _=>a3 hz⟩
      ·rw[b1]
       by_cases hy:y.1.ok=true
       ·rw[if_pos hy,if_pos hy]
        refine⟨rfl,by rw[a2,b2],fun _=> ?_⟩
        show z'.1.worth+y'.1.worth=z.1.cells+y.1.cells
        rw[a3 hz,b3 hy]
       ·rw[if_neg hy,if_neg hy]
        exact⟨rfl,rfl,fun _=>rfl⟩
     ·rw[if_neg hz,if_neg hz]
      exact⟨rfl,rfl,fun _=>rfl⟩
    ·exact⟨rfl,rfl,fun _=>rfl⟩
   ·exact hnode x p
theorem planS_fill{kerf:Int}{l:List Kd}{w ht:Int}(hc:chk kerf l=0)(hb:OnB w ht){ns:List (Nat×Nat)}(R:PlanR kerf (areas l) l (tabP kerf (cl l) w ht) (w,ht) ns):(planS kerf l (w,ht) (nI ns)).ok=true∧(planS kerf l (w,ht) (nI ns)).cells=bestV kerf (cl l) w ht:=by
 obtain⟨h1,h2⟩:=planS_best (chk_cl hc) hb (PlanR_cl R)
 obtain⟨t1,t2,t3⟩:=tree_cl (kerf:=kerf) (l:=l) 32 (w,ht) (nI ns)
 unfold planS at h1 h2⊢
 rw[t1,t2]at h1 h2
 by_cases hq:(treeS kerf l 32 (w,ht) (nI ns)).1.ok=true∧(treeS kerf l 32 (w,ht) (nI ns)).2=(nI ns).length
 ·rw[if_pos hq]at h1 h2⊢
  exact⟨hq.1,by rw[←h2,t3 hq.1]⟩
 ·rw[if_neg hq]at h1
  cases h1
end Go.A.Pk
end
section
set_option maxRecDepth 100000
namespace Go.A.Pk
variable {T:Nat→Option AFunc}
structure FnsFl (T:Nat→Option AFunc):Prop extends FnsW T,FnsPl T where
 f24:T 24=some f24
def areasF(l:List Kd)(i:Nat):List Int:=areas (l.take i)++wsP (l.drop i)
theorem areasF_len(l:List Kd)(i:Nat):(areasF l i).length=l.length:=by
 simp[areasF,areas,wsP];omega
theorem areasF_zero(l:List Kd):areasF l 0=wsP l:=by simp[areasF,areas]
theorem areasF_all(l:List Kd):areasF l l.length=areas l:=by simp[areasF,areas,wsP]
theorem areasF_set{l:List Kd}{i:Nat}{x:Kd}(h:l[i]? =some x):(areasF l i).set i (x.w*x.h)=areasF l (i+1):=by
 obtain⟨hi,rfl⟩:=List.getElem?_eq_some_iff.1 h
 have h1:l.drop i=l[i]::l.drop (i+1):=List.drop_eq_getElem_cons hi
 have h2:(areas (l.take i)).length=i:=by simp[areas];omega
 unfold areasF
 rw[h1,List.take_add_one,h]
 simp only[areas,wsP,List.map_cons,List.map_append,List.map_nil,Option.toList]at*
 rw[List.set_append_right _ _ (by omega),h2,Nat.sub_self,List.set_cons_zero,List.append_assoc]
 rfl
theorem fill_mul{k:Kd}(h:Right k):numOp .mul (.int .i64 k.w) (.int .i64 k.h)=some (.int .i64 (k.w*k.h)):=by
 have:=area_bd h
 simp[numOp,arith,wrapA_i64 (show -9223372036854775808≤k.w*k.h by omega) (show k.w*k.h<9223372036854775808 by omega)]
theorem WslB.full'{lo:Nat}{h:Heap}{q n:Nat}{xs:List Int}(hn:xs.length=n)(a:lo≤q)(b:q<h.next)(c:h.get q=some (.cells (ints xs) true 1))(d:xs≠[]):WslB lo h (.slice (some ⟨q,0,none⟩) n UNK) xs:=by
 subst hn
 exact .full a b c d
def FillO(kerf:Int)(l:List Kd)(w ht:Int)(v:Value)(h:Heap):Prop:=∃ns a c,v= .tuple #[.int .i64 (if asked kerf l (OnB w ht)=0 then w*ht-bestV kerf (cl l) w ht else 0), .slice a ns.length c, .int .i64 (asked kerf l (OnB w ht))]∧SliceOf h 2 (.slice a ns.length c) ns.length (ncs ns)∧(U2 h (.slice a ns.length c)∧(c=UNK∨c<1000000))∧
 (asked kerf l (OnB w ht)=0→PlanR kerf (areas l) l (tabP kerf (cl l) w ht) (w,ht) ns)∧(asked kerf l (OnB w ht)≠0→ns=[])
theorem FillO.log{kerf:Int}{l:List Kd}{w ht:Int}(v:Value)(h':Heap)(m:List Nat)(q:FillO kerf l w ht v h'):FillO kerf l w ht v {h' with log:=m}:=by
 obtain⟨ns,a,c,h1,h2,h3,h4⟩:=q
 exact⟨ns,a,c,h1,h2.log m,h3,h4⟩
theorem FillO.gc{kerf:Int}{l:List Kd}{w ht:Int}{h:Heap}(v:Value)(h1:Heap)(hv:noRef v=true)(q:FillO kerf l w ht v h1):FillO kerf l w ht v h:=by
 obtain⟨ns,a,c,rfl,s,u,r⟩:=q
 have hu:U2 h (.slice a ns.length c):=fun b o n e=>by cases e;simp[noRef,flatL,flat,scalL,scal,scal1]at hv
 refine⟨ns,a,c,rfl,?_,⟨hu,u.2⟩,r⟩
 clear r u hu
 generalize ns.length=n at*
 generalize ncs ns=cs at*
 cases s with
 |nil=>exact .nil
 |mem s _=>simp[noRef,flatL,flat,scalL,scal,scal1]at hv
theorem areas_bd{kerf:Int}{l:List Kd}(hc:chk kerf l=0):∀x∈areas l,0≤x∧x≤1000000:=fun x hx=>by
 obtain⟨k,hk,rfl⟩:=List.mem_map.1 hx
 have:=area_bd ((chk_iff.1 hc).2.2.1 k hk)
 omega
set_option maxHeartbeats 16000000 in
theorem fill24(F:FnsFl T){h:Heap}(hr:Rdy h){a:Option Addr}{n c:Nat}{l:List Kd}(hs:SliceOf h 5 (.slice a n c) n (kcs l))(kerf:Int)(hn:n<1000000)(w ht:Int):
 Al T 24 [.agg #[.slice a n c, .int .i64 kerf], .int .i64 w, .int .i64 ht] h (FillO kerf l w ht):=by
 refine .of F.toFnsW.toFnsE.toFnsA.p F.f24 hr FillO.gc ?_
 have hx:Ext h (h.push (.cells [.slice a n c, .int .i64 kerf] true 1)):=(Ext.refl h).push _
 obtain rfl:n=l.length:=by have:=hs.len;rw[kcs_length]at this;omega
 refine y4 ?_;refine yB ?_;refine yM ?_;refine yM ?_;refine yM ?_;refine y3 ?_;refine wE_seq ?_;refine wE_draw ?_
 refine qN ?_
 refine qM ?_;refine qM ?_
 refine qC ?_
 refine FW.puD (board76 F.toFnsW (.of (hx.wf hr.wf)) w ht) (by apply ra_dropC rfl;apply ra_dropC rfl;apply ra_keepC rfl (rq_quiet rfl (a_loadN (by exact rfl) (by(simp(disch:=first|omega|(simp only[z1,z2];omega))only[z3,z4,z5,z6,z7,z1,z2, *];exact rfl)) (by exact rfl) (by exact rfl)) (by exact sv_agg (by refine sl_cons (s1_slice _ _ _) ?_;refine sl_cons (s1_int _ _) ?_;exact sl_nil))) rfl;exact ra_nil) ?_
 refine wD_new rfl rfl rfl (by exact rfl) (by exact rfl) (by exact rfl) (a_bslice (by exact rfl) (by exact rfl)) (by refine rs_cons (rq_quiet rfl (a_loadN (by exact rfl) (by(simp(disch:=first|omega|(simp only[z1,z2];omega))only[z3,z4,z5,z6,z7,z1,z2, *];exact rfl)) (by exact rfl) (by exact rfl)) (by exact sv_agg (by refine sl_cons (s1_slice _ _ _) ?_;refine sl_cons (s1_int _ _) ?_;exact sl_nil))) ?_;exact rs_nil) ?_
 refine qC ?_
 have hx2:=hx.push (.cells [.bool (decide (OnB w ht))] true 1)
 refine FW.alD (startedO75 F.toFnsW.toFnsE (.of (hx2.wf hr.wf)) ((hs.ext hx2).log []) kerf hn (bl:=[decide (OnB w ht)]) (m:=1) (.mem ⟨Nat.lt_succ_self _,⟨_,_,_,z3 _ _,rfl⟩,rfl⟩ (Nat.le_refl _)) (by omega)) (fun v h' m q=>StartO.logs v h' m q) ?_
 rintro _ h1 hx3 ⟨p,rfl,hst⟩
 rw[startE_one]at hst
 rw[startE_one]
 refine⟨_,by apply ra_dropC rfl;apply ra_dropC rfl;exact ra_nil,?_⟩
 have w1:WF h1:=hx3.wf (hx2.wf hr.wf)
 have hx13:Ext h h1:=hx2.trans hx3
 by_cases ha:asked kerf l (OnB w ht)=0
 ·obtain⟨wv,rfl,gb,hws⟩:=hst ha
  have hP:=asked_zero ha
  obtain⟨q1,q2,q3,q4⟩:=chk_iff.1 hP.1
  have hb:=hP.2
  obtain⟨⟨e1,e2⟩,e3,e4⟩:=hP.2
  obtain⟨wn,rfl⟩:=Int.eq_ofNat_of_zero_le (show 0≤w by omega)
  obtain⟨hn',rfl⟩:=Int.eq_ofNat_of_zero_le (show 0≤ht by omega)
  rw[ha]
  have b0:((h.push (.cells [.slice a l.length c, .int .i64 kerf] true 1)).push (.cells [.bool (decide (OnB wn hn'))] true 1)).next+1<h1.next:=WF.get_lt w1 gb
  generalize hlo:((h.push (.cells [.slice a l.length c, .int .i64 kerf] true 1)).push (.cells [.bool (decide (OnB wn hn'))] true 1)).next=lo at*
  have hlo2:h.next+2=lo:=hlo
  refine qM ?_;refine qE ?_;refine qE ?_
  refine qM ?_;refine qM ?_;refine wD_nil ?_;refine y1 ?_;refine kS_n ?_;refine wE_seq ?_;refine y4 ?_
  refine yM ?_;refine yf ?_;refine y3 ?_;refine yX ?_;refine wE_skip ?_;refine kS_n ?_;refine wE_seq ?_;refine y4 ?_
  refine yM ?_;refine wO_val (a_nilchk (by exact rfl)) ?_;refine yF ?_;refine yF ?_;refine yL ?_;refine yD ?_;refine yM ?_;refine y3 ?_;refine wE_block ?_
  refine wE_loop (fun k e ds h'=>∃(i:Nat) (xs:List Int),i≤l.length∧k=l.length-i∧e=[(1, .int .i64 wn),(2, .int .i64 hn'),(9, .pointer (some ⟨lo+1,0,none⟩)),(30, .slice a l.length c),(31, .int .i64 l.length),(32, .int .i64 i)]∧ds=[]∧Ext h h'∧
   lo+1<h'.next∧h'.get (lo+1)=some (.cells [.slice a l.length c, .int .i64 kerf,wv] true 1)∧WslB (lo+2) h' wv xs∧Nonempty (PLift (xs=areasF l i)))
   ⟨0,wsP l,Nat.zero_le _,rfl,rfl,rfl,hx13,b0,gb,hws,⟨⟨(areasF_zero l).symm⟩⟩⟩ ?_
  clear hst gb hws b0 hlo hx2 hx3 w1 hx13
  rintro k e ds hi ⟨i,xs,hin,rfl,rfl,rfl,hxi,b0,gb,hws,⟨⟨hxs⟩⟩⟩
  by_cases hlt:i<l.length
  ·obtain⟨x,hxl⟩:∃x,l[i]? =some x:=⟨l[i],List.getElem?_eq_getElem (by omega)⟩
   have hs':=hs.ext hxi
   have hmul:=fill_mul (q3 x (List.mem_of_getElem? hxl))
   have hid:PLift (xs.set i (x.w*x.h)=areasF l (i+1)):=⟨by rw[hxs];exact areasF_set hxl⟩
   have hlt2:i<xs.length:=by rw[hxs,areasF_len];exact hlt
   have hle:xs.length<1000000:=by rw[hxs,areasF_len];exact hn
   clear hxs
   rcases hs'.inv with⟨_,_,h0,_⟩|⟨b,o,cap',hv,s,hcap⟩
   ·omega
   ·cases hv
    obtain⟨vs,own,t,g1,g2⟩:=slice_elem s hxl
    cases hws with
    |nil=>cases hlt2
    | @full q _ u1 u2 u3 u5=>
      refine y4 ?_;refine yt ?_;refine y3 ?_;refine wE_seq ?_;refine yY ?_;refine wE_skip ?_;refine kS_n ?_;refine wE_seq ?_;refine wE_block ?_;refine y4 ?_;refine yM ?_;refine wO_val (a_iaddrS (by exact rfl) (by exact rfl) (by omega)) ?_
      refine wO_val (a_loadN (by exact rfl) g1 g2 (by exact rfl)) ?_
      refine wO_val a_new ?_;refine yM ?_;refine yS ?_;refine y3 ?_;refine wE_draw ?_;refine qM ?_;refine wD_quiet rfl rfl rfl (by exact rfl) (by exact rfl) (by exact rfl) (a_nilchk (by exact rfl)) ?_
      refine qF ?_
      refine qL ?_
      refine qM ?_;refine qF ?_
      refine qL ?_
      refine qF ?_
      refine qL ?_
      refine wD_quiet rfl rfl rfl (by exact rfl) (by exact rfl) (by exact rfl) (a_num (by exact rfl) (by exact rfl) (by with_reducible assumption)) ?_;refine wD_quiet rfl rfl rfl (by exact rfl) (by exact rfl) (by exact rfl) (a_iaddrS (by exact rfl) (by exact rfl) (by omega)) ?_
      refine wD_storeA (ws:=ints (xs.set i (x.w*x.h))) rfl rfl rfl (by exact rfl) (by exact rfl) (by exact rfl) (by(simp(disch:=first|omega|(simp only[z1,z2];omega))only[z3,z4,z5,z6,z7,z1,z2, *];exact rfl)) (st_int (by omega)) puts_int (by(simp only[z1,z2];omega)) (by apply ra_dropC rfl;apply ra_dropC rfl;apply ra_dropC rfl;apply ra_dropC rfl;apply ra_dropC rfl;apply ra_dropC rfl;apply ra_dropC rfl;apply ra_dropC rfl;apply ra_dropC rfl;apply ra_dropC rfl;apply ra_dropC rfl;exact ra_nil) ?_
      refine wD_nil ?_;refine y1 ?_;refine kB_n ?_;refine kS_n ?_;refine wE_region ?_;refine yinc ?_;refine yM ?_;refine y3 ?_
      refine⟨l.length-(i+1),by omega,i+1,xs.set i (x.w*x.h),by omega,rfl,rfl,rfl,?_,?_,?_,?_,?_⟩
      ·exact((hxi.push _).wr hxi.next hxi.next).wr (show h.next≤q by omega) (by omega)
      ·(simp only[z1,z2];omega)
      ·(simp(disch:=first|omega|(simp only[z1,z2];omega))only[z3,z4,z5,z6,z7,z1,z2, *];done)
      ·exact .full' List.length_set (by omega) (by(simp only[z1,z2];omega)) (by(simp(disch:=first|omega|(simp only[z1,z2];omega))only[z3,z4,z5,z6,z7,z1,z2, *];done)) (fun e=>by have:=congrArg List.length e;rw[List.length_set]at this;exact u5 (List.length_eq_zero_iff.1 this))
      ·exact⟨⟨hid.down⟩⟩
  ·obtain rfl:i=l.length:=by omega
   obtain rfl:xs=areas l:=hxs.trans (areasF_all l)
   have hlx:(areas l).length=l.length:=by simp[areas]
   obtain⟨wa,wc,hv,hsl⟩:=hws.slice (by omega)
   rw[hlx]at hv hsl
   subst hv
   have w1:=hxi.wf hr.wf
   have hc:=hP.1
   have hbv:look (tabP kerf (cl l) wn hn') ((wn:Int),(hn':Int))=bestV kerf (cl l) wn hn':=rfl
   have hbb:=bestV_bd (chk_cl hc) hb
   have hT:∀q, -1000000000000≤look (tabP kerf (cl l) wn hn') q∧look (tabP kerf (cl l) wn hn') q≤1000000000000:=fun q=>by
    have:=look_tabP_bd (chk_cl hc) hb q
    omega
   have hsub:∀y,0≤y∧y≤256000000→numOp .sub (.int .i64 ((wn:Int)*hn')) (.int .i64 y)=some (.int .i64 ((wn:Int)*hn'-y)):=fun y hy=>by
    have h1:=Int.mul_nonneg (show(0:Int)≤wn by omega) (show(0:Int)≤hn' by omega)
    have h2:=Int.mul_le_mul e2 e4 (by omega) (by omega)
    exact m_sub (by rw[wrapA_i64]<;>omega)
   have hmul:numOp .mul (.int .i64 (wn:Int)) (.int .i64 (hn':Int))=some (.int .i64 ((wn:Int)*hn')):=by
    have h1:=Int.mul_nonneg (show(0:Int)≤wn by omega) (show(0:Int)≤hn' by omega)
    have h2:=Int.mul_le_mul e2 e4 (by omega) (by omega)
    simp[numOp,arith,wrapA_i64 (show -9223372036854775808≤(wn:Int)*hn' by omega) (show(wn:Int)*hn'<9223372036854775808 by omega)]
   have etab:tabP kerf (cl l) wn hn'=tabL kerf (areas l) l (boardsL wn hn'):=by rw[tabP_cl,Int.toNat_natCast,Int.toNat_natCast]
   clear hxs hws
   refine y4 ?_;refine yf ?_;refine y3 ?_;refine wE_seq ?_;refine yX ?_;refine wE_exit ?_;refine kS_e ?_;refine kS_e ?_;refine kB_e ?_;refine kS_n ?_
   refine y4 ?_;refine yM ?_;refine yM ?_;refine yM ?_
   refine yC ?_
   refine FW.al (best83 F.toFnsW.toFnsV (.of w1) (w:=wn) (ht:=hn') (W:=1000000) (ws:=areas l) (by omega) (by omega) (by omega) ⟨by omega,by omega⟩ (by omega) (areas_bd hc) gb ((hs.ext hxi).log []) (hsl.log [])) (fun _ _ _ q=>q) ?_
   rintro _ h2 hx4 ⟨r,rfl,gr⟩
   have w2:=hx4.wf w1
   have hx14:=hxi.trans hx4
   have gb2:=(hx4.old _ (WF.get_lt w1 gb)).trans gb
   have k2:=WF.get_lt w2 gb2
   have k3:=WF.get_lt w2 gr
   have hs2:=hs.ext hx14
   have hsl2:=hsl.ext hx4
   rw[←etab]at gr
   clear hs hsl gb etab
   have hx15:Ext h ((h2.push (.cells [.int .i64 0, .int .i64 0] true 1)).wr h.next h2.next (.cells [.int .i64 wn, .int .i64 hn'] true 1)):=(hx14.push _).wr hx14.next hx14.next
   have hx25:Ext h2 ((h2.push (.cells [.int .i64 0, .int .i64 0] true 1)).wr h.next h2.next (.cells [.int .i64 wn, .int .i64 hn'] true 1)):=((Ext.refl h2).push _).wr (Nat.le_refl _) hx14.next
   refine yM ?_;refine y3 ?_;refine y4 ?_;refine yM ?_;refine yM ?_;refine wO_val (a_build (by exact rfl)) ?_;refine wO_val a_new ?_
   refine yS ?_;refine y3 ?_;refine wE_seq ?_;refine wE_draw ?_;refine qM ?_;refine qM ?_
   refine wD_quiet rfl rfl rfl (by exact rfl) (by exact rfl) (by exact rfl) (a_num (by exact rfl) (by exact rfl) (by with_reducible assumption)) ?_;refine qM ?_
   refine qN ?_
   refine wD_quiet rfl rfl rfl (by exact rfl) (by exact rfl) (by exact rfl) (a_lookup (x:=((wn:Int),(hn':Int))) (by exact rfl) (by exact rfl) (by(simp(disch:=first|omega|(simp only[z1,z2];omega))only[z3,z4,z5,z6,z7,z1,z2, *];exact rfl))) ?_
   rw[hbv]
   have hsub2:=hsub _ hbb
   refine wD_quiet rfl rfl rfl (by exact rfl) (by exact rfl) (by exact rfl) (a_num (by exact rfl) (by exact rfl) (by with_reducible assumption)) ?_;refine qM ?_;refine qM ?_
   refine qN ?_
   refine qC ?_
   refine FW.alD (plan84 F.toFnsPl (by omega) (by omega) hT _ ((wn:Int),(hn':Int)) _ (Nat.le_refl _) e2 e4 (.of (hx15.wf hr.wf)) ⟨(hx25.old _ k2).trans gb2,(hx25.old _ k3).trans gr,(hs2.ext hx25).log [],(hsl2.ext hx25).log []⟩) (fun v h' m q=>PlanQ.log v h' m q) ?_
   rintro _ h3 hx5 ⟨ns,a3,c3,R,rfl,s3,u3⟩
   have gr3:h3.get r=some (.map (ents (tabP kerf (cl l) wn hn'))):=(hx5.old _ (by(simp only[z1,z2];omega))).trans ((hx25.old _ k3).trans gr)
   have g13:h3.get h2.next=some (.cells [.int .i64 wn, .int .i64 hn'] true 1):=(hx5.old _ (by(simp only[z1,z2];omega))).trans (by(simp(disch:=first|omega|(simp only[z1,z2];omega))only[z3,z4,z5,z6,z7,z1,z2, *];exact rfl))
   clear gb2 gr
   refine⟨_,by apply ra_dropC rfl;apply ra_dropC rfl;apply ra_dropC rfl;apply ra_keepC rfl (rq_quiet rfl (a_num (by exact rfl) (by exact rfl) (by with_reducible assumption)) (by exact sv_int _ _)) rfl;apply ra_keepC rfl (rq_quiet rfl (a_lookup (by exact rfl) (by exact rfl) (by assumption)) (by exact sv_int _ _)) rfl;apply ra_keepC rfl (rq_quiet rfl (a_loadN (by exact rfl) (by assumption) (by exact rfl) (by exact rfl)) (by exact sv_agg (by refine sl_cons (s1_int _ _) ?_;refine sl_cons (s1_int _ _) ?_;exact sl_nil))) rfl;apply ra_keepC rfl (rq_quiet rfl (a_mov (by exact rfl)) (by exact sv_map _)) rfl;apply ra_keepC rfl (rq_quiet rfl (a_num (by exact rfl) (by exact rfl) (by with_reducible assumption)) (by exact sv_int _ _)) rfl;apply ra_keepC rfl (rq_quiet rfl (a_mov (by exact rfl)) (by exact sv_int _ _)) rfl;apply ra_keepC rfl (rq_quiet rfl (a_mov (by exact rfl)) (by exact sv_int _ _)) rfl;exact ra_nil,?_⟩
   refine qM ?_;refine qM ?_;refine qM ?_;refine wD_nil ?_
   refine y1 ?_;refine kS_n ?_;refine wE_ret ?_
   exact endA_ret (vs:=[.int .i64 ((wn:Int)*hn'-bestV kerf (cl l) wn hn'), .slice a3 ns.length c3, .int .i64 0]) ((hx15.trans hx5).log.trans hr.log) rfl ⟨ns,a3,c3,by rw[if_pos ha,ha];rfl,s3,u3,fun _=>R,fun q=>absurd ha q⟩
 ·refine qM ?_;refine qE ?_;refine qE ?_
  refine qM ?_;refine qM ?_;refine wD_nil ?_;refine y1 ?_;refine kS_n ?_;refine wE_seq ?_;refine y4 ?_
  refine yM ?_;refine yt ?_;refine y3 ?_;refine yY ?_;refine y4 ?_;refine yM ?_
  refine yM ?_;refine yM ?_;refine yM ?_;refine y3 ?_;refine wE_ret ?_;refine kS_r ?_
  exact endA_ret (vs:=[.int .i64 0, .slice none 0 0, .int .i64 (asked kerf l (OnB w ht))]) (hx13.log.trans hr.log) rfl ⟨[],none,0,by rw[if_neg ha];rfl, .nil,⟨(fun _ _ _ e=>by cases e), .inr (by omega)⟩,fun q=>absurd q ha,fun _=>rfl⟩
end Go.A.Pk
end
