/- Walks of functions, plain laws, the table. -/
import Derived.Test.YtgffeapobcfigaaGreatDoorPU1
import Derived.Test.YtgffeapobcfigaaGreatDoorPD
import Derived.Test.YtgffeapobcfigaaGreatDoorPU0
import Derived.Test.YtgffeapobcfigaaGreatDoorPF
import Derived.Carry
import Derived.Lib.SmallJoins
import Derived.Deep.Slices
import Derived.Deep.Fields
import Derived.Test.YtgffeapobcfigaaGreatDoorPH
import Derived.SizedLaws
import Derived.KernelRfl
import Derived.Lib.LaidTab
import Derived.Test.YtgffeapobcfigaaGreatDoorPT
set_option linter.all false
section
set_option maxRecDepth 100000
namespace Go.A.Pk
variable {T:Nat→Option AFunc}
theorem cells_inG{s:List Nat}{n:Nat}{c:Ce}(h:c∈cellsTo s n):inG c=true:=by
 have:=mem_cells h
 by_cases hc:inG c=true
 ·exact hc
 ·rw[sHas_out hc]at this;cases this
theorem mapS_ok{f:Ce→Ce}{s:List Nat}(hin:∀c,inG c=true→inG (f c)=true):IsS (mapS f s):=mapD_ok fun c hc=>hin c (cells_inG hc)
set_option maxHeartbeats 16000000 in
theorem mapped261(F:FnsMp T){h:Heap}(hr:Rdy h)(hg:Tab h)(h2:2<h.next){s:List Nat}(hs:IsS s){gf:Nat}{cap:Value}{f:Ce→Ce}(hin:∀c,inG c=true→inG (f c)=true)
 (hto:∀H':Heap,WF H'→(∀z,z<h.next→H'.get z=h.get z)→∀c,inG c=true→Pu T gf [ceV c,cap] {H' with log:=[]} (ceV (f c))):
 Pu T 261 [sv s, .func (.func gf) #[] #[cap]] h (.tuple #[sv (mapS f s), .bool true]):=by
 have hp:=F.cp.p
 have hms:=mapS_ok (s:=s) hin
 refine .of hp F.f261 hr (by
  have h1:flat (sv (mapS f s))=true:=sv_noRef _
  show flatL [sv (mapS f s), .bool true]=true
  simp only[flatL,h1,cond_true];rfl) ?_
 have k8:=us_llen hs.len
 have k9:=us_take8 hs.len
 have x0:Ext h (((((h.push (.cells (cellsOf (sv s)) true 1)).push (.cells (cellsOf (.func (.func gf) #[] #[cap])) true 1)).push (.cells (lrep 8 (.int .u64 0)) true 1)).push (.cells [.bool false] true 1)).push (.cells (lrep 8 (.int .u64 0)) true 1)):=(((((Ext.refl h).push _).push _).push _).push _).push _
 have gA:(((((h.push (.cells (cellsOf (sv s)) true 1)).push (.cells (cellsOf (.func (.func gf) #[] #[cap])) true 1)).push (.cells (lrep 8 (.int .u64 0)) true 1)).push (.cells [.bool false] true 1)).push (.cells (lrep 8 (.int .u64 0)) true 1)).get h.next=some (.cells (us s) true 1):=by(simp(disch:=first|omega|(simp only[z1,z2];omega))only[z3,z4,z5,z6,z7,z1,z2];exact rfl)
 have gB:(((((h.push (.cells (cellsOf (sv s)) true 1)).push (.cells (cellsOf (.func (.func gf) #[] #[cap])) true 1)).push (.cells (lrep 8 (.int .u64 0)) true 1)).push (.cells [.bool false] true 1)).push (.cells (lrep 8 (.int .u64 0)) true 1)).get (h.next+1)=some (.cells [.func (.func gf) #[] #[cap]] true 1):=by(simp(disch:=first|omega|(simp only[z1,z2];omega)|(simp only[z1,z2];done)|fail)only[z8,z4,z5,z9,z7,z1,z2,gA];exact rfl)
 have gC:(((((h.push (.cells (cellsOf (sv s)) true 1)).push (.cells (cellsOf (.func (.func gf) #[] #[cap])) true 1)).push (.cells (lrep 8 (.int .u64 0)) true 1)).push (.cells [.bool false] true 1)).push (.cells (lrep 8 (.int .u64 0)) true 1)).get (h.next+2)=some (.cells (us s0) true 1):=by(simp(disch:=first|omega|(simp only[z1,z2];omega)|(simp only[z1,z2];done)|fail)only[z8,z4,z5,z9,z7,z1,z2,gA,gB];exact rfl)
 have gD:(((((h.push (.cells (cellsOf (sv s)) true 1)).push (.cells (cellsOf (.func (.func gf) #[] #[cap])) true 1)).push (.cells (lrep 8 (.int .u64 0)) true 1)).push (.cells [.bool false] true 1)).push (.cells (lrep 8 (.int .u64 0)) true 1)).get (h.next+3)=some (.cells [.bool false] true 1):=by(simp(disch:=first|omega|(simp only[z1,z2];omega)|(simp only[z1,z2];done)|fail)only[z8,z4,z5,z9,z7,z1,z2,gA,gB,gC];done)
 have gE:(((((h.push (.cells (cellsOf (sv s)) true 1)).push (.cells (cellsOf (.func (.func gf) #[] #[cap])) true 1)).push (.cells (lrep 8 (.int .u64 0)) true 1)).push (.cells [.bool false] true 1)).push (.cells (lrep 8 (.int .u64 0)) true 1)).get (h.next+4)=some (.cells (us s0) true 1):=by(simp(disch:=first|omega|(simp only[z1,z2];omega)|(simp only[z1,z2];done)|fail)only[z8,z4,z5,z9,z7,z1,z2,gA,gB,gC,gD];exact rfl)
 have n0:(((((h.push (.cells (cellsOf (sv s)) true 1)).push (.cells (cellsOf (.func (.func gf) #[] #[cap])) true 1)).push (.cells (lrep 8 (.int .u64 0)) true 1)).push (.cells [.bool false] true 1)).push (.cells (lrep 8 (.int .u64 0)) true 1)).next=h.next+5:=rfl
 refine y4 ?_;refine yB ?_;refine yB ?_;refine wO_val (a_new) ?_;refine wO_val (a_new) ?_;refine y3 ?_;refine y4 ?_;refine wO_val (a_new) ?_
 refine y3 ?_
 generalize(((((h.push (.cells (cellsOf (sv s)) true 1)).push (.cells (cellsOf (.func (.func gf) #[] #[cap])) true 1)).push (.cells (lrep 8 (.int .u64 0)) true 1)).push (.cells [.bool false] true 1)).push (.cells (lrep 8 (.int .u64 0)) true 1))=H at*
 have W:=x0.wf hr.wf
 have hL:=x0.log.trans hr.log
 have C:=cells214 F.cp (h:={H with log:=[]}) (.of W) hs
 refine wE_seq ?_;refine y4 ?_;refine wO_val (a_loadN (by exact rfl) (by assumption) (by assumption) (by assumption)) ?_
 refine yC ?_
 refine FW.al C (fun v h' m q=>q) ?_
 rintro _ H1 x1 ⟨q,rfl,gq,q2,q3⟩
 clear C
 have q2:H.next≤q:=q2
 have ey1':=x0.trans x1
 have W1:=ey1'.wf hr.wf
 have hL1:=ey1'.log.trans hr.log
 have n1:=x1.next
 have gB1:=(x1.old _ (by omega)).trans gB
 have gC1:=(x1.old _ (by omega)).trans gC
 have gD1:=(x1.old _ (by omega)).trans gD
 have gE1:=(x1.old _ (by omega)).trans gE
 have hg1:Tab H1:=hg.ext ey1' h2
 clear gA gB gC gD gE
 refine y3 ?_;refine wE_block ?_
 refine wE_rangeX (lo:=h.next+4) (P:=PXo H1.next (h.next+4) H1 (.loop [(3, .pointer (some ⟨h.next+1,0,none⟩)),(4, .pointer (some ⟨h.next+2,0,none⟩)),(5, .pointer (some ⟨h.next+3,0,none⟩)),(6, .pointer (some ⟨h.next+4,0,none⟩)),(10,fnC q)] [11] asg261 bod261 0 .normal) (fun d=>us (mapD f d)) (cellsTo s 512)) (S:=fun _=>False) rfl (by rfl) (by rw[F.cp.f265];rfl) (by omega) (by omega) hL1 W1 ?_ (fun H p=>⟨_,_,_,_,p.loop⟩) (fun H p=>p.elim) ?_ (fun _ _ _ _ _ _ _ p=>p.elim)
 ·have Y:YldX T (h.next+4) (H1.next+1) H1.next ceV (cellsTo s 512) (fun d H'=>PXo H1.next (h.next+4) H1 (.loop [(3, .pointer (some ⟨h.next+1,0,none⟩)),(4, .pointer (some ⟨h.next+2,0,none⟩)),(5, .pointer (some ⟨h.next+3,0,none⟩)),(6, .pointer (some ⟨h.next+4,0,none⟩)),(10,fnC q)] [11] asg261 bod261 0 .normal) (fun d=>us (mapD f d)) d H'∧IsS (mapD f d)) (fun _=>False):=by
   refine⟨fun done x Hh hx hrH hN hP=> ?_,fun done Ha Hb p n e=>⟨PXo.stable (by omega) done Ha Hb p.1 n e,p.2⟩,fun _ _ h=>h,fun _ h=>h.elim⟩
   obtain⟨hP,hd⟩:=hP
   have hxG:=cells_inG hx
   refine FW.mono' (map_round F hrH (lo:=h.next+4) (N:=H1.next+1) (S:=fun _=>False) hd (d:=f x) (hin x hxG) (Nat.le_refl _) (by omega) (by omega) (by omega) hP.loop ((hP.old _ (by omega) (by omega)).trans gB1)
    (fun H' w e=>hto H' w (fun z hz=>(e z (by omega)).trans ((hP.old z (by omega) (by omega)).trans (ey1'.old z hz))) x hxG) hP.val) ?_
   rintro r' H' ⟨r1,r2⟩
   refine⟨r1,r2.imp (fun⟨e,g,o,_⟩=>⟨e,⟨fun z hz hne=>(o z (by omega) hne).trans (hP.old z hz hne),(o _ (by omega) (by omega)).trans hP.loop,?_⟩,?_⟩) id⟩
   ·rw[mapD_snoc];exact g
   ·rw[mapD_snoc];exact hd.putC (hin x hxG)
  have G:=cells265X F.cp (.of (W1.push (.loop [(3, .pointer (some ⟨h.next+1,0,none⟩)),(4, .pointer (some ⟨h.next+2,0,none⟩)),(5, .pointer (some ⟨h.next+3,0,none⟩)),(6, .pointer (some ⟨h.next+4,0,none⟩)),(10,fnC q)] [11] asg261 bod261 0 .normal))) (q0:=q) (l:=H1.next) (N:=H1.next+1) (lo:=h.next+4) hs (Nat.le_refl _) (by show h.next+4≤H1.next+1;omega) (Nat.lt_succ_self _) Y ((z4 (by omega)).trans gq) (fun d H' hP=>(hP.1.old 2 (by omega) (by omega)).trans hg1)
   ⟨⟨fun z hz _=>z4 hz,z3 _ _,(z4 (by omega)).trans gE1⟩,s0_ok⟩
  exact CW.mono G fun r h' ⟨a,v,b,c⟩=>⟨a,v,b,c.imp (fun p=>p.1) id⟩
 intro h4 h5 k1 k2 k3 k4 k5 hP
 have D:=(k5 (h.next+4) (by omega)).trans hP.val
 have D2:=(k5 (h.next+2) (by omega)).trans ((hP.old _ (by omega) (by omega)).trans gC1)
 have D3:=(k5 (h.next+3) (by omega)).trans ((hP.old _ (by omega) (by omega)).trans gD1)
 unfold mapS at*
 generalize mapD f (cellsTo s 512)=z at*
 have ck:=us_take8 hms.len
 have ckl:=us_llen hms.len
 have cko:=us_ones z
 have cks:(us z).length=8:=by rw[us_length,hms.len]
 have ck0:=us_ones s0
 have ck0l:(us s0).length=8:=rfl
 refine kB_n ?_;refine kS_n ?_;refine y4 ?_;refine wO_val (a_loadN (by exact rfl) (by assumption) (by assumption) (by assumption)) ?_;refine wO_val (a_storeAll (by exact rfl) (by exact rfl) (by assumption) (by assumption) (by assumption) (by exact us_ones _)) ?_
 refine wO_val (a_store (by exact rfl) (by exact rfl) (by first|(simp(disch:=first|omega|(simp only[z1,z2];omega))only[z3,z4,z5,z6,z7,z1,z2,gq,gB1,gC1,gD1,gE1,D2,D3,D];exact rfl)|fail) (by exact rfl) (by exact rfl)) ?_;refine y3 ?_;refine wE_ret ?_
 refine endP_ret ?_ (res_cells (own:=true) (s:=1) (l:=us z) rfl ?_ ck ckl (res_cell (own:=true) (s:=1) (ws:=[.bool true]) (v:= .bool true) rfl ?_ rfl rfl)) rfl
 ·rw[Heap.log_wr_new (by show h.next≤h.next+3;omega),Heap.log_wr_new (by show h.next≤h.next+2;omega)];exact k1
 ·(simp(disch:=first|omega|(simp only[z1,z2];omega))only[z3,z4,z5,z6,z7,z1,z2,gq,gB1,gC1,gD1,gE1,D2,D3,D];done)
 ·(simp(disch:=first|omega|(simp only[z1,z2];omega))only[z3,z4,z5,z6,z7,z1,z2,gq,gB1,gC1,gD1,gE1,D2,D3,D];exact rfl)
theorem spin262(F:FnsMp T){h:Heap}(hr:Rdy h){qt t:Nat}(ht:t<24)(g:h.get qt=some (.cells [.int .i64 (t:Nat)] true 1)){c:Ce}(hc:inG c=true):Pu T 262 [ceV c, .pointer (some ⟨qt,0,none⟩)] h (ceV (turnC t c)):=by
 refine .of F.cp.p F.f262 hr rfl ?_
 have kq:=hr.wf.get_lt g
 have W:WF ((h.push (.cells (cellsOf (ceV c)) true 1)).push (.cells [I.O,I.O,I.O] true 1)):=(hr.wf.push _).push _
 have C:=turned263 F.tu (.of W) (inB_iff.1 hc) ht
 have ck:ltake 3 (ldrop 0 (ceL (turnC t c)))=ceL (turnC t c):=rfl
 generalize turnC t c=d at*
 refine y4 ?_;refine yB ?_;refine wO_val (a_new) ?_;refine y3 ?_;refine y4 ?_
 refine yN ?_
 refine yL ?_
 refine yC ?_
 refine FW.pu C ?_
 refine yS ?_;refine y3 ?_;refine wE_ret ?_
 refine endP_ret ?_ (res_cells (own:=true) (s:=1) rfl ?_ ck rfl rfl) rfl
 ·rw[Heap.log_wr_new (by show h.next≤h.next+1;omega)];exact hr.log
 ·(simp(disch:=first|omega|(simp only[z1,z2];omega)|(simp only[z1,z2];done)|fail)only[z8,z4,z5,z9,z7,z1,z2,g];exact rfl)
def spunS(s:List Nat)(t:Nat):List Nat:=mapS (turnC t) s
theorem turn_in{t:Nat}(c:Ce)(h:inG c=true):inG (turnC t c)=true:=inB_iff.2 ((inB_iff.1 h).turn t)
theorem spunS_ok(s:List Nat)(t:Nat):IsS (spunS s t):=mapS_ok turn_in
set_option maxHeartbeats 16000000 in
theorem spun211(F:FnsMp T){h:Heap}(hr:Rdy h)(hg:Tab h)(h2:2<h.next){s:List Nat}(hs:IsS s){t:Nat}(ht:t<24):Pu T 211 [sv s, .int .i64 (t:Nat)] h (sv (spunS s t)):=by
 refine .of F.cp.p F.f211 hr (sv_noRef _) ?_
 have k8:=us_llen hs.len
 have k9:=us_take8 hs.len
 have x0:Ext h (((h.push (.cells (cellsOf (sv s)) true 1)).push (.cells (cellsOf (Value.int .i64 (t:Nat))) true 1)).push (.cells (lrep 8 (.int .u64 0)) true 1)):=(((Ext.refl h).push _).push _).push _
 have gA:(((h.push (.cells (cellsOf (sv s)) true 1)).push (.cells (cellsOf (Value.int .i64 (t:Nat))) true 1)).push (.cells (lrep 8 (.int .u64 0)) true 1)).get h.next=some (.cells (us s) true 1):=by(simp(disch:=first|omega|(simp only[z1,z2];omega))only[z3,z4,z5,z6,z7,z1,z2];exact rfl)
 have gB:(((h.push (.cells (cellsOf (sv s)) true 1)).push (.cells (cellsOf (Value.int .i64 (t:Nat))) true 1)).push (.cells (lrep 8 (.int .u64 0)) true 1)).get (h.next+1)=some (.cells [.int .i64 (t:Nat)] true 1):=by(simp(disch:=first|omega|(simp only[z1,z2];omega)|(simp only[z1,z2];done)|fail)only[z8,z4,z5,z9,z7,z1,z2,gA];exact rfl)
 have gC:(((h.push (.cells (cellsOf (sv s)) true 1)).push (.cells (cellsOf (Value.int .i64 (t:Nat))) true 1)).push (.cells (lrep 8 (.int .u64 0)) true 1)).get (h.next+2)=some (.cells (us s0) true 1):=by(simp(disch:=first|omega|(simp only[z1,z2];omega)|(simp only[z1,z2];done)|fail)only[z8,z4,z5,z9,z7,z1,z2,gA,gB];exact rfl)
 have n0:(((h.push (.cells (cellsOf (sv s)) true 1)).push (.cells (cellsOf (Value.int .i64 (t:Nat))) true 1)).push (.cells (lrep 8 (.int .u64 0)) true 1)).next=h.next+3:=rfl
 refine y4 ?_;refine yB ?_;refine yB ?_;refine wO_val (a_new) ?_;refine y3 ?_
 generalize(((h.push (.cells (cellsOf (sv s)) true 1)).push (.cells (cellsOf (Value.int .i64 (t:Nat))) true 1)).push (.cells (lrep 8 (.int .u64 0)) true 1))=H at*
 have W:=x0.wf hr.wf
 have hL:=x0.log.trans hr.log
 have C:=mapped261 F (h:={H with log:=[]}) (.of W) (show Tab H from hg.ext x0 h2) (by show 2<H.next;omega) hs (gf:=262) (cap:= .pointer (some ⟨h.next+1,0,none⟩)) (f:=turnC t) turn_in
  (fun H' w e c hc=>spin262 F (.of w) ht ((e (h.next+1) (by show h.next+1<H.next;omega)).trans gB) hc)
 have hms:=spunS_ok s t
 unfold spunS at*
 generalize mapS (turnC t) s=z at*
 have ck:=us_take8 hms.len
 have ckl:=us_llen hms.len
 have cko:=us_ones z
 have cks:(us z).length=8:=by rw[us_length,hms.len]
 have ck0:=us_ones s0
 have ck0l:(us s0).length=8:=rfl
 refine y4 ?_;refine wO_val (a_loadN (by exact rfl) (by assumption) (by assumption) (by assumption)) ?_;refine wO_val (a_mkFunc (by exact rfl) (by exact rfl)) ?_
 refine yC ?_
 refine FW.pu C ?_
 clear C
 refine yM ?_;refine yE ?_;refine yE ?_;refine wO_val (a_new) ?_
 refine wO_val (a_storeAll (by exact rfl) (by exact rfl) (by(simp(disch:=first|omega|(simp only[z1,z2];omega))only[z3,z4,z5,z6,z7,z1,z2,gA,gB,gC];exact rfl)) (by assumption) (by assumption) (by exact us_ones _)) ?_;refine yM ?_
 refine y3 ?_;refine y4 ?_
 refine wO_val (a_loadN (by exact rfl) (by(simp(disch:=first|omega|(simp only[z1,z2];omega))only[z3,z4,z5,z6,z7,z1,z2,gA,gB,gC];exact rfl)) (by assumption) (by assumption)) ?_
 refine wO_val (a_storeAll (by exact rfl) (by exact rfl) (by(simp(disch:=first|omega|(simp only[z1,z2];omega))only[z3,z4,z5,z6,z7,z1,z2,gA,gB,gC];exact rfl)) (by assumption) (by assumption) (by exact us_ones _)) ?_;refine y3 ?_;refine wE_ret ?_
 refine endP_ret ?_ (res_cells (own:=true) (s:=1) (l:=us z) rfl ?_ ck ckl rfl) rfl
 ·rw[Heap.log_wr_new (by show h.next≤h.next+2;omega),Heap.log_wr_new (by first|omega|(show h.next≤H.next;omega))];exact hL
 ·(simp(disch:=first|omega|(simp only[z1,z2];omega))only[z3,z4,z5,z6,z7,z1,z2,gA,gB,gC];done)
end Go.A.Pk
end
section
set_option maxRecDepth 100000
namespace Go.A.Pk
variable {T:Nat→Option AFunc}
def shP(p:Nat)(k:Int):Nat:=if 0≤k then Nat.mod (Nat.shiftLeft p k.toNat) 18446744073709551616 else Nat.shiftRight p (-k).toNat
theorem shP_lt{p:Nat}{k:Int}(hp:p<U64):shP p k<U64:=by
 unfold shP
 split
 ·exact Nat.mod_lt _ (by decide)
 ·exact Nat.lt_of_le_of_lt (Nat.shiftRight_le _ _) hp
def liftN(s:List Nat)(a:Nat)(z k:Int):Nat→List Nat
 |0=>s0
 |n+1=>(liftN s a z k n).set (((a+n:Nat):Int)+z).toNat (shP (s.getD (a+n) 0) k)
theorem liftN_ok{s:List Nat}(hs:IsS s)(a:Nat)(z k:Int):∀n,IsS (liftN s a z k n)
 |0=>s0_ok
 |n+1=>by
  have ih:=liftN_ok hs a z k n
  refine⟨by unfold liftN;rw[List.length_set];exact ih.len,fun x hx=> ?_⟩
  unfold liftN at hx
  rcases List.mem_or_eq_of_mem_set hx with h|h
  ·exact ih.lt x h
  ·rw[h];exact shP_lt (hs.getD_lt _)
def liftS(s:List Nat)(b:Bx)(x y z:Int):List Nat:=liftN s b.lo.z.toNat z (8*y+x) (b.hi.z-b.lo.z+1).toNat
theorem m_shl{p n:Nat}(hn:n<64):numOp .shl (.int .u64 (p:Nat)) (.int .i64 (n:Nat))=some (.int .u64 ((Nat.mod (Nat.shiftLeft p n) 18446744073709551616:Nat):Int)):=by
 have e1:((n:Nat):Int)=Int.ofNat n:=rfl
 have e2:((p:Nat):Int)=Int.ofNat p:=rfl
 rw[e1,e2]
 have:numOp .shl (.int .u64 (Int.ofNat p)) (.int .i64 (Int.ofNat n))=some (.int .u64 (.ofNat (Nat.mod (Nat.shiftLeft p (Nat.min n 64)) 18446744073709551616))):=rfl
 rw[this,show Nat.min n 64=n from Nat.min_eq_left (by omega)]
 rfl
def psL(s:List Nat)(b:Bx):List Value:=us s++bxL b
def psV(s:List Nat)(b:Bx):Value:= .agg (psL s b).toArray
theorem psL_box{s:List Nat}{b:Bx}(hs:IsS s)(j:Nat):lget (psL s b) (8+j)=lget (bxL b) j:=by
 rw[lget_eq,lget_eq]
 unfold psL
 rw[List.getElem?_append_right (by rw[us_length,hs.len];omega),us_length,hs.len,Nat.add_sub_cancel_left]
theorem psL_pl{s:List Nat}{b:Bx}(hs:IsS s){i:Nat}(hi:i<8):lget (psL s b) (0+0+i*1)=some (.int .u64 ((s.getD i 0:Nat):Int)):=by
 rw[lget_eq,show 0+0+i*1=i by omega]
 unfold psL
 rw[List.getElem?_append_left (by rw[us_length,hs.len];omega)]
 unfold us
 rw[List.getElem?_map,getD_at (by rw[hs.len];exact hi)];rfl
structure FnsLi (T:Nat→Option AFunc):Prop where
 p:primAS T
 f212:T 212=some f212
set_option maxHeartbeats 16000000 in
theorem lifted212(F:FnsLi T){h:Heap}(hr:Rdy h){s:List Nat}(hs:IsS s){b:Bx}{x y z:Int}(hx: -7≤x∧x≤7)(hy: -7≤y∧y≤7)(hz: -7≤z∧z≤7)(hlo:0≤b.lo.z∧b.lo.z≤7)(hhi:0≤b.hi.z∧b.hi.z≤7)(hl:0≤b.lo.z+z)(hh:b.hi.z+z≤7):
 Pu T 212 [psV s b, .int .i64 x, .int .i64 y, .int .i64 z] h (sv (liftS s b x y z)):=by
 refine .of F.p F.f212 hr (sv_noRef _) ?_
 unfold liftS
 have hb:bxL b=[.int .i64 b.lo.x, .int .i64 b.lo.y, .int .i64 b.lo.z, .int .i64 b.hi.x, .int .i64 b.hi.y, .int .i64 b.hi.z]:=rfl
 have eA:lget (psL s b) (0+8+0+2)=some (.int .i64 b.lo.z):=by rw[show 0+8+0+2=8+2 by omega,psL_box hs];rfl
 have eB:lget (psL s b) (0+8+3+2)=some (.int .i64 b.hi.z):=by rw[show 0+8+3+2=8+5 by omega,psL_box hs];rfl
 obtain⟨a,ha⟩:=Int.eq_ofNat_of_zero_le hlo.1
 obtain⟨c,hc⟩:=Int.eq_ofNat_of_zero_le hhi.1
 rw[ha]at eA hlo hl
 rw[hc]at eB hhi hh
 have eP:=fun i hi=>psL_pl (s:=s) (b:=b) hs (i:=i) hi
 have hcells:cellsOf (psV s b)=psL s b:=by show(psL s b).toArray.toList=_;simp
 have x0:Ext h (((h.push (.cells (cellsOf (psV s b)) true 1)).push (.cells (lrep 8 (.int .u64 0)) true 1)).push (.cells (lrep 8 (.int .u64 0)) true 1)):=(((Ext.refl h).push _).push _).push _
 have gA:(((h.push (.cells (cellsOf (psV s b)) true 1)).push (.cells (lrep 8 (.int .u64 0)) true 1)).push (.cells (lrep 8 (.int .u64 0)) true 1)).get h.next=some (.cells (psL s b) true 1):=by rw[hcells];(simp(disch:=first|omega|(simp only[z1,z2];omega))only[z3,z4,z5,z6,z7,z1,z2];done)
 have gB:(((h.push (.cells (cellsOf (psV s b)) true 1)).push (.cells (lrep 8 (.int .u64 0)) true 1)).push (.cells (lrep 8 (.int .u64 0)) true 1)).get (h.next+1)=some (.cells (us s0) true 1):=by(simp(disch:=first|omega|(simp only[z1,z2];omega)|(simp only[z1,z2];done)|fail)only[z8,z4,z5,z9,z7,z1,z2,gA];exact rfl)
 have gC:(((h.push (.cells (cellsOf (psV s b)) true 1)).push (.cells (lrep 8 (.int .u64 0)) true 1)).push (.cells (lrep 8 (.int .u64 0)) true 1)).get (h.next+2)=some (.cells (us s0) true 1):=by(simp(disch:=first|omega|(simp only[z1,z2];omega)|(simp only[z1,z2];done)|fail)only[z8,z4,z5,z9,z7,z1,z2,gA,gB];exact rfl)
 have n0:(((h.push (.cells (cellsOf (psV s b)) true 1)).push (.cells (lrep 8 (.int .u64 0)) true 1)).push (.cells (lrep 8 (.int .u64 0)) true 1)).next=h.next+3:=rfl
 refine y4 ?_;refine yB ?_;refine wO_val (a_new) ?_;refine y3 ?_;refine y4 ?_;refine wO_val (a_new) ?_;refine y3 ?_
 generalize(((h.push (.cells (cellsOf (psV s b)) true 1)).push (.cells (lrep 8 (.int .u64 0)) true 1)).push (.cells (lrep 8 (.int .u64 0)) true 1))=H at*
 have hL:=x0.log.trans hr.log
 rw[ha,hc]
 have m1:numOp .mul (.int .i64 8) (.int .i64 y)=some (.int .i64 (8*y)):=m_mul (by omega) (by omega)
 have m2:numOp .add (.int .i64 (8*y)) (.int .i64 x)=some (.int .i64 (8*y+x)):=m_add (wrapA_i64 (by omega) (by omega))
 refine wE_seq ?_;refine y4 ?_;refine yF ?_;refine yF ?_;refine yF ?_;refine wO_val (a_load (by exact rfl) (by assumption) (by assumption)) ?_;refine yM ?_;refine y3 ?_;refine wE_block ?_
 refine wE_loop (fun m e ds h'=>∃n:Nat,(a+n≤c+1∨n=0)∧8-n=m∧e=[(1, .int .i64 x),(2, .int .i64 y),(3, .int .i64 z),(4, .pointer (some ⟨h.next,0,none⟩)),(8, .pointer (some ⟨h.next+1,0,none⟩)),(9, .pointer (some ⟨h.next+2,0,none⟩)),(10, .int .i64 ((a+n:Nat):Int))]∧ds=[]∧Ext h h'∧h'.get h.next=some (.cells (psL s b) true 1)∧h'.get (h.next+1)=some (.cells (us s0) true 1)∧h'.get (h.next+2)=some (.cells (us (liftN s a z (8*y+x) n)) true 1))
  ⟨0, .inr rfl,rfl,rfl,rfl,x0,gA,gB,gC⟩ ?_
 rintro m e ds h' ⟨n,hn,rfl,rfl,rfl,xx,g1,g2,g3⟩
 have hso:=liftN_ok hs a z (8*y+x) n
 by_cases hlt:a+n≤c
 ·have m3:numOp .leq (.int .i64 ((a+n:Nat):Int)) (.int .i64 (c:Nat))=some (.bool true):=m_leqT (by omega)
  obtain⟨w,hw⟩:=Int.eq_ofNat_of_zero_le (show 0≤((a+n:Nat):Int)+z by omega)
  have hw8:w<8:=by omega
  have m4:numOp .add (.int .i64 ((a+n:Nat):Int)) (.int .i64 z)=some (.int .i64 ((w:Nat):Int)):=m_add (by rw[wrapA_i64 (by omega) (by omega)];omega)
  have e1:=eP (a+n) (by omega)
  have hstep:liftN s a z (8*y+x) (n+1)=(liftN s a z (8*y+x) n).set w (shP (s.getD (a+n) 0) (8*y+x)):=by
   rw[liftN,hw];rfl
  have hnx:=xx.next
  by_cases hk:0≤8*y+x
  ·obtain⟨k,hk2⟩:=Int.eq_ofNat_of_zero_le hk
   have hk3:k<64:=by omega
   rw[hk2]at m2 hstep hso g3⊢
   have m5:numOp .geq (.int .i64 ((k:Nat):Int)) (.int .i64 0)=some (.bool true):=m_geqT (by omega)
   have m6:=m_shl (p:=s.getD (a+n) 0) hk3
   have hsh:shP (s.getD (a+n) 0) ((k:Nat):Int)=Nat.mod (Nat.shiftLeft (s.getD (a+n) 0) k) 18446744073709551616:=by
    unfold shP
    rw[if_pos (by omega)];rfl
   rw[←hsh]at m6
   have kw:=us_put (o:=liftN s a z ((k:Nat):Int) n) (z:=w) (v:=shP (s.getD (a+n) 0) ((k:Nat):Int)) (by rw[hso.len];exact hw8)
   rw[←hstep]at kw
   have kc:(Nat.beq (llen (cellsOf (.int .u64 ((shP (s.getD (a+n) 0) ((k:Nat):Int):Nat):Int)))) 1&&Nat.ble (0+w*1+1) (llen (us (liftN s a z ((k:Nat):Int) n)))&&ones (cellsOf (.int .u64 ((shP (s.getD (a+n) 0) ((k:Nat):Int):Nat):Int))))=true:=by
    rw[llen_eq (us _),us_length,hso.len,nble_of (by omega)];rfl
   have hn8:n<8:=by omega
   refine wE_seq ?_;refine y4 ?_;refine yM ?_;refine yF ?_;refine yF ?_;refine yF ?_;refine wO_val (a_load (by exact rfl) (by assumption) (by assumption)) ?_;refine wO_val (a_num (by exact rfl) (by exact rfl) (by with_reducible assumption)) ?_
   refine y3 ?_;refine yY ?_;refine wE_skip ?_;refine kS_n ?_;refine wE_seq ?_;refine wE_block ?_;refine y4 ?_;refine yM ?_
   refine wO_val (a_num (by exact rfl) (by exact rfl) (by with_reducible assumption)) ?_;refine yM ?_;refine wO_val (a_num (by exact rfl) (by exact rfl) (by with_reducible assumption)) ?_;refine yM ?_;refine y3 ?_
   refine y4 ?_;refine yM ?_;refine wO_val (a_num (by exact rfl) (by exact rfl) (by with_reducible assumption)) ?_;refine y3 ?_;refine yY ?_;refine wE_region ?_;refine yM ?_
   refine yM ?_;refine wO_val (a_num (by exact rfl) (by exact rfl) (by with_reducible assumption)) ?_;refine yM ?_;refine yF ?_;refine wO_val (a_iaddrA (by exact rfl) (by exact rfl) (by omega)) ?_;refine wO_val (a_load (by exact rfl) (by assumption) (by assumption)) ?_;refine yM ?_
   refine wO_val (a_num (by exact rfl) (by exact rfl) (by with_reducible assumption)) ?_;refine wO_val (a_iaddrA (by exact rfl) (by exact rfl) (by omega)) ?_
   refine wO_val (a_store (by exact rfl) (by exact rfl) g3 kc kw) ?_
   refine wO_nil ?_;refine y1 ?_;refine kB_n ?_;refine kS_n ?_;refine wE_region ?_;refine yM ?_;refine yinc ?_;refine yM ?_;refine y3 ?_
   exact⟨8-(n+1),by omega,n+1, .inl (by omega),rfl,rfl,rfl,⟨xx.next,(Heap.log_wr_new (by omega)).trans xx.log,fun b hb=>(z5 (by omega)).trans (xx.old b hb),fun w=>(xx.wf w).as (AS.wr h.next _ _ _)⟩,(z5 (by omega)).trans g1,(z5 (by omega)).trans g2,Heap.get_wr_new g3⟩
  ·obtain⟨k,hk2⟩:=Int.eq_ofNat_of_zero_le (show 0≤ -(8*y+x)by omega)
   have hk3:k<64:=by omega
   have m5:numOp .geq (.int .i64 (8*y+x)) (.int .i64 0)=some (.bool false):=m_geqF (by omega)
   have m7:unOpA .neg (.int .i64 (8*y+x))=some (.int .i64 ((k:Nat):Int)):=by
    show some (Value.int .i64 (wrapA .i64 (0-(8*y+x))))=_
    rw[wrapA_i64 (by omega) (by omega)]
    congr 2;omega
   have m6:numOp .shr (.int .u64 ((s.getD (a+n) 0:Nat):Int)) (.int .i64 ((k:Nat):Int))=_:=m_shr (a:=s.getD (a+n) 0) (n:=k) (by omega)
   have hsh:shP (s.getD (a+n) 0) (8*y+x)=Nat.shiftRight (s.getD (a+n) 0) k:=by
    unfold shP
    rw[if_neg hk,show(-(8*y+x)).toNat=k by omega]
   rw[←hsh]at m6
   have kw:=us_put (o:=liftN s a z (8*y+x) n) (z:=w) (v:=shP (s.getD (a+n) 0) (8*y+x)) (by rw[hso.len];exact hw8)
   rw[←hstep]at kw
   have kc:(Nat.beq (llen (cellsOf (.int .u64 ((shP (s.getD (a+n) 0) (8*y+x):Nat):Int)))) 1&&Nat.ble (0+w*1+1) (llen (us (liftN s a z (8*y+x) n)))&&ones (cellsOf (.int .u64 ((shP (s.getD (a+n) 0) (8*y+x):Nat):Int))))=true:=by
    rw[llen_eq (us _),us_length,hso.len,nble_of (by omega)];rfl
   have hn8:n<8:=by omega
   refine wE_seq ?_;refine y4 ?_;refine yM ?_;refine yF ?_;refine yF ?_;refine yF ?_;refine wO_val (a_load (by exact rfl) (by assumption) (by assumption)) ?_;refine wO_val (a_num (by exact rfl) (by exact rfl) (by with_reducible assumption)) ?_
   refine y3 ?_;refine yY ?_;refine wE_skip ?_;refine kS_n ?_;refine wE_seq ?_;refine wE_block ?_;refine y4 ?_;refine yM ?_
   refine wO_val (a_num (by exact rfl) (by exact rfl) (by with_reducible assumption)) ?_;refine yM ?_;refine wO_val (a_num (by exact rfl) (by exact rfl) (by with_reducible assumption)) ?_;refine yM ?_;refine y3 ?_
   refine y4 ?_;refine yM ?_;refine wO_val (a_num (by exact rfl) (by exact rfl) (by with_reducible assumption)) ?_;refine y3 ?_;refine yX ?_;refine wE_region ?_;refine yM ?_
   refine yM ?_;refine wO_val (a_num (by exact rfl) (by exact rfl) (by with_reducible assumption)) ?_;refine yM ?_;refine yF ?_;refine wO_val (a_iaddrA (by exact rfl) (by exact rfl) (by omega)) ?_;refine wO_val (a_load (by exact rfl) (by assumption) (by assumption)) ?_;refine yM ?_
   refine wO_val (a_un (by exact rfl) (by assumption)) ?_;refine wO_val (a_num (by exact rfl) (by exact rfl) (by with_reducible assumption)) ?_;refine wO_val (a_iaddrA (by exact rfl) (by exact rfl) (by omega)) ?_
   refine wO_val (a_store (by exact rfl) (by exact rfl) g3 kc kw) ?_
   refine wO_nil ?_;refine y1 ?_;refine kB_n ?_;refine kS_n ?_;refine wE_region ?_;refine yM ?_;refine yinc ?_;refine yM ?_;refine y3 ?_
   exact⟨8-(n+1),by omega,n+1, .inl (by omega),rfl,rfl,rfl,⟨xx.next,(Heap.log_wr_new (by omega)).trans xx.log,fun b hb=>(z5 (by omega)).trans (xx.old b hb),fun w=>(xx.wf w).as (AS.wr h.next _ _ _)⟩,(z5 (by omega)).trans g1,(z5 (by omega)).trans g2,Heap.get_wr_new g3⟩
 ·have m3:numOp .leq (.int .i64 ((a+n:Nat):Int)) (.int .i64 (c:Nat))=some (.bool false):=m_leqF (by omega)
  rw[show((a:Nat):Int).toNat=a by omega,show(((c:Nat):Int)-((a:Nat):Int)+1).toNat=n by omega]
  generalize liftN s a z (8*y+x) n=o at*
  have ck:=us_take8 hso.len
  have ckl:=us_llen hso.len
  have cko:=us_ones o
  have cks:(us o).length=8:=by rw[us_length,hso.len]
  have ck0l:(us s0).length=8:=rfl
  refine wE_seq ?_;refine y4 ?_;refine yM ?_;refine yF ?_;refine yF ?_;refine yF ?_;refine wO_val (a_load (by exact rfl) (by assumption) (by assumption)) ?_;refine wO_val (a_num (by exact rfl) (by exact rfl) (by with_reducible assumption)) ?_
  refine y3 ?_;refine yX ?_;refine wE_exit ?_;refine kS_e ?_;refine kS_e ?_;refine kB_e ?_;refine kS_n ?_;refine y4 ?_;refine wO_val (a_loadN (by exact rfl) (by assumption) (by assumption) (by assumption)) ?_
  refine wO_val (a_storeAll (by exact rfl) (by exact rfl) (by assumption) (by assumption) (by assumption) (by exact us_ones _)) ?_;refine y3 ?_;refine wE_ret ?_
  refine endP_ret ?_ (res_cells (own:=true) (s:=1) (l:=us o) rfl ?_ ck ckl rfl) rfl
  ·rw[Heap.log_wr_new (by show h.next≤h.next+1;omega)];exact xx.log.trans hr.log
  ·(simp(disch:=first|omega|(simp only[z1,z2];omega))only[z3,z4,z5,z6,z7,z1,z2,gA,gB,gC,g1,g2,g3];done)
end Go.A.Pk
end
section
set_option maxRecDepth 100000
namespace Go.A.Pk
variable {T:Nat→Option AFunc}
structure FnsCo (T:Nat→Option AFunc):Prop where
 p:primAS T
 f188:T 188=some f188
 f254:T 254=some f254
def cntS(s:List Nat):Nat:=(cellsTo s 512).length
set_option maxHeartbeats 4000000 in
theorem count188(F:FnsCo T){h:Heap}(hr:Rdy h){s:List Nat}(hs:IsS s):Pu T 188 [sv s] h (.int .i64 ((cntS s:Nat):Int)):=by
 refine .of F.p F.f188 hr rfl ?_
 have k8:=us_llen hs.len
 have k9:=us_take8 hs.len
 have W:=hr.wf.push (.cells (cellsOf (sv s)) true 1)
 have hl5:=cellsTo_le s 512
 unfold cntS
 refine y4 ?_;refine yB ?_;refine yM ?_;refine y3 ?_;refine y4 ?_;refine yM ?_;refine y3 ?_;refine wE_seq ?_;refine y4 ?_
 refine wO_val (a_loadN (by exact rfl) (by(simp(disch:=first|omega|(simp only[z1,z2];omega))only[z3,z4,z5,z6,z7,z1,z2];exact rfl)) (by assumption) (by assumption)) ?_;refine yM ?_;refine y3 ?_;refine wE_block ?_
 refine wE_loop (fun m e ds h'=>∃z:Nat,z≤8∧8-z=m∧e=[(3, .int .i64 (((cellsTo s (z*64)).length:Nat):Int)),(6,sv s),(7, .int .i64 (z:Nat))]∧ds=[]∧h.push (.cells (cellsOf (sv s)) true 1)=h')
  ⟨0,by omega,rfl,rfl,rfl,rfl⟩ ?_
 rintro m e ds h' ⟨z,hz8,rfl,rfl,rfl,rfl⟩
 by_cases hz:z<8
 ·have e1:lget (us s).toArray.toList (z*1)=some (.int .u64 ((s.getD z 0:Nat):Int)):=by
   rw[List.toList_toArray,Nat.mul_one,lget_eq]
   unfold us
   rw[List.getElem?_map,getD_at (by rw[hs.len];exact hz)];rfl
  have C:=ones254 F.p F.f254 (.of W) (hs.getD_lt z)
  have hplane:=cellsTo_plane s hz
  have hle:=cellsTo_le s (z*64)
  have hpl:(planeC s z).length=(bitsOf (s.getD z 0)).length:=by unfold planeC;rw[List.length_map]
  have hb64:(bitsOf (s.getD z 0)).length≤64:=by
   unfold bitsOf
   exact Nat.le_trans (List.length_filter_le ..) (by simp)
  have m1:numOp .add (.int .i64 (((cellsTo s (z*64)).length:Nat):Int)) (.int .i64 (((bitsOf (s.getD z 0)).length:Nat):Int))=some (.int .i64 (((cellsTo s ((z+1)*64)).length:Nat):Int)):=by
   rw[hplane,List.length_append,hpl]
   exact m_add (by rw[wrapA_i64 (by omega) (by omega)];omega)
  generalize(bitsOf (s.getD z 0)).length=c3 at*
  refine y4 ?_;refine yt ?_;refine y3 ?_;refine wE_seq ?_;refine yY ?_;refine wE_skip ?_;refine kS_n ?_;refine wE_seq ?_;refine wE_block ?_;refine y4 ?_;refine wO_val (a_idxA (by exact rfl) (by exact rfl) (by omega) (by assumption)) ?_;refine yM ?_;refine y3 ?_;refine wE_region ?_;refine yM ?_;refine yM ?_
  refine yC ?_
  refine FW.pu C ?_
  clear C
  refine wO_val (a_num (by exact rfl) (by exact rfl) (by with_reducible assumption)) ?_;refine yM ?_;refine wO_nil ?_;refine y1 ?_;refine kB_n ?_;refine kS_n ?_;refine wE_region ?_;refine yinc ?_
  refine yM ?_;refine y3 ?_
  exact⟨8-(z+1),by omega,z+1,by omega,rfl,rfl,rfl,rfl⟩
 ·obtain rfl:z=8:=by omega
  rw[show 8*64=512 from rfl]
  generalize(cellsTo s 512).length=c at*
  refine y4 ?_;refine yf ?_;refine y3 ?_;refine wE_seq ?_;refine yX ?_;refine wE_exit ?_;refine kS_e ?_;refine kS_e ?_;refine kB_e ?_;refine kS_n ?_
  refine y4 ?_;refine yM ?_;refine yM ?_;refine y3 ?_;refine wE_ret ?_
  exact endP_ret hr.log rfl rfl
structure Fi where
 t:Nat
 x:Int
 y:Int
 z:Int
 s:List Nat
def moV(t x y z:Int):Value:= .agg #[.int .i64 t, .int .i64 x, .int .i64 y, .int .i64 z]
def fiV(f:Fi):List Value:=[moV f.t f.x f.y f.z,sv f.s]
def zrN(lo:Int)(n:Nat):List Int:=(List.range n).map fun i=>lo+(i:Nat)
theorem zrN_succ(lo:Int)(n:Nat):zrN lo (n+1)=zrN lo n++[lo+(n:Nat)]:=by unfold zrN;rw[List.range_succ,List.map_append];rfl
def zr(lo hi:Int):List Int:=zrN lo (hi-lo+1).toNat
def tryX(a p:List Nat)(bp:Bx)(t:Nat)(z y x:Int):List Fi:=if sIn (liftS p bp x y z) a then [⟨t,x,y,z,liftS p bp x y z⟩]else []
def fitX(a p:List Nat)(ra bp:Bx)(t:Nat)(z y:Int):List Fi:=(zr (ra.lo.x-bp.lo.x) (ra.hi.x-bp.hi.x)).flatMap (tryX a p bp t z y)
def fitY(a p:List Nat)(ra bp:Bx)(t:Nat)(z:Int):List Fi:=(zr (ra.lo.y-bp.lo.y) (ra.hi.y-bp.hi.y)).flatMap (fitX a p ra bp t z)
def fitZ(a p:List Nat)(ra bp:Bx)(t:Nat):List Fi:=(zr (ra.lo.z-bp.lo.z) (ra.hi.z-bp.hi.z)).flatMap (fitY a p ra bp t)
def fitT(a b:List Nat)(t:Nat):List Fi:=fitZ a (spunS b t) (bndS a).1 (bndS (spunS b t)).1 t
def fitsL(a b:List Nat):List Fi:=if a=s0∨cntS a<cntS b then []else(List.range 24).flatMap (fitT a b)
structure InBx (b:Bx):Prop where
 lo:InB b.lo
 hi:InB b.hi
theorem mi_in{a b:Int}(ha:0≤a∧a≤7)(hb:0≤b∧b≤7):0≤mi a b∧mi a b≤7:=by unfold mi;split<;>assumption
theorem mx_in{a b:Int}(ha:0≤a∧a≤7)(hb:0≤b∧b≤7):0≤mx a b∧mx a b≤7:=by unfold mx;split<;>assumption
theorem InBx.up{b:Bx}(h:InBx b){c:Ce}(hc:InB c):InBx (bxUp b c):=
 ⟨⟨mi_in h.lo.x hc.x,mi_in h.lo.y hc.y,mi_in h.lo.z hc.z⟩,⟨mx_in h.hi.x hc.x,mx_in h.hi.y hc.y,mx_in h.hi.z hc.z⟩⟩
theorem bxS_in:∀{l:List Ce},(∀c∈l,InB c)→InBx (bxS l):=by
 intro l
 have:∀(l:List Ce) (b:Bx),InBx b→(∀c∈l,InB c)→InBx (l.foldl bxUp b):=by
  intro l
  induction l with
  |nil=>intro b hb _;exact hb
  |cons c l ih=>intro b hb hl;exact ih _ (hb.up (hl c List.mem_cons_self)) fun x hx=>hl x (List.mem_cons_of_mem _ hx)
 exact fun hl=>this l bx0 ⟨⟨by decide,by decide,by decide⟩,⟨by decide,by decide,by decide⟩⟩ hl
theorem bndS_in(s:List Nat):InBx (bndS s).1:=by
 unfold bndS
 split
 ·exact⟨⟨by decide,by decide,by decide⟩,⟨by decide,by decide,by decide⟩⟩
 ·exact bxS_in fun c hc=>inB_iff.1 (cells_inG hc)
structure FnsFt (T:Nat→Option AFunc):Prop where
 mp:FnsMp T
 bd:FnsBd T
 li:FnsLi T
 co:FnsCo T
 f35:T 35=some f35
 f121:T 121=some f121
 f209:T 209=some f209
end Go.A.Pk
end
section
set_option maxRecDepth 100000
namespace Go.A.Pk
variable {T:Nat→Option AFunc}
def bx00:Bx:=⟨c0,c0⟩
theorem fill_ps{h:Heap}{e:Env}{x:Operand}{s:List Nat}(hs:IsS s)(hx:ev h e x=some (sv s)):fillA h e [.int .u64 0, .int .u64 0, .int .u64 0, .int .u64 0, .int .u64 0, .int .u64 0, .int .u64 0, .int .u64 0,I.O,I.O,I.O,I.O,I.O,I.O] [(0,8,x)]=some (psL s bx00):=by
 have e1:cellsOf (sv s)=us s:=by show(us s).toArray.toList=_;simp
 have h0:psL s0 bx00=[.int .u64 0, .int .u64 0, .int .u64 0, .int .u64 0, .int .u64 0, .int .u64 0, .int .u64 0, .int .u64 0,I.O,I.O,I.O,I.O,I.O,I.O]:=rfl
 have e2:lputs (psL s0 bx00) 0 (us s)=psL s bx00:=by
  rw[lputs_mid (by rw[us_length,hs.len];decide),us_length,hs.len,List.take_zero]
  rfl
 have e3:llen (us s)=8:=by rw[llen_eq,us_length,hs.len]
 rw[←h0]
 have e4:(Nat.beq 8 8&&Nat.ble (0+8) (llen (psL s0 bx00)))=true:=rfl
 simp only[fillA,hx,e1,e2,e3];rfl
theorem psL_len{s:List Nat}{b:Bx}(hs:IsS s):(psL s b).length=14:=by
 unfold psL
 rw[List.length_append,us_length,hs.len];rfl
theorem psL_all{s:List Nat}{b:Bx}(hs:IsS s):ltake 14 (ldrop 0 (psL s b))=psL s b:=by rw[ltake_eq,ldrop_eq,List.drop_zero,List.take_of_length_le (by rw[psL_len hs];omega)]
theorem psL_llen{s:List Nat}{b:Bx}(hs:IsS s):Nat.beq (llen (psL s b)) 14=true:=by rw[llen_eq,psL_len hs];rfl
theorem psL_ones{s:List Nat}{b:Bx}:ones (psL s b)=true:=ones_app (us_ones _) rfl
theorem psL_s{s:List Nat}{b:Bx}(hs:IsS s):ltake 8 (ldrop (0+0) (psL s b))=us s:=by
 rw[ltake_eq,ldrop_eq,Nat.zero_add,List.drop_zero]
 unfold psL
 rw[List.take_append_of_le_length (by rw[us_length,hs.len];omega),List.take_of_length_le (by rw[us_length,hs.len];omega)]
theorem psL_up{s:List Nat}{b b':Bx}(hs:IsS s):lputs (psL s b) (0+8) (cellsOf (bxV b'))=psL s b':=by
 show lputs (psL s b) 8 (bxL b')=_
 unfold psL
 rw[lputs_mid (by rw[List.length_append,us_length,hs.len];exact Nat.le_refl _),List.take_append_of_le_length (by rw[us_length,hs.len];omega),List.take_of_length_le (by rw[us_length,hs.len];omega),List.drop_of_length_le (by rw[List.length_append,us_length,hs.len];exact Nat.le_refl _)]
 simp
theorem psL_lo{s:List Nat}{b:Bx}(hs:IsS s):ltake 3 (ldrop (0+8+0) (psL s b))=ceL b.lo:=by
 rw[ltake_eq,ldrop_eq]
 unfold psL
 rw[show 0+8+0=(us s).length by rw[us_length,hs.len],List.drop_left];rfl
theorem psL_hi{s:List Nat}{b:Bx}(hs:IsS s):ltake 3 (ldrop (0+8+3) (psL s b))=ceL b.hi:=by
 rw[ltake_eq,ldrop_eq]
 unfold psL
 rw[List.drop_append,us_length,hs.len,List.drop_of_length_le (by rw[us_length,hs.len];omega)];rfl
structure FxK (P:List Fi→Heap→Prop) (lo:Nat) (h0:Heap) (q:Nat) (rm bp:Bx) (p:List Nat) (D:List Fi) (g:Heap):Prop where
 k:Lk lo h0 g
 pd:P D g
 nx:q+2<g.next
 g4:g.get h0.next=some (.cells (bxL rm) true 1)
 g7:g.get q=some (.cells (psL p bp) true 1)
 g8:g.get (q+1)=some (.cells (ceL bp.lo) true 1)
 g9:g.get (q+2)=some (.cells (ceL bp.hi) true 1)
theorem FxK.ext{P:List Fi→Heap→Prop}{lo:Nat}{h0:Heap}{q:Nat}{rm bp:Bx}{p:List Nat}{D:List Fi}{g g':Heap}(f:FxK P lo h0 q rm bp p D g)(x:Ext g g')(hlo:lo≤g.next)(hq:h0.next<q)(hP:P D g'):FxK P lo h0 q rm bp p D g':=by
 have h1:=x.next
 have h2:=f.nx
 exact⟨f.k.trans (x.lk hlo),hP,by omega,(x.old _ (by omega)).trans f.g4,(x.old _ (by omega)).trans f.g7,(x.old _ (by omega)).trans f.g8,(x.old _ (by omega)).trans f.g9⟩
theorem FxK.step{P:List Fi→Heap→Prop}{lo N:Nat}{h0:Heap}{q:Nat}{rm bp:Bx}{p:List Nat}{D D':List Fi}{g g':Heap}(f:FxK P lo h0 q rm bp p D g)(x:Lk lo g g')(hk:∀z,N≤z→z<g.next→g'.get z=g.get z)(hq:h0.next<q)(hN:N≤h0.next)(hP:P D' g'):FxK P lo h0 q rm bp p D' g':=by
 have h1:=x.next
 have h2:=f.nx
 exact⟨f.k.trans x,hP,by omega,(hk _ (by omega) (by omega)).trans f.g4,(hk _ (by omega) (by omega)).trans f.g7,(hk _ (by omega) (by omega)).trans f.g8,(hk _ (by omega) (by omega)).trans f.g9⟩
theorem zr_mem{lo hi z:Int}{n:Nat}(h:z=lo+(n:Nat))(hz:z≤hi):z∈zr lo hi:=List.mem_map.2 ⟨n,List.mem_range.2 (by omega),h.symm⟩
theorem zrN_flat{α:Type}(lo:Int)(n:Nat)(f:Int→List α){z:Int}(h:z=lo+(n:Nat)):(zrN lo (n+1)).flatMap f=(zrN lo n).flatMap f++f z:=by
 rw[zrN_succ,List.flatMap_append,h];simp
theorem rng_end{lo hi:Int}{n:Nat}(h1:n=0∨lo+(n:Nat)≤hi+1)(h2:hi<lo+(n:Nat)):n=(hi-lo+1).toNat:=by omega
set_option maxHeartbeats 32000000 in
theorem fits209(F:FnsFt T){h:Heap}(hr:Rdy h){px:AExit}{qa qb l N lo:Nat}{a b:List Nat}(ha:IsS a)(hb:IsS b){P:List Fi→Heap→Prop}{S:Heap→Prop}(hN:N≤h.next)(hlo:lo≤h.next)(hlN:l<N)(h2N:2<N)
 (Y:YldM px T lo N l fiV (fitsL a b) P S)
 (ga:∀d H,P d H→H.get qa=some (.cells (us a) true 1))(gb:∀d H,P d H→H.get qb=some (.cells (us b) true 1))(htab:∀d H,P d H→Tab H)(h0:P [] h):
 GrX T 209 [.func (.yield l) #[] #[], .pointer (some ⟨qa,0,none⟩), .pointer (some ⟨qb,0,none⟩)] h lo (P (fitsL a b)) S:=by
 have hp:=F.li.p
 have ka8:=us_llen ha.len
 have ka9:=us_take8 ha.len
 have kb8:=us_llen hb.len
 have kb9:=us_take8 hb.len
 have hlb:l<h.next:=by omega
 refine GrX.ofM (l:=l) hp F.f209 hlo hlb (fun h1 h2 hn he q=>Y.stable _ _ _ q (Nat.le_trans hN hn) fun x hx=>he x (by omega)) Y.sloop ?_
 have C0:=bounds210 F.bd (h:={h with log:=[]}) (.of hr.wf) (show Tab h from htab _ _ h0) (by show 2<h.next;omega) ha
 have gA:=ga _ _ h0
 unfold bndV at C0
 have hsome:(bndS a).2= !decide (a=s0):=by
  unfold bndS
  by_cases he:a=s0
  ·rw[if_pos he,decide_eq_true he];rfl
  ·rw[if_neg he,decide_eq_false he];rfl
 have hrm:=bndS_in a
 have hft:∀t,fitT a b t=fitZ a (spunS b t) (bndS a).1 (bndS (spunS b t)).1 t:=fun _=>rfl
 rw[hsome]at C0
 generalize(bndS a).1=rm at*
 refine wE_cutP (E0:=[(0, .func (.yield l) #[] #[]),(1, .pointer (some ⟨qa,0,none⟩)),(2, .pointer (some ⟨qb,0,none⟩)),(4, .pointer (some ⟨h.next,0,none⟩)),(5, .bool (!decide (a=s0)))]) (P:=fun h'=>Ext h h'∧h'.next=h.next+1∧h'.get h.next=some (.cells (bxL rm) true 1)) ?_ ?_
 ·refine wE_region ?_;refine wO_val (a_loadN (by exact rfl) (by assumption) (by assumption) (by assumption)) ?_
  refine yC ?_
  refine FW.pu C0 ?_
  refine yM ?_;refine yE ?_;refine yE ?_;refine wO_val (a_new) ?_
  refine yS ?_;refine yM ?_;refine wO_nil ?_
  refine y1 ?_
  exact⟨rfl,rfl,rfl,ext_pw (by omega) _ _,rfl,get_pw _ _⟩
 clear C0
 rintro H1 ⟨x1,n1,q1⟩
 have W1:=x1.wf hr.wf
 have hL1:=x1.log.trans hr.log
 have hk1:Lk lo h H1:=⟨x1.next,fun hh=>by rw[hL1];exact LogGe.nil _,fun z hz=>x1.old z (by omega),x1.wf⟩
 have hP1:P [] H1:=Y.stable _ _ _ h0 (by omega) fun x hx=>x1.old x (by omega)
 have gA1:=ga _ _ hP1
 have gB1:=gb _ _ hP1
 clear gA
 by_cases he:a=s0
 ·have hf:fitsL a b=[]:=if_pos (.inl he)
  rw[hf,decide_eq_true he]
  refine wE_seq ?_;refine wE_seq ?_;refine wE_draw ?_;refine qM ?_;refine wD_quiet rfl rfl rfl (by exact rfl) (by exact rfl) (by exact rfl) (a_not (by exact rfl)) ?_;refine qM ?_;refine wD_off rfl rfl rfl (by exact rfl) ?_
  refine wD_off rfl rfl rfl (by exact rfl) ?_;refine wD_off rfl rfl rfl (by exact rfl) ?_;refine wD_off rfl rfl rfl (by exact rfl) ?_;refine wD_off rfl rfl rfl (by exact rfl) ?_;refine wD_quiet rfl rfl rfl (by exact rfl) (by exact rfl) (by exact rfl) (a_pickT (by exact rfl) (by exact rfl)) ?_;refine wD_nil ?_
  refine y1 ?_;refine kS_n ?_;refine yY ?_;refine wE_ret ?_;refine kS_r ?_
  exact⟨⟨.inr rfl,rfl,hk1.log (by rw[hr.log];exact LogGe.nil _),⟨_,rfl⟩, .inl hP1⟩⟩
 rw[decide_eq_false he]
 have C1:=count188 F.co (h:={H1 with log:=[]}) (.of W1) hb
 have C2:=count188 F.co (h:={H1 with log:=[]}) (.of W1) ha
 by_cases hcn:cntS a<cntS b
 ·have hf:fitsL a b=[]:=if_pos (.inr hcn)
  rw[hf]
  have m1:numOp .gtr (.int .i64 ((cntS b:Nat):Int)) (.int .i64 ((cntS a:Nat):Int))=some (.bool true):=m_gtrT (by omega)
  refine wE_seq ?_;refine wE_seq ?_;refine wE_draw ?_;refine qM ?_;refine wD_quiet rfl rfl rfl (by exact rfl) (by exact rfl) (by exact rfl) (a_not (by exact rfl)) ?_;refine qM ?_
  refine wD_quiet rfl rfl rfl (by exact rfl) (by exact rfl) (by exact rfl) (a_loadN (by exact rfl) (by assumption) (by assumption) (by assumption)) ?_;refine wD_quiet rfl rfl rfl (by exact rfl) (by exact rfl) (by exact rfl) (a_loadN (by exact rfl) (by assumption) (by assumption) (by assumption)) ?_
  refine qC ?_
  refine FW.puD C1 (by apply ra_keepC rfl (rq_quiet rfl (a_loadN (by exact rfl) (by assumption) (by assumption) (by assumption)) (by exact sv_us _)) rfl;apply ra_dropC rfl;apply ra_dropC rfl;apply ra_dropC rfl;apply ra_dropC rfl;exact ra_nil) ?_
  skip
  refine qC ?_
  refine FW.puD C2 (by apply ra_dropC rfl;exact ra_nil) ?_
  refine wD_quiet rfl rfl rfl (by exact rfl) (by exact rfl) (by exact rfl) (a_num (by exact rfl) (by exact rfl) (by with_reducible assumption)) ?_;refine wD_quiet rfl rfl rfl (by exact rfl) (by exact rfl) (by exact rfl) (a_pickF (by exact rfl) (by exact rfl)) ?_;refine wD_nil ?_;refine y1 ?_;refine kS_n ?_
  refine yY ?_;refine wE_ret ?_;refine kS_r ?_
  exact⟨⟨.inr rfl,rfl,hk1.log (by rw[hr.log];exact LogGe.nil _),⟨_,rfl⟩, .inl hP1⟩⟩
 have hf:fitsL a b=(List.range 24).flatMap (fitT a b):=if_neg (fun q=>q.elim he hcn)
 have m1:numOp .gtr (.int .i64 ((cntS b:Nat):Int)) (.int .i64 ((cntS a:Nat):Int))=some (.bool false):=m_gtrF (by omega)
 refine wE_seq ?_;refine wE_seq ?_;refine wE_draw ?_;refine qM ?_;refine wD_quiet rfl rfl rfl (by exact rfl) (by exact rfl) (by exact rfl) (a_not (by exact rfl)) ?_;refine qM ?_
 refine wD_quiet rfl rfl rfl (by exact rfl) (by exact rfl) (by exact rfl) (a_loadN (by exact rfl) (by assumption) (by assumption) (by assumption)) ?_;refine wD_quiet rfl rfl rfl (by exact rfl) (by exact rfl) (by exact rfl) (a_loadN (by exact rfl) (by assumption) (by assumption) (by assumption)) ?_
 refine qC ?_
 refine FW.puD C1 (by apply ra_keepC rfl (rq_quiet rfl (a_loadN (by exact rfl) (by assumption) (by assumption) (by assumption)) (by exact sv_us _)) rfl;apply ra_dropC rfl;apply ra_dropC rfl;apply ra_dropC rfl;apply ra_dropC rfl;exact ra_nil) ?_
 skip
 refine qC ?_
 refine FW.puD C2 (by apply ra_dropC rfl;exact ra_nil) ?_
 clear C1 C2
 refine wD_quiet rfl rfl rfl (by exact rfl) (by exact rfl) (by exact rfl) (a_num (by exact rfl) (by exact rfl) (by with_reducible assumption)) ?_;refine wD_quiet rfl rfl rfl (by exact rfl) (by exact rfl) (by exact rfl) (a_pickF (by exact rfl) (by exact rfl)) ?_;refine wD_nil ?_;refine y1 ?_;refine kS_n ?_
 refine yX ?_;refine wE_skip ?_;refine kS_n ?_;refine y4 ?_;refine yM ?_;refine y3 ?_;refine wE_block ?_
 refine wE_loop (fun k e ds h'=>∃t:Nat,t≤24∧24-t=k∧e=[(0, .func (.yield l) #[] #[]),(1, .pointer (some ⟨qa,0,none⟩)),(2, .pointer (some ⟨qb,0,none⟩)),(4, .pointer (some ⟨h.next,0,none⟩)),(28, .int .i64 (t:Nat))]∧ds=[]∧Lk lo h h'∧P ((List.range t).flatMap (fitT a b)) h'∧h.next<h'.next∧h'.get h.next=some (.cells (bxL rm) true 1))
  ⟨0,Nat.zero_le _,rfl,rfl,rfl,hk1,hP1,by omega,q1⟩ ?_
 clear hP1 gA1 gB1 q1 hk1 W1 hL1 x1 n1
 rintro k e ds G ⟨t,ht24,rfl,rfl,rfl,hk,hP,hnx,g4⟩
 have WG:=hk.wf hr.wf
 by_cases ht:t<24
 ·have hps:=spunS_ok b t
  have hbp:=bndS_in (spunS b t)
  have D1:=spun211 F.mp (h:={G with log:=[]}) (.of WG) (show Tab G from htab _ _ hP) (by show 2<G.next;omega) hb ht
  have gB:=gb _ _ hP
  have hT:(List.range (t+1)).flatMap (fitT a b)=(List.range t).flatMap (fitT a b)++fitT a b t:=by rw[List.range_succ,List.flatMap_append];simp
  have hmem:∀f∈fitT a b t,f∈fitsL a b:=fun f hf'=>by
   rw[hf];exact List.mem_flatMap.2 ⟨t,List.mem_range.2 ht,hf'⟩
  rw[hft t]at hT hmem
  generalize(List.range t).flatMap (fitT a b)=D at*
  generalize hbb:bndS (spunS b t)=bb at*
  generalize spunS b t=p at*
  obtain⟨bp,some'⟩:=bb
  dsimp only at hbp hT hmem
  have kp8:=us_llen hps.len
  have lo14:=psL_len (b:=bx00) hps
  have lo14o:=psL_ones (s:=p) (b:=bx00)
  refine y4 ?_;refine yt ?_;refine y3 ?_;refine wE_seq ?_;refine yY ?_;refine wE_skip ?_;refine kS_n ?_;refine wE_seq ?_;refine wE_block ?_;refine y4 ?_;refine yM ?_;refine yM ?_;refine y3 ?_
  refine wE_cutP (E0:=[(0, .func (.yield l) #[] #[]),(1, .pointer (some ⟨qa,0,none⟩)),(2, .pointer (some ⟨qb,0,none⟩)),(4, .pointer (some ⟨h.next,0,none⟩)),(6, .int .i64 (t:Nat)),(7, .pointer (some ⟨G.next,0,none⟩)),(28, .int .i64 (t:Nat))]) (P:=fun h'=>Ext G h'∧h'.next=G.next+1∧h'.get G.next=some (.cells (psL p bx00) true 1)) ?_ ?_
  ·refine wE_region ?_;refine wO_val (a_loadN (by exact rfl) (by assumption) (by assumption) (by assumption)) ?_;refine yM ?_
   refine yC ?_
   refine FW.pu D1 ?_
   skip
   refine wO_val (a_build (fill_ps hps (by exact rfl))) ?_
   refine wO_val (a_new) ?_;refine wO_val (a_storeAll (by exact rfl) (by exact rfl) (by(simp(disch:=first|omega|(simp only[z1,z2];omega))only[z3,z4,z5,z6,z7,z1,z2,g4,gB];exact rfl)) (by assumption) (by exact rfl) (by assumption)) ?_;refine wO_nil ?_
   refine y1 ?_
   exact⟨rfl,rfl,rfl,ext_pw (by omega) _ _,rfl,get_pw _ _⟩
  clear D1
  rintro G1 ⟨x1,n1,q1⟩
  have WG1:=x1.wf WG
  have hP1:P D G1:=Y.stable _ _ _ hP (by omega) fun x hx=>x1.old x (by omega)
  have D2:=bounds210 F.bd (h:={G1 with log:=[]}) (.of WG1) (show Tab G1 from htab _ _ hP1) (by show 2<G1.next;omega) hps
  rw[hbb]at D2
  unfold bndV at D2
  dsimp only at D2
  have ks:=psL_s (b:=bx00) hps
  have ku:=psL_up (b:=bx00) (b':=bp) hps
  have kuc:(Nat.beq (llen (cellsOf (bxV bp))) 6&&Nat.ble (0+8+6) (llen (psL p bx00))&&ones (cellsOf (bxV bp)))=true:=by
   rw[llen_eq (psL p bx00),lo14];rfl
  refine wE_cutP (E0:=[(0, .func (.yield l) #[] #[]),(1, .pointer (some ⟨qa,0,none⟩)),(2, .pointer (some ⟨qb,0,none⟩)),(4, .pointer (some ⟨h.next,0,none⟩)),(6, .int .i64 (t:Nat)),(7, .pointer (some ⟨G.next,0,none⟩)),(28, .int .i64 (t:Nat))]) (P:=fun h'=>Ext G h'∧h'.next=G.next+1∧h'.get G.next=some (.cells (psL p bp) true 1)) ?_ ?_
  ·refine wE_region ?_;refine yF ?_;refine wO_val (a_loadN (by exact rfl) (by assumption) (by assumption) (by assumption)) ?_
   refine yC ?_
   refine FW.pu D2 ?_
   refine yM ?_;refine yE ?_;refine yE ?_;refine yF ?_
   refine wO_val (a_store (by exact rfl) (by exact rfl) q1 kuc ku) ?_
   refine wO_nil ?_;refine y1 ?_
   exact⟨rfl,rfl,rfl,⟨x1.next,(Heap.log_wr_new (by omega)).trans x1.log,fun b hb=>(z5 (by omega)).trans (x1.old b hb),fun w=>(x1.wf w).as (AS.wr h.next _ _ _)⟩,n1,Heap.get_wr_new q1⟩
  clear D2 q1 hP1 WG1 n1 x1
  rintro G2 ⟨x2,n2,q2⟩
  have kl:=psL_lo (b:=bp) hps
  have kh:=psL_hi (b:=bp) hps
  have cl:Nat.beq (llen (ceL bp.lo)) 3=true:=rfl
  have ch:Nat.beq (llen (ceL bp.hi)) 3=true:=rfl
  refine wE_cutP (E0:=[(0, .func (.yield l) #[] #[]),(1, .pointer (some ⟨qa,0,none⟩)),(2, .pointer (some ⟨qb,0,none⟩)),(4, .pointer (some ⟨h.next,0,none⟩)),(6, .int .i64 (t:Nat)),(7, .pointer (some ⟨G.next,0,none⟩)),(8, .pointer (some ⟨G2.next,0,none⟩)),(9, .pointer (some ⟨G2.next+1,0,none⟩)),(28, .int .i64 (t:Nat))]) (P:=fun h'=>Ext G h'∧h'.next=G2.next+2∧h'.get G.next=some (.cells (psL p bp) true 1)∧h'.get G2.next=some (.cells (ceL bp.lo) true 1)∧h'.get (G2.next+1)=some (.cells (ceL bp.hi) true 1)) ?_ ?_
  ·refine wE_draw ?_;refine qF ?_;refine qF ?_;refine wD_quiet rfl rfl rfl (by exact rfl) (by exact rfl) (by exact rfl) (a_loadN (by exact rfl) (by assumption) (by assumption) (by exact rfl)) ?_
   refine qF ?_;refine qF ?_;refine wD_quiet rfl rfl rfl (by exact rfl) (by exact rfl) (by exact rfl) (a_loadN (by exact rfl) (by assumption) (by assumption) (by exact rfl)) ?_
   refine wD_new rfl rfl rfl (by exact rfl) (by exact rfl) (by exact rfl) a_new (by refine rs_cons (rq_quiet rfl (a_loadN (by exact rfl) (by(simp(disch:=first|omega|(simp only[z1,z2];omega))only[z3,z4,z5,z6,z7,z1,z2,g4,gB,q2];exact rfl)) (by assumption) (by exact rfl)) (by refine sv_agg ?_;refine sl_cons (s1_int _ _) ?_;refine sl_cons (s1_int _ _) ?_;exact sl_cons (s1_int _ _) (by assumption))) ?_;refine rs_cons (rq_quiet rfl (a_faddr (by exact rfl)) (by exact sv_ptr _)) ?_;refine rs_cons (rq_quiet rfl (a_faddr (by exact rfl)) (by exact sv_ptr _)) ?_;refine rs_cons (rq_quiet rfl (a_loadN (by exact rfl) (by(simp(disch:=first|omega|(simp only[z1,z2];omega))only[z3,z4,z5,z6,z7,z1,z2,g4,gB,q2];exact rfl)) (by assumption) (by exact rfl)) (by refine sv_agg ?_;refine sl_cons (s1_int _ _) ?_;refine sl_cons (s1_int _ _) ?_;exact sl_cons (s1_int _ _) (by assumption))) ?_;refine rs_cons (rq_quiet rfl (a_faddr (by exact rfl)) (by exact sv_ptr _)) ?_;refine rs_cons (rq_quiet rfl (a_faddr (by exact rfl)) (by exact sv_ptr _)) ?_;exact rs_nil) ?_
   refine wD_new rfl rfl rfl (by exact rfl) (by exact rfl) (by exact rfl) a_new (by refine rs_cons (rq_made rfl) ?_;refine rs_cons (rq_quiet rfl (a_loadN (by exact rfl) (by(simp(disch:=first|omega|(simp only[z1,z2];omega))only[z3,z4,z5,z6,z7,z1,z2,g4,gB,q2];exact rfl)) (by assumption) (by exact rfl)) (by refine sv_agg ?_;refine sl_cons (s1_int _ _) ?_;refine sl_cons (s1_int _ _) ?_;exact sl_cons (s1_int _ _) (by assumption))) ?_;refine rs_cons (rq_quiet rfl (a_faddr (by exact rfl)) (by exact sv_ptr _)) ?_;refine rs_cons (rq_quiet rfl (a_faddr (by exact rfl)) (by exact sv_ptr _)) ?_;refine rs_cons (rq_quiet rfl (a_loadN (by exact rfl) (by(simp(disch:=first|omega|(simp only[z1,z2];omega))only[z3,z4,z5,z6,z7,z1,z2,g4,gB,q2];exact rfl)) (by assumption) (by exact rfl)) (by refine sv_agg ?_;refine sl_cons (s1_int _ _) ?_;refine sl_cons (s1_int _ _) ?_;exact sl_cons (s1_int _ _) (by assumption))) ?_;refine rs_cons (rq_quiet rfl (a_faddr (by exact rfl)) (by exact sv_ptr _)) ?_;refine rs_cons (rq_quiet rfl (a_faddr (by exact rfl)) (by exact sv_ptr _)) ?_;exact rs_nil) ?_
   refine wD_store rfl rfl rfl (by exact rfl) (by exact rfl) (by exact rfl) (by(simp(disch:=first|omega|(simp only[z1,z2];omega))only[z3,z4,z5,z6,z7,z1,z2,g4,gB,q2];exact rfl)) (by exact rfl) (by exact rfl) (by(simp only[z1,z2];omega)) (by omega) (by apply ra_dropC rfl;apply ra_dropC rfl;apply ra_keepC rfl (rq_quiet rfl (a_loadN (by exact rfl) (by(simp(disch:=first|omega|(simp only[z1,z2];omega))only[z3,z4,z5,z6,z7,z1,z2,g4,gB,q2];exact rfl)) (by assumption) (by exact rfl)) (by refine sv_agg ?_;refine sl_cons (s1_int _ _) ?_;refine sl_cons (s1_int _ _) ?_;exact sl_cons (s1_int _ _) (by assumption))) rfl;apply ra_keepC rfl (rq_quiet rfl (a_faddr (by exact rfl)) (by exact sv_ptr _)) rfl;apply ra_keepC rfl (rq_quiet rfl (a_faddr (by exact rfl)) (by exact sv_ptr _)) rfl;apply ra_dropC rfl;apply ra_dropC rfl;apply ra_dropC rfl;exact ra_nil) ?_
   refine wD_store rfl rfl rfl (by exact rfl) (by exact rfl) (by exact rfl) (by(simp(disch:=first|omega|(simp only[z1,z2];omega)|(simp only[z1,z2];done)|fail)only[z8,z4,z5,z9,z7,z1,z2,g4,gB,q2];exact rfl)) (by exact rfl) (by exact rfl) (by(simp only[z1,z2];omega)) (by(simp only[z1,z2];omega)) (by apply ra_dropC rfl;apply ra_dropC rfl;apply ra_dropC rfl;exact ra_nil) ?_
   refine wD_nil ?_;refine y1 ?_
   refine⟨rfl,rfl,rfl,⟨by show G.next≤G2.next+2;omega,by rw[Heap.log_wr_new (by show h.next≤G2.next+1;omega),Heap.log_wr_new (by omega)];exact x2.log,fun b hb=>by
    rw[z5 (by show b≠G2.next+1;omega),z5 (by omega),z4 (by show b<G2.next+1;omega),z4 (by omega)];exact x2.old b hb,fun w=>((((x2.wf w).push _).push _).as (AS.wr _ _ _ _)).as (AS.wr _ _ _ _)⟩,rfl,?_,?_,?_⟩
   ·(simp(disch:=first|omega|(simp only[z1,z2];omega))only[z3,z4,z5,z6,z7,z1,z2,g4,gB,q2];done)
   ·(simp(disch:=first|omega|(simp only[z1,z2];omega))only[z3,z4,z5,z6,z7,z1,z2,g4,gB,q2];exact rfl)
   ·(simp(disch:=first|omega|(simp only[z1,z2];omega)|(simp only[z1,z2];done)|fail)only[z8,z4,z5,z9,z7,z1,z2,g4,gB,q2];exact rfl)
  rintro G3 ⟨x3,n3,q3,q8,q9⟩
  rw[n2]at n3 q8 q9⊢
  have hk3:Lk lo h G3:=hk.trans (x3.lk (by have:=hk.next;omega))
  have hP3:P D G3:=Y.stable _ _ _ hP (by omega) fun x hx=>x3.old x (by omega)
  have FX:FxK P lo h G.next rm bp p D G3:=⟨hk3,hP3,by omega,(x3.old _ hnx).trans g4,q3,q8,q9⟩
  have hqN:N≤G.next:=by have:=hk.next;omega
  have hqh:h.next<G.next:=hnx
  clear q2 x2 n2 q3 q8 q9 hk3 hP3 x3 n3 g4 hnx hP hk gB ks ku kuc kp8 lo14 lo14o kl kh cl ch WG
  generalize G.next=q at*
  have hx1:=hrm.lo.x
  have hx2:=hrm.hi.x
  have hy1:=hrm.lo.y
  have hy2:=hrm.hi.y
  have hz1:=hrm.lo.z
  have hz2:=hrm.hi.z
  have px1:=hbp.lo.x
  have px2:=hbp.hi.x
  have py1:=hbp.lo.y
  have py2:=hbp.hi.y
  have pz1:=hbp.lo.z
  have pz2:=hbp.hi.z
  have sz1:numOp .sub (.int .i64 rm.lo.z) (.int .i64 bp.lo.z)=some (.int .i64 (rm.lo.z-bp.lo.z)):=m_sub (wrapA_i64 (by omega) (by omega))
  have sz2:numOp .sub (.int .i64 rm.hi.z) (.int .i64 bp.hi.z)=some (.int .i64 (rm.hi.z-bp.hi.z)):=m_sub (wrapA_i64 (by omega) (by omega))
  have sy1:numOp .sub (.int .i64 rm.lo.y) (.int .i64 bp.lo.y)=some (.int .i64 (rm.lo.y-bp.lo.y)):=m_sub (wrapA_i64 (by omega) (by omega))
  have sy2:numOp .sub (.int .i64 rm.hi.y) (.int .i64 bp.hi.y)=some (.int .i64 (rm.hi.y-bp.hi.y)):=m_sub (wrapA_i64 (by omega) (by omega))
  have sx1:numOp .sub (.int .i64 rm.lo.x) (.int .i64 bp.lo.x)=some (.int .i64 (rm.lo.x-bp.lo.x)):=m_sub (wrapA_i64 (by omega) (by omega))
  have sx2:numOp .sub (.int .i64 rm.hi.x) (.int .i64 bp.hi.x)=some (.int .i64 (rm.hi.x-bp.hi.x)):=m_sub (wrapA_i64 (by omega) (by omega))
  have q4:=FX.g4
  have q8:=FX.g8
  refine y4 ?_;refine yF ?_;refine yF ?_;refine yL ?_;refine yF ?_;refine yL ?_;refine wO_val (a_num (by exact rfl) (by exact rfl) (by with_reducible assumption)) ?_
  refine yM ?_;refine y3 ?_;refine wE_block ?_
  refine wE_loop (fun k e ds h'=>∃(n:Nat) (z:Int),z=rm.lo.z-bp.lo.z+(n:Nat)∧(n=0∨z≤rm.hi.z-bp.hi.z+1)∧16-n=k∧e=[(0, .func (.yield l) #[] #[]),(1, .pointer (some ⟨qa,0,none⟩)),(2, .pointer (some ⟨qb,0,none⟩)),(4, .pointer (some ⟨h.next,0,none⟩)),(6, .int .i64 (t:Nat)),(7, .pointer (some ⟨q,0,none⟩)),(8, .pointer (some ⟨q+1,0,none⟩)),(9, .pointer (some ⟨q+1+1,0,none⟩)),(10, .int .i64 z),(28, .int .i64 (t:Nat))]∧ds=[]∧FxK P lo h q rm bp p (D++(zrN (rm.lo.z-bp.lo.z) n).flatMap (fitY a p rm bp t)) h')
   ⟨0,_,by simp, .inl rfl,rfl,rfl,rfl,by rw[show zrN (rm.lo.z-bp.lo.z) 0=[]from rfl,List.flatMap_nil,List.append_nil];exact FX⟩ ?_
  clear FX q4 q8
  rintro k e ds G ⟨n,z,hz,hn,rfl,rfl,rfl,FX⟩
  have hn16:n<16:=by omega
  by_cases hle:z≤rm.hi.z-bp.hi.z
  ·have lz:numOp .leq (.int .i64 z) (.int .i64 (rm.hi.z-bp.hi.z))=some (.bool true):=m_leqT hle
   have az:numOp .add (.int .i64 z) (.int .i64 1)=some (.int .i64 (z+1)):=m_add (wrapA_i64 (by omega) (by omega))
   have mz:=zr_mem hz hle
   have fz:=zrN_flat (rm.lo.z-bp.lo.z) n (fitY a p rm bp t) hz
   have hfy:fitY a p rm bp t z=(zr (rm.lo.y-bp.lo.y) (rm.hi.y-bp.hi.y)).flatMap (fitX a p rm bp t z):=rfl
   have q4:=FX.g4
   have q8:=FX.g8
   have q9:=FX.g9
   generalize hDz:D++(zrN (rm.lo.z-bp.lo.z) n).flatMap (fitY a p rm bp t)=Dz at*
   refine wE_seq ?_;refine y4 ?_;refine yM ?_;refine yF ?_;refine yF ?_;refine yL ?_;refine yF ?_;refine yL ?_
   refine wO_val (a_num (by exact rfl) (by exact rfl) (by with_reducible assumption)) ?_;refine wO_val (a_num (by exact rfl) (by exact rfl) (by with_reducible assumption)) ?_;refine y3 ?_;refine yY ?_;refine wE_skip ?_;refine kS_n ?_;refine wE_seq ?_
   refine wE_block ?_;refine y4 ?_;refine yF ?_;refine yF ?_;refine yL ?_;refine yF ?_;refine yL ?_
   refine wO_val (a_num (by exact rfl) (by exact rfl) (by with_reducible assumption)) ?_;refine yM ?_;refine y3 ?_;refine wE_block ?_
   refine wE_loop (fun k e ds h'=>∃(j:Nat) (y:Int),y=rm.lo.y-bp.lo.y+(j:Nat)∧(j=0∨y≤rm.hi.y-bp.hi.y+1)∧16-j=k∧e=[(0, .func (.yield l) #[] #[]),(1, .pointer (some ⟨qa,0,none⟩)),(2, .pointer (some ⟨qb,0,none⟩)),(4, .pointer (some ⟨h.next,0,none⟩)),(6, .int .i64 (t:Nat)),(7, .pointer (some ⟨q,0,none⟩)),(8, .pointer (some ⟨q+1,0,none⟩)),(9, .pointer (some ⟨q+1+1,0,none⟩)),(10, .int .i64 z),(11, .int .i64 y),(28, .int .i64 (t:Nat))]∧ds=[]∧FxK P lo h q rm bp p (Dz++(zrN (rm.lo.y-bp.lo.y) j).flatMap (fitX a p rm bp t z)) h')
    ⟨0,_,by simp, .inl rfl,rfl,rfl,rfl,by rw[show zrN (rm.lo.y-bp.lo.y) 0=[]from rfl,List.flatMap_nil,List.append_nil];exact FX⟩ ?_
   clear FX q4 q8 q9
   rintro k e ds G ⟨j,y,hy,hj,rfl,rfl,rfl,FX⟩
   have hj16:j<16:=by omega
   have q4:=FX.g4
   have q8:=FX.g8
   have q9:=FX.g9
   by_cases hley:y≤rm.hi.y-bp.hi.y
   ·have ly:numOp .leq (.int .i64 y) (.int .i64 (rm.hi.y-bp.hi.y))=some (.bool true):=m_leqT hley
    have ay:numOp .add (.int .i64 y) (.int .i64 1)=some (.int .i64 (y+1)):=m_add (wrapA_i64 (by omega) (by omega))
    have my:=zr_mem hy hley
    have fy:=zrN_flat (rm.lo.y-bp.lo.y) j (fitX a p rm bp t z) hy
    have hfx:fitX a p rm bp t z y=(zr (rm.lo.x-bp.lo.x) (rm.hi.x-bp.hi.x)).flatMap (tryX a p bp t z y):=rfl
    generalize hDy:Dz++(zrN (rm.lo.y-bp.lo.y) j).flatMap (fitX a p rm bp t z)=Dy at*
    refine wE_seq ?_;refine y4 ?_;refine yM ?_;refine yF ?_;refine yF ?_;refine yL ?_;refine yF ?_;refine yL ?_
    refine wO_val (a_num (by exact rfl) (by exact rfl) (by with_reducible assumption)) ?_;refine wO_val (a_num (by exact rfl) (by exact rfl) (by with_reducible assumption)) ?_;refine y3 ?_;refine yY ?_;refine wE_skip ?_;refine kS_n ?_;refine wE_seq ?_
    refine wE_block ?_;refine y4 ?_;refine yF ?_;refine yF ?_;refine yL ?_;refine yF ?_;refine yL ?_
    refine wO_val (a_num (by exact rfl) (by exact rfl) (by with_reducible assumption)) ?_;refine yM ?_;refine y3 ?_;refine wE_block ?_
    refine wE_loop (fun k e ds h'=>∃(i:Nat) (x:Int),x=rm.lo.x-bp.lo.x+(i:Nat)∧(i=0∨x≤rm.hi.x-bp.hi.x+1)∧16-i=k∧e=[(0, .func (.yield l) #[] #[]),(1, .pointer (some ⟨qa,0,none⟩)),(2, .pointer (some ⟨qb,0,none⟩)),(4, .pointer (some ⟨h.next,0,none⟩)),(6, .int .i64 (t:Nat)),(7, .pointer (some ⟨q,0,none⟩)),(8, .pointer (some ⟨q+1,0,none⟩)),(9, .pointer (some ⟨q+1+1,0,none⟩)),(10, .int .i64 z),(11, .int .i64 y),(12, .int .i64 x),(28, .int .i64 (t:Nat))]∧ds=[]∧FxK P lo h q rm bp p (Dy++(zrN (rm.lo.x-bp.lo.x) i).flatMap (tryX a p bp t z y)) h')
     ⟨0,_,by simp, .inl rfl,rfl,rfl,rfl,by rw[show zrN (rm.lo.x-bp.lo.x) 0=[]from rfl,List.flatMap_nil,List.append_nil];exact FX⟩ ?_
    clear FX q4 q8 q9
    rintro k e ds G ⟨i,x,hx,hi,rfl,rfl,rfl,FX⟩
    have hi16:i<16:=by omega
    have q4:=FX.g4
    have q9:=FX.g9
    by_cases hlex:x≤rm.hi.x-bp.hi.x
    ·have lx:numOp .leq (.int .i64 x) (.int .i64 (rm.hi.x-bp.hi.x))=some (.bool true):=m_leqT hlex
     have ax:numOp .add (.int .i64 x) (.int .i64 1)=some (.int .i64 (x+1)):=m_add (wrapA_i64 (by omega) (by omega))
     have mx':=zr_mem hx hlex
     have fx:=zrN_flat (rm.lo.x-bp.lo.x) i (tryX a p bp t z y) hx
     have WG:=FX.k.wf hr.wf
     have hnG:=FX.k.next
     have hnq:=FX.nx
     have q7:=FX.g7
     have ka:=psL_all (b:=bp) hps
     have kl:=psL_llen (b:=bp) hps
     have C3:=lifted212 F.li (h:={G with log:=[]}) (.of WG) hps (b:=bp) (x:=x) (y:=y) (z:=z) (by omega) (by omega) (by omega) pz1 pz2 (by omega) (by omega)
     have hls:IsS (liftS p bp x y z):=liftN_ok hps _ _ _ _
     have htry:tryX a p bp t z y x=if sIn (liftS p bp x y z) a then [⟨t,x,y,z,liftS p bp x y z⟩]else []:=rfl
     have hmm:sIn (liftS p bp x y z) a=true→(⟨t,x,y,z,liftS p bp x y z⟩:Fi)∈fitsL a b:=fun hin=>by
      refine hmem _ (List.mem_flatMap.2 ⟨z,mz,List.mem_flatMap.2 ⟨y,my,List.mem_flatMap.2 ⟨x,mx',?_⟩⟩⟩)
      rw[htry,if_pos hin];exact List.mem_singleton.2 rfl
     generalize hDx:Dy++(zrN (rm.lo.x-bp.lo.x) i).flatMap (tryX a p bp t z y)=Dx at*
     generalize liftS p bp x y z=ls at*
     have kls:=us_take8 hls.len
     have kll:=us_llen hls.len
     have klo:=us_ones ls
     have klen:(us ls).length=8:=by rw[us_length,hls.len]
     refine wE_seq ?_;refine y4 ?_;refine yM ?_;refine yF ?_;refine yF ?_;refine yL ?_;refine yF ?_;refine yL ?_
     refine wO_val (a_num (by exact rfl) (by exact rfl) (by with_reducible assumption)) ?_;refine wO_val (a_num (by exact rfl) (by exact rfl) (by with_reducible assumption)) ?_;refine y3 ?_;refine yY ?_;refine wE_skip ?_;refine kS_n ?_;refine wE_seq ?_
     refine wE_block ?_
     refine wE_cutP (E0:=[(0, .func (.yield l) #[] #[]),(1, .pointer (some ⟨qa,0,none⟩)),(2, .pointer (some ⟨qb,0,none⟩)),(4, .pointer (some ⟨h.next,0,none⟩)),(6, .int .i64 (t:Nat)),(7, .pointer (some ⟨q,0,none⟩)),(8, .pointer (some ⟨q+1,0,none⟩)),(9, .pointer (some ⟨q+1+1,0,none⟩)),(10, .int .i64 z),(11, .int .i64 y),(12, .int .i64 x),(13, .pointer (some ⟨G.next,0,none⟩)),(28, .int .i64 (t:Nat))]) (P:=fun h'=>Ext G h'∧h'.next=G.next+1∧h'.get G.next=some (.cells (us ls) true 1)) ?_ ?_
     ·refine wE_region ?_;refine wO_val (a_loadN (by exact rfl) (by assumption) (by assumption) (by assumption)) ?_;refine yM ?_;refine yM ?_;refine yM ?_
      refine yC ?_
      refine FW.pu C3 ?_
      refine wO_val (a_new) ?_;refine wO_val (a_storeAll (by exact rfl) (by exact rfl) (by(simp(disch:=first|omega|(simp only[z1,z2];omega))only[z3,z4,z5,z6,z7,z1,z2,q4,q9,q7];exact rfl)) (by assumption) (by exact rfl) (by exact us_ones _)) ?_;refine wO_nil ?_
      refine y1 ?_
      exact⟨rfl,rfl,rfl,ext_pw (by omega) _ _,rfl,get_pw _ _⟩
     clear C3 q4 q9 q7
     rintro G' ⟨x',n',g13⟩
     have hP':P Dx G':=Y.stable _ _ _ FX.pd (by omega) fun z hz=>x'.old z (by omega)
     have FX':=FX.ext x' (by omega) hqh hP'
     have WG':=x'.wf WG
     have gA:=ga _ _ hP'
     have C4:=in35 hp F.f35 F.f121 (h:={G' with log:=[]}) (.of WG') hls ha
     refine y4 ?_;refine wO_val (a_loadN (by exact rfl) (by assumption) (by assumption) (by assumption)) ?_;refine wO_val (a_loadN (by exact rfl) (by assumption) (by assumption) (by assumption)) ?_
     refine yC ?_
     refine FW.pu C4 ?_
     clear C4
     cases hin:sIn ls a with
     |false=>
      rw[hin,if_neg (by simp)]at htry
      refine yM ?_;refine yP ?_;refine yP ?_;refine yP ?_;refine yP ?_;refine yP ?_;refine yP ?_;refine yP ?_
      refine yP ?_;refine yP ?_;refine yU ?_;refine y3 ?_;refine yX ?_;refine wE_skip ?_;refine kB_n ?_;refine kS_n ?_;refine wE_region ?_
      refine yM ?_;refine wO_val (a_num (by exact rfl) (by exact rfl) (by with_reducible assumption)) ?_;refine yM ?_;refine y3 ?_
      refine⟨16-(i+1),by omega,i+1,x+1,by omega, .inr (by omega),rfl,rfl,rfl,?_⟩
      rw[fx,htry,List.append_nil,hDx];exact FX'
     |true=>
      rw[hin,if_pos rfl]at htry
      refine yM ?_;refine yO ?_;refine yM ?_;refine yO ?_;refine yM ?_;refine yO ?_;refine yM ?_;refine yO ?_;refine yM ?_;refine yO ?_
      refine yM ?_;refine yO ?_;refine wO_val (a_build (by exact rfl)) ?_;refine yO ?_;refine wO_val (a_loadN (by exact rfl) (by assumption) (by assumption) (by assumption)) ?_;refine yO ?_
      refine wO_call (fn:= .yield l) (args:=fiV ⟨t,x,y,z,ls⟩) (by rfl) ?_
      refine Y.call hp (hmm hin) WG' (by omega) (by omega) hlb hP' ?_ ?_
      rotate_left
      ·intro h9 hk9 hm9 hS9
       refine yO ?_;refine yA ?_;refine yT ?_;refine y3 ?_;refine yY ?_;refine wE_ret ?_;refine kB_r ?_;refine kS_r ?_;refine kS_r ?_;refine kB_r ?_;refine kB_r ?_
       refine kS_r ?_;refine kS_r ?_;refine kB_r ?_;refine kB_r ?_;refine kS_r ?_;refine kS_r ?_;refine kB_r ?_;refine kB_r ?_;refine kS_r ?_;refine kS_r ?_;refine kB_r ?_
       exact endX_ret ((FX'.k.trans hk9).log (by rw[hr.log];exact LogGe.nil _)) rfl hm9 hS9
      intro h2 hk2 hkeep hP2
      refine yO ?_;refine yA ?_;refine yT ?_;refine y3 ?_;refine yX ?_;refine wE_skip ?_;refine kB_n ?_;refine kS_n ?_;refine wE_region ?_
      refine yM ?_;refine wO_val (a_num (by exact rfl) (by exact rfl) (by with_reducible assumption)) ?_;refine yM ?_;refine y3 ?_
      refine⟨16-(i+1),by omega,i+1,x+1,by omega, .inr (by omega),rfl,rfl,rfl,?_⟩
      rw[fx,htry,←List.append_assoc,hDx]
      exact FX'.step hk2 hkeep hqh hN hP2
    ·have lx:numOp .leq (.int .i64 x) (.int .i64 (rm.hi.x-bp.hi.x))=some (.bool false):=m_leqF (by omega)
     have hie:=rng_end (lo:=rm.lo.x-bp.lo.x) (hi:=rm.hi.x-bp.hi.x) (n:=i) (by omega) (by omega)
     have e:(zrN (rm.lo.x-bp.lo.x) i).flatMap (tryX a p bp t z y)=fitX a p rm bp t z y:=by rw[hie];rfl
     rw[e]at FX
     refine wE_seq ?_;refine y4 ?_;refine yM ?_;refine yF ?_;refine yF ?_;refine yL ?_;refine yF ?_;refine yL ?_
     refine wO_val (a_num (by exact rfl) (by exact rfl) (by with_reducible assumption)) ?_;refine wO_val (a_num (by exact rfl) (by exact rfl) (by with_reducible assumption)) ?_;refine y3 ?_;refine yX ?_;refine wE_exit ?_;refine kS_e ?_;refine kS_e ?_
     refine kB_e ?_;refine kB_n ?_;refine kS_n ?_;refine wE_region ?_;refine yM ?_;refine wO_val (a_num (by exact rfl) (by exact rfl) (by with_reducible assumption)) ?_;refine yM ?_;refine y3 ?_
     refine⟨16-(j+1),by omega,j+1,y+1,by omega, .inr (by omega),rfl,rfl,rfl,?_⟩
     rw[fy,←List.append_assoc,hDy];exact FX
   ·have ly:numOp .leq (.int .i64 y) (.int .i64 (rm.hi.y-bp.hi.y))=some (.bool false):=m_leqF (by omega)
    have hje:=rng_end (lo:=rm.lo.y-bp.lo.y) (hi:=rm.hi.y-bp.hi.y) (n:=j) (by omega) (by omega)
    refine wE_seq ?_;refine y4 ?_;refine yM ?_;refine yF ?_;refine yF ?_;refine yL ?_;refine yF ?_;refine yL ?_
    refine wO_val (a_num (by exact rfl) (by exact rfl) (by with_reducible assumption)) ?_;refine wO_val (a_num (by exact rfl) (by exact rfl) (by with_reducible assumption)) ?_;refine y3 ?_;refine yX ?_;refine wE_exit ?_;refine kS_e ?_;refine kS_e ?_
    refine kB_e ?_;refine kB_n ?_;refine kS_n ?_;refine wE_region ?_;refine yM ?_;refine wO_val (a_num (by exact rfl) (by exact rfl) (by with_reducible assumption)) ?_;refine yM ?_;refine y3 ?_
    refine⟨16-(n+1),by omega,n+1,z+1,by omega, .inr (by omega),rfl,rfl,rfl,?_⟩
    rw[fz,←List.append_assoc]
    have e:(zrN (rm.lo.y-bp.lo.y) j).flatMap (fitX a p rm bp t z)=fitY a p rm bp t z:=by rw[hje];rfl
    rw[e]at FX
    rw[hDz];exact FX
  ·have lz:numOp .leq (.int .i64 z) (.int .i64 (rm.hi.z-bp.hi.z))=some (.bool false):=m_leqF (by omega)
   have hne:=rng_end (lo:=rm.lo.z-bp.lo.z) (hi:=rm.hi.z-bp.hi.z) (n:=n) (by omega) (by omega)
   have q4:=FX.g4
   have q9:=FX.g9
   refine wE_seq ?_;refine y4 ?_;refine yM ?_;refine yF ?_;refine yF ?_;refine yL ?_;refine yF ?_;refine yL ?_
   refine wO_val (a_num (by exact rfl) (by exact rfl) (by with_reducible assumption)) ?_;refine wO_val (a_num (by exact rfl) (by exact rfl) (by with_reducible assumption)) ?_;refine y3 ?_;refine yX ?_;refine wE_exit ?_;refine kS_e ?_;refine kS_e ?_
   refine kB_e ?_;refine kB_n ?_;refine kS_n ?_;refine wE_region ?_;refine yinc ?_;refine yM ?_;refine y3 ?_
   refine⟨24-(t+1),by omega,t+1,by omega,rfl,rfl,rfl,FX.k,?_,by have:=FX.nx;omega,FX.g4⟩
   rw[hT]
   have:=FX.pd
   rw[hne]at this
   exact this
 ·obtain rfl:t=24:=by omega
  rw[←hf]at hP
  refine y4 ?_;refine yf ?_;refine y3 ?_;refine wE_seq ?_;refine yX ?_;refine wE_exit ?_;refine kS_e ?_;refine kS_e ?_;refine kB_e ?_
  exact endX_end (hk.log (by rw[hr.log];exact LogGe.nil _)) rfl hP
end Go.A.Pk
end
section
set_option maxRecDepth 100000
namespace Go.A.Pk
variable {T:Nat→Option AFunc}
def fitB(a b:List Nat):Bool:=decide (b=s0)|| !(fitsL a b).isEmpty
def fnF(p q:Nat):Value:= .func (.func 209) #[] #[.pointer (some ⟨p,0,none⟩), .pointer (some ⟨q,0,none⟩)]
def moL(t x y z:Int):List Value:=[.int .i64 t, .int .i64 x, .int .i64 y, .int .i64 z]
structure FnsFi (T:Nat→Option AFunc):Prop where
 ft:FnsFt T
 f34:T 34=some f34
 f120:T 120=some f120
theorem fits120(F:FnsFi T){h:Heap}(hr:Rdy h){a b:List Nat}(ha:IsS a)(hb:IsS b):
 Al T 120 [sv a,sv b] h fun v h'=>∃p q,v=fnF p q∧h'.get p=some (.cells (us a) true 1)∧h'.get q=some (.cells (us b) true 1)∧p<h'.next∧q<h'.next∧h.next≤p∧h.next≤q:=by
 refine .of F.ft.li.p F.f120 hr ?_ ?_
 ·rintro v h1 hv ⟨p,q,rfl,_⟩
  cases hv
 refine y4 ?_;refine yB ?_;refine yB ?_;refine yM ?_;refine y3 ?_;refine y4 ?_
 refine wO_val (a_mkFunc (by exact rfl) (by exact rfl)) ?_;refine yM ?_;refine y3 ?_;refine wE_ret ?_
 exact endA_ret hr.log rfl ⟨h.next,h.next+1,rfl,by(simp(disch:=first|omega|(simp only[z1,z2];omega))only[z3,z4,z5,z6,z7,z1,z2];exact rfl),by(simp(disch:=first|omega|(simp only[z1,z2];omega)|(simp only[z1,z2];done)|fail)only[z8,z4,z5,z9,z7,z1,z2];exact rfl),by show h.next<h.next+2;omega,by show h.next+1<h.next+2;omega,Nat.le_refl _,Nat.le_succ _⟩
section
open I
def asg34:ACode:=I.R [g 8 (.new [O,O,O,O]),S 4 8 16] [6,7,8]
def bod34:ACode:=(.block 1 (Q (I.R [N 18 4 8,S 4 6 18,⟨none, .store 1 (t 7) (.const (.bool true)),none⟩] [])
 (.exit 0)))
end
structure PFi (l:Nat) (H0:Heap) (L:AObj) (done:List Fi) (H:Heap):Prop where
 done:done=[]
 old:∀z,z<l→H.get z=H0.get z
 loop:H.get l=some L
structure SFi (l b6 b7:Nat) (H0:Heap) (LX:AObj) (all:List Fi) (H:Heap):Prop where
 ne:all≠[]
 old:∀z,z<l→z≠b6→z≠b7→H.get z=H0.get z
 loop:H.get l=some LX
 v6:∃t x y z,H.get b6=some (.cells (moL t x y z) true 1)
 v7:H.get b7=some (.cells [.bool true] true 1)
set_option maxHeartbeats 16000000 in
theorem fi_round(hp:primAS T){H:Heap}(hr:Rdy H){b6 b7 l lo N:Nat}{fv fv2:Value}{f:Fi}(hlo:lo≤b6)(h67:b6<b7)(hql:b7<l)(hlN:l<N){m6:List Value}(hm6:m6.length=4)
 (gl:H.get l=some (.loop [(4,fv2),(6, .pointer (some ⟨b6,0,none⟩)),(7, .pointer (some ⟨b7,0,none⟩)),(15,fv)] [16,17] asg34 bod34 0 .normal))
 (g6:H.get b6=some (.cells m6 true 1))(g7:H.get b7=some (.cells [.bool false] true 1)){R:Heap→Prop}:
 FW T (.yield l) (fiV f) H fun r H'=>(∀z∈H'.log,lo≤z∧z<N)∧(r= .ret (.bool true)∧R H'∨r= .ret (.bool false)∧l∈H'.log∧((∀z,z<H.next→z≠b6→z≠b7→z≠l→H'.get z=H.get z)∧H'.get l=some (.loop [(4,fv2),(6, .pointer (some ⟨b6,0,none⟩)),(7, .pointer (some ⟨b7,0,none⟩)),(15,fv)] [16,17] asg34 bod34 2 (.exit 0))∧H'.get b6=some (.cells (moL f.t f.x f.y f.z) true 1)∧H'.get b7=some (.cells [.bool true] true 1))):=by
 have k6:=hr.wf.get_lt g6
 have k7:=hr.wf.get_lt g7
 have kl:=hr.wf.get_lt gl
 refine FW.yieldM hp (px:= .exit 0) (.inr ⟨0,rfl⟩) (S:=fun H'=>(∀z,z<H.next→z≠b6→z≠b7→z≠l→H'.get z=H.get z)∧H'.get l=some (.loop [(4,fv2),(6, .pointer (some ⟨b6,0,none⟩)),(7, .pointer (some ⟨b7,0,none⟩)),(15,fv)] [16,17] asg34 bod34 2 (.exit 0))∧H'.get b6=some (.cells (moL f.t f.x f.y f.z) true 1)∧H'.get b7=some (.cells [.bool true] true 1)) gl rfl kl ⟨by omega,hlN⟩ ?_
 unfold asg34
 refine wE_region ?_;refine wO_val (a_new) ?_;refine yS ?_;refine wO_nil ?_
 refine y1 ?_
 refine⟨rfl,by(simp(disch:=first|omega|(simp only[z1,z2];omega))only[z3,z4,z5,z6,z7,z1,z2,gl,g6,g7];exact rfl),?_⟩
 unfold bod34
 refine wE_block ?_
 refine WE.genC ?_
 intro hA hAe
 have A1:∀z,z<H.next→z≠l→H.get z=hA.get z:=fun z hz hne=>by rw[hAe];symm;simp(disch:=first|omega|(simp only[z1,z2];omega))only[z5,z4]
 have A3:hA.get H.next=some (.cells (moL f.t f.x f.y f.z) true 1):=by rw[hAe];(simp(disch:=first|omega|(simp only[z1,z2];omega))only[z3,z4,z5,z6,z7,z1,z2,gl,g6,g7];exact rfl)
 have A2:hA.get l=some (.loop [(4,fv2),(6, .pointer (some ⟨b6,0,none⟩)),(7, .pointer (some ⟨b7,0,none⟩)),(15,fv)] [16,17] asg34 bod34 1 .normal):=by rw[hAe];(simp(disch:=first|omega|(simp only[z1,z2];omega))only[z3,z4,z5,z6,z7,z1,z2,gl,g6,g7,A3];exact rfl)
 have A5:hA.next=H.next+1:=by rw[hAe];rfl
 have A6:hA.log=[]:=by rw[hAe];simp(disch:=first|omega|(simp only[z1,z2];omega))only[Heap.log_wr_new,Heap.log_push];exact hr.log
 clear hAe
 have B6:=(A1 b6 k6 (by omega)).symm.trans g6
 have B7:=(A1 b7 k7 (by omega)).symm.trans g7
 have ck:ltake 4 (ldrop 0 (moL f.t f.x f.y f.z))=moL f.t f.x f.y f.z:=rfl
 have ckl:Nat.beq (llen (moL f.t f.x f.y f.z)) 4=true:=rfl
 have cko:ones (moL f.t f.x f.y f.z)=true:=rfl
 have ck4:(moL f.t f.x f.y f.z).length=4:=rfl
 refine y4 ?_;refine yN ?_;refine wO_val (a_storeAll (by exact rfl) (by exact rfl) (by assumption) (by assumption) (by assumption) (by exact rfl)) ?_
 refine yS ?_;refine y3 ?_;refine wE_exit ?_;refine kB_x (by exact rfl) ?_
 refine⟨⟨_,by(simp(disch:=first|omega|(simp only[z1,z2];omega))only[z3,z4,z5,z6,z7,z1,z2,gl,g6,g7,A3,A2,B6,B7];exact rfl),rfl⟩,fun z hz=> ?_, .inr ⟨rfl,fun h5 hn h5e h5l=>⟨fun z hz n6 n7 nl=> ?_,h5l,?_,?_⟩⟩⟩
 ·rcases wr_log_old hz with rfl|hz
  ·exact⟨by omega,by omega⟩
  rcases wr_log_old hz with rfl|hz
  ·exact⟨by omega,by omega⟩
  rw[A6]at hz;cases hz
 ·refine(h5e z nl).trans ?_
  rw[z5 n7,z5 n6]
  exact(A1 z hz nl).symm
 ·refine(h5e b6 (by omega)).trans ?_
  rw[z5 (by omega)]
  exact Heap.get_wr_new B6
 ·refine(h5e b7 (by omega)).trans ?_
  rw[z6,z5 (by omega),B7];rfl
theorem fitB_of{a b:List Nat}(hb:¬b=s0):fitB a b= !(fitsL a b).isEmpty:=by unfold fitB;rw[decide_eq_false hb];rfl
set_option maxHeartbeats 16000000 in
theorem fits34(F:FnsFi T){h:Heap}(hr:Rdy h)(hg:Tab h)(h2:2<h.next){a b:List Nat}(ha:IsS a)(hb:IsS b):
 Al T 34 [sv a,sv b] h fun v _=>∃t x y z,v= .tuple #[moV t x y z, .bool (fitB a b)]:=by
 have hp:=F.ft.li.p
 refine .of hp F.f34 hr (fun v h1 hv q=>q) ?_
 have ka8:=us_llen ha.len
 have ka9:=us_take8 ha.len
 have kb8:=us_llen hb.len
 have kb9:=us_take8 hb.len
 have x0:Ext h (((h.push (.cells (cellsOf (sv a)) true 1)).push (.cells (cellsOf (sv b)) true 1)).push (.cells [I.O,I.O,I.O,I.O] true 1)):=(((Ext.refl h).push _).push _).push _
 have gA:(((h.push (.cells (cellsOf (sv a)) true 1)).push (.cells (cellsOf (sv b)) true 1)).push (.cells [I.O,I.O,I.O,I.O] true 1)).get h.next=some (.cells (us a) true 1):=by(simp(disch:=first|omega|(simp only[z1,z2];omega))only[z3,z4,z5,z6,z7,z1,z2];exact rfl)
 have gB:(((h.push (.cells (cellsOf (sv a)) true 1)).push (.cells (cellsOf (sv b)) true 1)).push (.cells [I.O,I.O,I.O,I.O] true 1)).get (h.next+1)=some (.cells (us b) true 1):=by(simp(disch:=first|omega|(simp only[z1,z2];omega)|(simp only[z1,z2];done)|fail)only[z8,z4,z5,z9,z7,z1,z2,gA];exact rfl)
 have gC:(((h.push (.cells (cellsOf (sv a)) true 1)).push (.cells (cellsOf (sv b)) true 1)).push (.cells [I.O,I.O,I.O,I.O] true 1)).get (h.next+2)=some (.cells [I.O,I.O,I.O,I.O] true 1):=by(simp(disch:=first|omega|(simp only[z1,z2];omega)|(simp only[z1,z2];done)|fail)only[z8,z4,z5,z9,z7,z1,z2,gA,gB];done)
 have n0:(((h.push (.cells (cellsOf (sv a)) true 1)).push (.cells (cellsOf (sv b)) true 1)).push (.cells [I.O,I.O,I.O,I.O] true 1)).next=h.next+3:=rfl
 refine y4 ?_;refine yB ?_;refine yB ?_;refine wO_val (a_new) ?_;refine yM ?_;refine y3 ?_;refine wE_scope ?_
 generalize(((h.push (.cells (cellsOf (sv a)) true 1)).push (.cells (cellsOf (sv b)) true 1)).push (.cells [I.O,I.O,I.O,I.O] true 1))=H at*
 have W:=x0.wf hr.wf
 have hL:=x0.log.trans hr.log
 by_cases he:b=s0
 ·have hf:fitB a b=true:=by unfold fitB;rw[decide_eq_true he];rfl
  rw[hf]
  have ck:ltake 4 (ldrop 0 (moL 0 (-7) (-7) (-7)))=moL 0 (-7) (-7) (-7):=rfl
  refine wE_seq ?_;refine y4 ?_;refine wO_val (a_loadN (by exact rfl) (by assumption) (by assumption) (by assumption)) ?_;refine wO_val (a_build (by exact rfl)) ?_
  refine wO_val (a_eqS (b:=s0) (by exact rfl) (by exact rfl) hb.len rfl) ?_
  rw[decide_eq_true he]
  refine y3 ?_;refine yY ?_;refine y4 ?_;refine wO_val (a_build (by exact rfl)) ?_;refine yS ?_;refine yM ?_
  refine y3 ?_;refine wE_ret ?_;refine kS_r ?_
  refine endA_ret ?_ (res_cells (own:=true) (s:=1) rfl ?_ ck rfl rfl) ⟨0, -7, -7, -7,rfl⟩
  ·rw[Heap.log_wr_new (by show h.next≤h.next+2;omega)];exact hL
  ·(simp(disch:=first|omega|(simp only[z1,z2];omega))only[z3,z4,z5,z6,z7,z1,z2,gA,gB,gC];exact rfl)
 ·rw[fitB_of he]
  refine wE_seq ?_;refine y4 ?_;refine wO_val (a_loadN (by exact rfl) (by assumption) (by assumption) (by assumption)) ?_;refine wO_val (a_build (by exact rfl)) ?_
  refine wO_val (a_eqS (b:=s0) (by exact rfl) (by exact rfl) hb.len rfl) ?_
  rw[decide_eq_false he]
  refine y3 ?_;refine yX ?_;refine wE_skip ?_;refine kS_n ?_
  refine wE_cutP (E0:=[(2, .pointer (some ⟨h.next,0,none⟩)),(3, .pointer (some ⟨h.next+1,0,none⟩)),(4, .pointer (some ⟨h.next+2,0,none⟩)),(6, .pointer (some ⟨H.next,0,none⟩))]) (P:=fun h'=>h'=H.push (.cells [I.O,I.O,I.O,I.O] true 1)) ?_ ?_
  ·refine wE_region ?_;refine wO_val (a_new) ?_;refine wO_nil ?_;refine y1 ?_
   exact⟨rfl,rfl,rfl,rfl⟩
  rintro _ rfl
  refine wE_cutP (E0:=[(2, .pointer (some ⟨h.next,0,none⟩)),(3, .pointer (some ⟨h.next+1,0,none⟩)),(4, .pointer (some ⟨h.next+2,0,none⟩)),(6, .pointer (some ⟨H.next,0,none⟩)),(7, .pointer (some ⟨H.next+1,0,none⟩))]) (P:=fun h'=>Ext H h'∧h'.next=H.next+2∧h'.get H.next=some (.cells [I.O,I.O,I.O,I.O] true 1)∧h'.get (H.next+1)=some (.cells [.bool false] true 1)) ?_ ?_
  ·refine wE_region ?_;refine wO_val (a_new) ?_
   refine yS ?_;refine wO_nil ?_
   refine y1 ?_
   exact⟨rfl,rfl,rfl,((Ext.refl H).push _).trans (ext_pw (by show h.next≤H.next+1;omega) _ _),rfl,by(simp(disch:=first|omega|(simp only[z1,z2];omega))only[z3,z4,z5,z6,z7,z1,z2,gA,gB,gC];done),by(simp(disch:=first|omega|(simp only[z1,z2];omega)|(simp only[z1,z2];done)|fail)only[z8,z4,z5,z9,z7,z1,z2,gA,gB,gC];exact rfl)⟩
  rintro H1 ⟨x1,n1,q6,q7⟩
  have ey1':=x0.trans x1
  have W1:=ey1'.wf hr.wf
  have hL1:=ey1'.log.trans hr.log
  have gA1:=(x1.old _ (by omega)).trans gA
  have gB1:=(x1.old _ (by omega)).trans gB
  have gC1:=(x1.old _ (by omega)).trans gC
  have C:=fits120 F (h:={H1 with log:=[]}) (.of W1) ha hb
  clear gA gB gC
  refine wE_seq ?_;refine wE_skip ?_;refine kS_n ?_;refine wE_seq ?_;refine y4 ?_;refine wO_val (a_loadN (by exact rfl) (by assumption) (by assumption) (by assumption)) ?_;refine wO_val (a_loadN (by exact rfl) (by assumption) (by assumption) (by assumption)) ?_
  refine yC ?_
  refine FW.al C (fun v h' m q=>q) ?_
  rintro _ H2 x2 ⟨qa,qb,rfl,ga,gb,kqa,kqb,na,nb⟩
  clear C
  have na:H1.next≤qa:=na
  have nb:H1.next≤qb:=nb
  have ey2':=ey1'.trans x2
  have W2:=ey2'.wf hr.wf
  have hL2:=ey2'.log.trans hr.log
  have n2:=x2.next
  have gC2:=(x2.old _ (by omega)).trans gC1
  have p6:=(x2.old _ (by omega)).trans q6
  have p7:=(x2.old _ (by omega)).trans q7
  have hg2:Tab H2:=hg.ext ey2' h2
  clear gA1 gB1 gC1 q6 q7
  refine y3 ?_;refine wE_block ?_
  refine wE_rangeM (px:= .exit 0) (lo:=H.next) (P:=PFi H2.next H2 (.loop [(4, .pointer (some ⟨h.next+2,0,none⟩)),(6, .pointer (some ⟨H.next,0,none⟩)),(7, .pointer (some ⟨H.next+1,0,none⟩)),(15,fnF qa qb)] [16,17] asg34 bod34 0 .normal) (fitsL a b)) (S:=SFi H2.next H.next (H.next+1) H2 (.loop [(4, .pointer (some ⟨h.next+2,0,none⟩)),(6, .pointer (some ⟨H.next,0,none⟩)),(7, .pointer (some ⟨H.next+1,0,none⟩)),(15,fnF qa qb)] [16,17] asg34 bod34 2 (.exit 0)) (fitsL a b)) rfl (by rfl) (by rw[F.ft.f209];rfl) (by omega) (by omega) hL2 W2 ?_ (fun H p=>⟨_,_,_,_,p.loop⟩) (fun H p=>⟨_,_,_,_,p.loop⟩) ?_ ?_
  ·have Y:YldM (.exit 0) T H.next (H2.next+1) H2.next fiV (fitsL a b) (PFi H2.next H2 (.loop [(4, .pointer (some ⟨h.next+2,0,none⟩)),(6, .pointer (some ⟨H.next,0,none⟩)),(7, .pointer (some ⟨H.next+1,0,none⟩)),(15,fnF qa qb)] [16,17] asg34 bod34 0 .normal)) (SFi H2.next H.next (H.next+1) H2 (.loop [(4, .pointer (some ⟨h.next+2,0,none⟩)),(6, .pointer (some ⟨H.next,0,none⟩)),(7, .pointer (some ⟨H.next+1,0,none⟩)),(15,fnF qa qb)] [16,17] asg34 bod34 2 (.exit 0)) (fitsL a b)):=by
    refine⟨fun done f Hh hx hrH hN hP=> ?_,fun done Ha Hb p n e=>⟨p.done,fun z hz=>(e z (by omega)).trans (p.old z hz),(e _ (by omega)).trans p.loop⟩,fun Hh m p=>⟨p.ne,p.old,p.loop,p.v6,p.v7⟩,fun Hh p=>⟨_,_,_,_,p.loop⟩⟩
    refine FW.mono' (fi_round hp hrH (f:=f) (lo:=H.next) (N:=H2.next+1) (R:=fun _=>False) (Nat.le_refl _) (Nat.lt_succ_self _) (by omega) (by omega) (m6:=[I.O,I.O,I.O,I.O]) rfl hP.loop ((hP.old _ (by omega)).trans p6) ((hP.old _ (by omega)).trans p7)) ?_
    rintro r' H' ⟨r1,r2⟩
    refine⟨r1,r2.imp (fun⟨_,e⟩=>e.elim) fun⟨e1,e2,e3,e4,e5,e6⟩=>⟨e1,e2,List.ne_nil_of_mem hx,fun z hz z6 z7=>(e3 z (by omega) z6 z7 (by omega)).trans (hP.old z hz),e4,⟨_,_,_,_,e5⟩,e6⟩⟩
   exact fits209 F.ft (.of (W2.push (.loop [(4, .pointer (some ⟨h.next+2,0,none⟩)),(6, .pointer (some ⟨H.next,0,none⟩)),(7, .pointer (some ⟨H.next+1,0,none⟩)),(15,fnF qa qb)] [16,17] asg34 bod34 0 .normal))) (px:= .exit 0) (qa:=qa) (qb:=qb) (l:=H2.next) (N:=H2.next+1) (lo:=H.next) ha hb (Nat.le_refl _) (by show H.next≤H2.next+1;omega) (Nat.lt_succ_self _) (by omega) Y (fun d H' hP=>(hP.old _ kqa).trans ga) (fun d H' hP=>(hP.old _ kqb).trans gb) (fun d H' hP=>(hP.old 2 (by omega)).trans hg2)
    ⟨rfl,fun z hz=>z4 hz,z3 _ _⟩
  ·intro h4 h5 k1 k2 k3 k4 k5 hP
   have D4:=(k5 (h.next+2) (by omega)).trans ((hP.old _ (by omega)).trans gC2)
   have D6:=(k5 H.next (by omega)).trans ((hP.old _ (by omega)).trans p6)
   have D7:=(k5 (H.next+1) (by omega)).trans ((hP.old _ (by omega)).trans p7)
   have hd:=hP.done
   rw[hd]
   have ck:ltake 4 (ldrop 0 (moL 0 0 0 0))=moL 0 0 0 0:=rfl
   refine kB_n ?_;refine kS_n ?_;refine wE_seq ?_;refine wE_draw ?_;refine qN ?_;refine qL ?_
   refine wD_store rfl rfl rfl (by exact rfl) (by exact rfl) (by exact rfl) (by assumption) (by exact rfl) (by exact rfl) (by omega) (by omega) (by apply ra_keepC rfl (rq_quiet rfl (a_load (by exact rfl) (by(simp(disch:=first|omega|(simp only[z1,z2];omega))only[z3,z4,z5,z6,z7,z1,z2,ga,gb,gC2,p6,p7,D4,D6,D7];exact rfl)) (by exact rfl)) (by exact sv_bool _)) rfl;apply ra_dropC rfl;exact ra_nil) ?_
   refine qM ?_;refine wD_nil ?_;refine y1 ?_;refine kS_n ?_;refine wE_ret ?_
   refine endA_ret ?_ (res_cells (own:=true) (s:=1) rfl ?_ ck rfl rfl) ⟨0,0,0,0,rfl⟩
   ·rw[Heap.log_wr_new (by show h.next≤h.next+2;omega)];exact k1
   ·(simp(disch:=first|omega|(simp only[z1,z2];omega))only[z3,z4,z5,z6,z7,z1,z2,ga,gb,gC2,p6,p7,D4,D6,D7];exact rfl)
  ·intro h4 h5 k1 k2 k3 k4 k5 hP
   obtain⟨s1,s2,s3,⟨t,x,y,z,s4⟩,s5⟩:=hP
   have D4:=(k5 (h.next+2) (by omega)).trans ((s2 _ (by omega) (by omega) (by omega)).trans gC2)
   have D6:=(k5 H.next (by omega)).trans s4
   have D7:=(k5 (H.next+1) (by omega)).trans s5
   have hd:(fitsL a b).isEmpty=false:=by
    cases hq:fitsL a b with
    |nil=>exact absurd hq s1
    |cons _ _=>rfl
   rw[hd]
   have ck:ltake 4 (ldrop 0 (moL t x y z))=moL t x y z:=rfl
   have ckl:Nat.beq (llen (moL t x y z)) 4=true:=rfl
   have cko:ones (moL t x y z)=true:=rfl
   have ck4:(moL t x y z).length=4:=rfl
   refine kB_e ?_;refine kS_n ?_;refine wE_seq ?_;refine wE_draw ?_;refine qN ?_;refine qL ?_
   refine wD_store rfl rfl rfl (by exact rfl) (by exact rfl) (by exact rfl) (by assumption) (by exact rfl) (by exact rfl) (by omega) (by omega) (by apply ra_keepC rfl (rq_quiet rfl (a_load (by exact rfl) (by(simp(disch:=first|omega|(simp only[z1,z2];omega))only[z3,z4,z5,z6,z7,z1,z2,ga,gb,gC2,p6,p7,s3,s5,s4,D4,D6,D7];exact rfl)) (by exact rfl)) (by exact sv_bool _)) rfl;apply ra_dropC rfl;exact ra_nil) ?_
   refine qM ?_;refine wD_nil ?_;refine y1 ?_;refine kS_n ?_;refine wE_ret ?_
   refine endA_ret ?_ (res_cells (own:=true) (s:=1) rfl ?_ ck rfl rfl) ⟨t,x,y,z,rfl⟩
   ·rw[Heap.log_wr_new (by show h.next≤h.next+2;omega)];exact k1
   ·(simp(disch:=first|omega|(simp only[z1,z2];omega))only[z3,z4,z5,z6,z7,z1,z2,ga,gb,gC2,p6,p7,s3,s5,s4,D4,D6,D7];exact rfl)
end Go.A.Pk
end
section
set_option maxRecDepth 100000
namespace Go.A.Pk
variable {T:Nat→Option AFunc}
structure FnsSv (T:Nat→Option AFunc):Prop where
 fi:FnsFi T
 f33:T 33=some f33
 f89:T 89=some f89
 f90:T 90=some f90
theorem isWood89(F:FnsSv T){h:Heap}(hr:Rdy h){w:List Nat×List Nat}(hw:IsW w):Pu T 89 [wV w] h (.bool (sIn w.1 w.2)):=by
 have hp:=F.fi.ft.li.p
 refine .of hp F.f89 hr rfl ?_
 have hwc:cellsOf (wV w)=wL w:=by show(wL w).toArray.toList=_;simp
 have g0:(h.push (.cells (cellsOf (wV w)) true 1)).get h.next=some (.cells (wL w) true 1):=by rw[hwc];exact z3 h _
 have W:WF (h.push (.cells (cellsOf (wV w)) true 1)):=hr.wf.push _
 have hL:(h.push (.cells (cellsOf (wV w)) true 1)).log=[]:=hr.log
 refine y4 ?_;refine yB ?_;refine yM ?_;refine y3 ?_
 generalize(h.push (.cells (cellsOf (wV w)) true 1))=H at*
 have C:=in35 hp F.fi.ft.f35 F.fi.ft.f121 (h:={H with log:=[]}) (.of W) hw.a hw.b
 have wa:=wL_a hw
 have wb:=wL_b hw
 have wka:=us_llen hw.a.len
 have wkb:=us_llen hw.b.len
 refine y4 ?_;refine yF ?_;refine wO_val (a_loadN (by exact rfl) (by assumption) (by assumption) (by assumption)) ?_;refine yF ?_;refine wO_val (a_loadN (by exact rfl) (by assumption) (by assumption) (by assumption)) ?_
 refine yC ?_
 refine FW.pu C ?_
 refine yM ?_;refine y3 ?_;refine wE_ret ?_
 exact endP_ret hL rfl rfl
def svR(w:List Nat×List Nat)(o:List Nat):Nat×Int:=
 if sIn w.1 w.2=false∨o=s0 then(0,1)else if fitB w.1 o then(1,0)else if fitB w.2 o then(3,0)else(2,0)
def svV(p:Nat×Int):Value:= .tuple #[.int .u8 (p.1:Nat), .int .i64 p.2]
set_option maxHeartbeats 8000000 in
theorem serves33(F:FnsSv T){h:Heap}(hr:Rdy h)(hg:Tab h)(h2:2<h.next){w:List Nat×List Nat}(hw:IsW w){o:List Nat}(ho:IsS o):Pu T 33 [wV w,sv o] h (svV (svR w o)):=by
 have hp:=F.fi.ft.li.p
 refine .of hp F.f33 hr rfl ?_
 have hwc:cellsOf (wV w)=wL w:=by show(wL w).toArray.toList=_;simp
 have g0:((h.push (.cells (cellsOf (wV w)) true 1)).push (.cells (cellsOf (sv o)) true 1)).get h.next=some (.cells (wL w) true 1):=by rw[hwc];exact(z4 (Nat.lt_succ_self _)).trans (z3 h _)
 have g1:((h.push (.cells (cellsOf (wV w)) true 1)).push (.cells (cellsOf (sv o)) true 1)).get (h.next+1)=some (.cells (us o) true 1):=z3 _ _
 have n0:((h.push (.cells (cellsOf (wV w)) true 1)).push (.cells (cellsOf (sv o)) true 1)).next=h.next+2:=rfl
 have x0:Ext h ((h.push (.cells (cellsOf (wV w)) true 1)).push (.cells (cellsOf (sv o)) true 1)):=((Ext.refl h).push _).push _
 refine y4 ?_;refine yB ?_;refine yB ?_;refine yM ?_;refine yM ?_;refine y3 ?_
 generalize((h.push (.cells (cellsOf (wV w)) true 1)).push (.cells (cellsOf (sv o)) true 1))=H at*
 have W:=x0.wf hr.wf
 have hL:=x0.log.trans hr.log
 have wk:=wL_all hw
 have wkl:=wL_llen hw
 have wa:=wL_a hw
 have wb:=wL_b hw
 have wka:=us_llen hw.a.len
 have wkb:=us_llen hw.b.len
 have k8:=us_llen ho.len
 have k9:=us_take8 ho.len
 have C1:=isWood89 F (h:={H with log:=[]}) (.of W) hw
 have C2:=empty90 hp F.f90 (h:={H with log:=[]}) (.of W) ho
 have C3:=fits34 F.fi (h:={H with log:=[]}) (.of W) (show Tab H from hg.ext x0 h2) (by show 2<H.next;omega) hw.a ho
 unfold svR
 cases hin:sIn w.1 w.2 with
 |false=>
  rw[hin]at C1
  rw[if_pos (.inl rfl)]
  refine wE_seq ?_;refine y4 ?_;refine wO_val (a_loadN (by exact rfl) (by assumption) (by assumption) (by assumption)) ?_
  refine yC ?_
  refine FW.pu C1 ?_
  refine yA ?_;refine yM ?_;refine yP ?_;refine yP ?_;refine yT ?_;refine y3 ?_
  refine yY ?_;refine y4 ?_;refine yM ?_;refine yM ?_;refine y3 ?_;refine wE_ret ?_;refine kS_r ?_
  exact endP_ret hL rfl rfl
 |true=>
  rw[hin]at C1
  by_cases hz:o=s0
  ·rw[if_pos (.inr hz)]
   rw[decide_eq_true hz]at C2
   refine wE_seq ?_;refine y4 ?_;refine wO_val (a_loadN (by exact rfl) (by assumption) (by assumption) (by assumption)) ?_
   refine yC ?_
   refine FW.pu C1 ?_
   refine yA ?_;refine yM ?_;refine yO ?_;refine wO_val (a_loadN (by exact rfl) (by assumption) (by assumption) (by assumption)) ?_;refine yO ?_
   refine yC ?_
   refine FW.pu C2 ?_
   refine yU ?_;refine y3 ?_;refine yY ?_;refine y4 ?_;refine yM ?_;refine yM ?_;refine y3 ?_;refine wE_ret ?_;refine kS_r ?_
   exact endP_ret hL rfl rfl
  ·rw[if_neg (fun q=>q.elim (by simp) hz)]
   rw[decide_eq_false hz]at C2
   refine wE_seq ?_;refine y4 ?_;refine wO_val (a_loadN (by exact rfl) (by assumption) (by assumption) (by assumption)) ?_
   refine yC ?_
   refine FW.pu C1 ?_
   refine yA ?_;refine yM ?_;refine yO ?_;refine wO_val (a_loadN (by exact rfl) (by assumption) (by assumption) (by assumption)) ?_;refine yO ?_
   refine yC ?_
   refine FW.pu C2 ?_
   clear C1 C2
   refine yU ?_;refine y3 ?_;refine yX ?_;refine wE_skip ?_;refine kS_n ?_;refine wE_seq ?_;refine y4 ?_;refine yF ?_
   refine wO_val (a_loadN (by exact rfl) (by assumption) (by assumption) (by assumption)) ?_;refine wO_val (a_loadN (by exact rfl) (by assumption) (by assumption) (by assumption)) ?_
   refine yC ?_
   refine FW.al C3 (fun v h' m q=>q) ?_
   rintro _ H1 x1 ⟨t,x,y,z,rfl⟩
   clear C3
   have n1:=x1.next
   have ey1':=x0.trans x1
   have g01:=(x1.old _ (by omega)).trans g0
   have g11:=(x1.old _ (by omega)).trans g1
   have hL1:=x1.log.trans hL
   have x2:=ext_pw (h:=H1) (base:=h.next) (by omega) (.cells [I.O,I.O,I.O,I.O] true 1) (.cells (lputs [I.O,I.O,I.O,I.O] 0 (cellsOf (moV t x y z))) true 1)
   have n2:((H1.push (.cells [I.O,I.O,I.O,I.O] true 1)).wr h.next H1.next (.cells (lputs [I.O,I.O,I.O,I.O] 0 (cellsOf (moV t x y z))) true 1)).next=H1.next+1:=rfl
   clear g0 g1
   cases hf1:fitB w.1 o with
   |true=>
    rw[if_pos rfl]
    refine yM ?_;refine yE ?_;refine yE ?_;refine wO_val (a_new) ?_
    refine yS ?_;refine yM ?_;refine y3 ?_;refine y4 ?_;refine yM ?_;refine y3 ?_;refine yY ?_;refine y4 ?_;refine yM ?_;refine yM ?_;refine y3 ?_;refine wE_ret ?_;refine kS_r ?_
    exact endP_ret ((Heap.log_wr_new (by omega)).trans hL1) rfl rfl
   |false=>
    rw[if_neg (by simp)]
    refine yM ?_;refine yE ?_;refine yE ?_;refine wO_val (a_new) ?_
    refine yS ?_;refine yM ?_;refine y3 ?_;refine y4 ?_;refine yM ?_;refine y3 ?_;refine yX ?_;refine wE_skip ?_;refine kS_n ?_
    refine wE_seq ?_
    generalize((H1.push (.cells [I.O,I.O,I.O,I.O] true 1)).wr h.next H1.next (.cells (lputs [I.O,I.O,I.O,I.O] 0 (cellsOf (moV t x y z))) true 1))=H2 at*
    have ey2':=ey1'.trans x2
    have W2:=ey2'.wf hr.wf
    have hL2:=x2.log.trans hL1
    have g02:=(x2.old _ (by omega)).trans g01
    have g12:=(x2.old _ (by omega)).trans g11
    have C4:=fits34 F.fi (h:={H2 with log:=[]}) (.of W2) (show Tab H2 from hg.ext ey2' h2) (by show 2<H2.next;omega) hw.b ho
    clear g01 g11
    refine y4 ?_;refine yF ?_;refine wO_val (a_loadN (by exact rfl) (by assumption) (by assumption) (by assumption)) ?_;refine wO_val (a_loadN (by exact rfl) (by assumption) (by assumption) (by assumption)) ?_
    refine yC ?_
    refine FW.al C4 (fun v h' m q=>q) ?_
    rintro _ H3 x3 ⟨t',x',y',z',rfl⟩
    clear C4
    have n3:=x3.next
    have hL3:=x3.log.trans hL2
    cases hf2:fitB w.2 o with
    |true=>
     rw[if_pos rfl]
     refine yM ?_;refine yE ?_;refine yE ?_;refine wO_val (a_new) ?_
     refine yS ?_;refine yM ?_;refine y3 ?_;refine y4 ?_;refine yM ?_;refine y3 ?_;refine yY ?_;refine y4 ?_;refine yM ?_;refine yM ?_;refine y3 ?_;refine wE_ret ?_;refine kS_r ?_
     exact endP_ret ((Heap.log_wr_new (by omega)).trans hL3) rfl rfl
    |false=>
     rw[if_neg (by simp)]
     refine yM ?_;refine yE ?_;refine yE ?_;refine wO_val (a_new) ?_
     refine yS ?_;refine yM ?_;refine y3 ?_;refine y4 ?_;refine yM ?_;refine y3 ?_;refine yX ?_;refine wE_skip ?_;refine kS_n ?_
     refine y4 ?_;refine yM ?_;refine yM ?_;refine y3 ?_;refine wE_ret ?_
     exact endP_ret ((Heap.log_wr_new (by omega)).trans hL3) rfl rfl
end Go.A.Pk
end
section
set_option maxRecDepth 100000
namespace Go.A.Pk
def mlo(f:Ce→Int)(m:Int)(l:List Ce):Int:=l.foldl (fun m c=>mi m (f c)) m
def mhi(f:Ce→Int)(m:Int)(l:List Ce):Int:=l.foldl (fun m c=>mx m (f c)) m
theorem mi_le1(a b:Int):mi a b≤a:=by unfold mi;split<;>omega
theorem mi_le2(a b:Int):mi a b≤b:=by unfold mi;split<;>omega
theorem mx_ge1(a b:Int):a≤mx a b:=by unfold mx;split<;>omega
theorem mx_ge2(a b:Int):b≤mx a b:=by unfold mx;split<;>omega
theorem mi_ge{k a b:Int}(h1:k≤a)(h2:k≤b):k≤mi a b:=by unfold mi;split<;>omega
theorem mx_le{k a b:Int}(h1:a≤k)(h2:b≤k):mx a b≤k:=by unfold mx;split<;>omega
theorem mlo_le(f:Ce→Int):∀(l:List Ce) (m:Int),mlo f m l≤m∧∀c∈l,mlo f m l≤f c
 |[],m=>⟨Int.le_refl _,fun c hc=>by cases hc⟩
 |c::l,m=>by
  obtain⟨h1,h2⟩:=mlo_le f l (mi m (f c))
  refine⟨Int.le_trans h1 (mi_le1 _ _),fun d hd=> ?_⟩
  rcases List.mem_cons.1 hd with rfl|hd
  ·exact Int.le_trans h1 (mi_le2 _ _)
  ·exact h2 d hd
theorem mlo_ge(f:Ce→Int){k:Int}:∀(l:List Ce) (m:Int),k≤m→(∀c∈l,k≤f c)→k≤mlo f m l
 |[],_,h,_=>h
 |c::l,m,h,hl=>mlo_ge f l (mi m (f c)) (mi_ge h (hl c List.mem_cons_self)) fun d hd=>hl d (List.mem_cons_of_mem _ hd)
theorem mhi_ge(f:Ce→Int):∀(l:List Ce) (m:Int),m≤mhi f m l∧∀c∈l,f c≤mhi f m l
 |[],m=>⟨Int.le_refl _,fun c hc=>by cases hc⟩
 |c::l,m=>by
  obtain⟨h1,h2⟩:=mhi_ge f l (mx m (f c))
  refine⟨Int.le_trans (mx_ge1 _ _) h1,fun d hd=> ?_⟩
  rcases List.mem_cons.1 hd with rfl|hd
  ·exact Int.le_trans (mx_ge2 _ _) h1
  ·exact h2 d hd
theorem mhi_le(f:Ce→Int){k:Int}:∀(l:List Ce) (m:Int),m≤k→(∀c∈l,f c≤k)→mhi f m l≤k
 |[],_,h,_=>h
 |c::l,m,h,hl=>mhi_le f l (mx m (f c)) (mx_le h (hl c List.mem_cons_self)) fun d hd=>hl d (List.mem_cons_of_mem _ hd)
theorem mlo_sub(f:Ce→Int){l l':List Ce}(h:∀c∈l,c∈l')(m:Int):mlo f m l'≤mlo f m l:=
 mlo_ge f l m (mlo_le f l' m).1 fun c hc=>(mlo_le f l' m).2 c (h c hc)
theorem mhi_sub(f:Ce→Int){l l':List Ce}(h:∀c∈l,c∈l')(m:Int):mhi f m l≤mhi f m l':=
 mhi_le f l m (mhi_ge f l' m).1 fun c hc=>(mhi_ge f l' m).2 c (h c hc)
theorem bx_fold:∀(l:List Ce) (b:Bx),l.foldl bxUp b=⟨⟨mlo (·.x) b.lo.x l,mlo (·.y) b.lo.y l,mlo (·.z) b.lo.z l⟩,⟨mhi (·.x) b.hi.x l,mhi (·.y) b.hi.y l,mhi (·.z) b.hi.z l⟩⟩
 |[],b=>rfl
 |c::l,b=>by rw[List.foldl_cons,bx_fold l (bxUp b c)];rfl
theorem bxS_eq(l:List Ce):bxS l=⟨⟨mlo (·.x) 7 l,mlo (·.y) 7 l,mlo (·.z) 7 l⟩,⟨mhi (·.x) 0 l,mhi (·.y) 0 l,mhi (·.z) 0 l⟩⟩:=bx_fold l bx0
def Sub(a b:List Nat):Prop:=∀c,sHas a c=true→sHas b c=true
theorem Sub.cells{a b:List Nat}(h:Sub a b){n:Nat}{c:Ce}(hc:c∈cellsTo a n):c∈cellsTo b n:=by
 obtain⟨h1,h2⟩:=List.mem_filter.1 hc
 exact List.mem_filter.2 ⟨h1,h c h2⟩
theorem filter_le{α:Type}{p q:α→Bool}(h:∀x,p x=true→q x=true):∀l:List α,(l.filter p).length≤(l.filter q).length
 |[]=>Nat.le_refl _
 |x::l=>by
  have ih:=filter_le h l
  rw[List.filter_cons,List.filter_cons]
  by_cases hp:p x=true
  ·rw[if_pos hp,if_pos (h x hp)];simpa using ih
  ·rw[if_neg hp]
   split
   ·exact Nat.le_succ_of_le ih
   ·exact ih
theorem Sub.cnt{a b:List Nat}(h:Sub a b):cntS a≤cntS b:=filter_le h _
theorem sIn_iff{a b:List Nat}(ha:IsS a)(hb:IsS b):sIn a b=true↔Sub a b:=by
 unfold sIn
 rw[decide_eq_true_eq]
 constructor
 ·intro h c hc
  have e:sHas (sMeet a b) c=sHas a c:=by rw[h]
  rw[sHas_meet ha hb,hc,Bool.true_and]at e
  exact e
 ·intro h
  refine has_ext (ha.meet hb) ha fun z i hz hi=> ?_
  rw[sHas_meet ha hb]
  cases hc:sHas a (ceOf z i)with
  |false=>rfl
  |true=>rw[h _ hc];rfl
theorem zr_sub{lo hi lo' hi' z:Int}(h1:lo'≤lo)(h2:hi≤hi')(h:z∈zr lo hi):z∈zr lo' hi':=by
 obtain⟨n,hn,rfl⟩:=List.mem_map.1 h
 have hn:=List.mem_range.1 hn
 refine List.mem_map.2 ⟨(lo+(n:Nat)-lo').toNat,List.mem_range.2 (by omega),by omega⟩
theorem fits_more{a a' b:List Nat}(ha:IsS a)(ha':IsS a')(h:Sub a a'){f:Fi}(hf:f∈fitsL a b):f∈fitsL a' b:=by
 unfold fitsL at hf⊢
 split at hf
 ·cases hf
 ·rename_i hn
  have h0:¬a=s0:=fun q=>hn (.inl q)
  have h0':¬a'=s0:=fun q=>h0 (has_ext ha s0_ok fun z i hz hi=>by
   cases hc:sHas a (ceOf z i)with
   |false=>rw[sHas_s0]
   |true=>
    have:=h _ hc
    rw[q]at this
    rw[this])
  have hcn:¬cntS a'<cntS b:=fun q=>hn (.inr (Nat.lt_of_le_of_lt h.cnt q))
  rw[if_neg (fun q=>q.elim h0' hcn)]
  obtain⟨t,ht,hf⟩:=List.mem_flatMap.1 hf
  refine List.mem_flatMap.2 ⟨t,ht,?_⟩
  have e1:(bndS a).1=bxS (cellsTo a 512):=by unfold bndS;rw[if_neg h0]
  have e2:(bndS a').1=bxS (cellsTo a' 512):=by unfold bndS;rw[if_neg h0']
  have hs:∀c∈cellsTo a 512,c∈cellsTo a' 512:=fun c hc=>h.cells hc
  unfold fitT at hf⊢
  rw[e1,bxS_eq]at hf
  rw[e2,bxS_eq]
  unfold fitZ at hf⊢
  obtain⟨z,hz,hf⟩:=List.mem_flatMap.1 hf
  have m1:=mlo_sub (·.z) hs 7
  have m2:=mhi_sub (·.z) hs 0
  have m3:=mlo_sub (·.y) hs 7
  have m4:=mhi_sub (·.y) hs 0
  have m5:=mlo_sub (·.x) hs 7
  have m6:=mhi_sub (·.x) hs 0
  refine List.mem_flatMap.2 ⟨z,zr_sub (by dsimp only;omega) (by dsimp only;omega) hz,?_⟩
  unfold fitY at hf⊢
  obtain⟨y,hy,hf⟩:=List.mem_flatMap.1 hf
  refine List.mem_flatMap.2 ⟨y,zr_sub (by dsimp only;omega) (by dsimp only;omega) hy,?_⟩
  unfold fitX at hf⊢
  obtain⟨x,hx,hf⟩:=List.mem_flatMap.1 hf
  refine List.mem_flatMap.2 ⟨x,zr_sub (by dsimp only;omega) (by dsimp only;omega) hx,?_⟩
  unfold tryX at hf⊢
  split at hf
  ·rename_i hin
   have hl:=liftN_ok (spunS_ok b t) (bndS (spunS b t)).1.lo.z.toNat z (8*y+x) ((bndS (spunS b t)).1.hi.z-(bndS (spunS b t)).1.lo.z+1).toNat
   have hin2:sIn (liftS (spunS b t) (bndS (spunS b t)).1 x y z) a'=true:=(sIn_iff hl ha').2 fun c hc=>h c ((sIn_iff hl ha).1 hin c hc)
   rw[if_pos hin2];exact hf
  ·cases hf
theorem fitB_more{a a' b:List Nat}(ha:IsS a)(ha':IsS a')(h:Sub a a')(hf:fitB a b=true):fitB a' b=true:=by
 unfold fitB at hf⊢
 rw[Bool.or_eq_true]at hf⊢
 rcases hf with hf|hf
 ·exact .inl hf
 ·right
  cases hq:fitsL a b with
  |nil=>rw[hq]at hf;cases hf
  |cons f r=>
   have:=fits_more ha ha' h (f:=f) (by rw[hq];exact List.mem_cons_self)
   cases hq':fitsL a' b with
   |nil=>rw[hq']at this;cases this
   |cons _ _=>rfl
end Go.A.Pk
end
section
set_option maxRecDepth 100000
namespace Go.A.Pk
def earR(day:Int)(l:List Rd):List Rd:=l.filter fun r=>decide (r.known≤day)
theorem ear_take(day:Int):∀{l:List Rd},(l.Pairwise fun a b=>a.id≠b.id∧a.known≤b.known)→earR day l=l.take (earR day l).length
 |[],_=>rfl
 |r::l,h=>by
  obtain⟨h1,h2⟩:=List.pairwise_cons.1 h
  have ih:=ear_take day h2
  unfold earR at ih⊢
  rw[List.filter_cons]
  by_cases hr:r.known≤day
  ·rw[if_pos (decide_eq_true hr),List.length_cons,List.take_succ_cons,←ih]
  ·rw[if_neg (by simpa using hr)]
   have:l.filter (fun r=>decide (r.known≤day))=[]:=List.filter_eq_nil_iff.2 fun x hx e=>hr (Int.le_trans (h1 x hx).2 (of_decide_eq_true e))
   rw[this];rfl
theorem ear_chk{day:Int}{l:List Rd}(h:(chkR refR l).2=0):(chkR refR (earR day l)).2=0:=by
 rw[ear_take day (chk_pair h)]
 generalize(earR day l).length=n
 refine chkF_zero (fun j r hj=> ?_) _ _
 have hjl:=(List.getElem?_eq_some_iff.1 hj).1
 rw[List.length_take]at hjl
 rw[List.getElem?_take_of_lt (by omega)]at hj
 rw[List.take_take,Nat.min_eq_left (by omega)]
 exact chk_all h hj
theorem ear_gone(day:Int)(l:List Rd)(z:Int):gone day (earR day l) z=gone day l z:=by
 unfold gone earR
 rw[List.any_filter]
 congr 1
 funext r
 cases decide (r.known≤day)<;>simp
theorem ear_cnt(day:Int)(l:List Rd):cntR day (earR day l)=cntR day l:=by
 unfold cntR
 have e:cntQ day (earR day l)=cntQ day l:=by
  funext r
  unfold cntQ
  rw[ear_gone]
 rw[e]
 unfold earR
 rw[List.filter_filter]
 congr 1
 funext r
 unfold cntQ
 cases decide (r.known≤day)<;>simp
theorem ear_kno{bl:List Nat}{l:List Rd}{day:Int}(h:(chkR refR l).2=0):knoR bl (earR day l) day=knoR bl l day:=by
 unfold knoR
 rw[ear_chk h,h,ear_cnt]
theorem void_named{l:List Rd}{r:Rd}(h:refR l r=0)(hk:r.kind=3):∃q∈l,q.id=r.of:=by
 obtain⟨h1,h2,h3,h4⟩:=refR_ok h
 have h5:ckR r=0:=by unfold ckR;rw[h2];rfl
 have h6:¬ (l.any fun q=>decide (q.id=r.id))=true:=fun e=>by
  obtain⟨q,hq,e⟩:=List.any_eq_true.1 e
  exact h3 q hq (of_decide_eq_true e)
 unfold refR at h
 rw[if_neg (by omega),if_neg (fun q=>q h5),if_neg h6,h4,if_neg (by simp),if_neg (fun q=>q hk)]at h
 cases hn:namedR l r.of with
 |false=>rw[hn]at h;cases h
 |true=>
  unfold namedR at hn
  obtain⟨q,hq,e⟩:=List.any_eq_true.1 hn
  rw[Bool.and_eq_true]at e
  exact⟨q,hq,of_decide_eq_true e.2⟩
theorem cnt_more{l:List Rd}{x:Rd}(h:(chkR refR l).2=0)(hx:refR l x=0)(hk:x.kind≠3):cntR x.known (l++[x])=cntR x.known l++[x]:=by
 have hg:∀z,gone x.known (l++[x]) z=gone x.known l z:=fun z=>by
  unfold gone
  rw[List.any_append]
  simp[hk]
 have e:cntQ x.known (l++[x])=cntQ x.known l:=by
  funext r
  unfold cntQ
  rw[hg]
 have hgx:gone x.known l x.id=false:=by
  unfold gone
  rw[List.any_eq_false]
  intro r hr e
  rw[Bool.and_eq_true,Bool.and_eq_true]at e
  obtain⟨j,hj⟩:=List.getElem?_of_mem hr
  obtain⟨q,hq,e2⟩:=void_named (chk_all h hj) (of_decide_eq_true e.1.1)
  exact(refR_ok hx).2.2.1 q (List.mem_of_mem_take hq) (e2.trans (of_decide_eq_true e.2))
 unfold cntR
 rw[e,List.filter_append]
 congr 1
 have:cntQ x.known l x=true:=by
  unfold cntQ
  rw[hgx,decide_eq_true hk,decide_eq_true (Int.le_refl _)];rfl
 rw[List.filter_cons_of_pos this];rfl
theorem seen_more{bl:List Nat}{l:List Rd}{x:Rd}(h:(chkR refR l).2=0)(hx:refR l x=0)(hk:x.kind≠3):seenW bl (cntR x.known (l++[x]))=seeR (seenW bl (cntR x.known l)) x:=by
 rw[cnt_more h hx hk]
 unfold seenW
 rw[List.foldl_append];rfl
theorem see_sub{w:List Nat×List Nat}(hw:IsW w){x:Rd}(hx:IsR x):Sub w.1 (seeR w x).1∧Sub (seeR w x).2 w.2:=by
 unfold seeR
 split
 ·refine⟨fun c hc=> ?_,fun c hc=>hc⟩
  rw[sHas_join hw.a hx.cells,hc];rfl
 ·refine⟨fun c hc=>hc,fun c hc=> ?_⟩
  rw[sHas_less hw.b hx.cells,Bool.and_eq_true]at hc
  exact hc.1
theorem Sub.trans{a b c:List Nat}(h1:Sub a b)(h2:Sub b c):Sub a c:=fun x hx=>h2 x (h1 x hx)
theorem later_law{bl:List Nat}(hb:IsS bl){l:List Rd}(hl:∀r∈l,IsR r){x:Rd}(hR:IsR x)(h:(chkR refR l).2=0)(ha:appE refR l x=0)(hk:x.kind≠3):
 ((knoR bl l x.known).2≠0→(knoR bl (l++[x]) x.known).2≠0)∧
 ((knoR bl l x.known).2=0→(knoR bl (l++[x]) x.known).2=0→∀o,IsS o→(svR (knoR bl l x.known).1 o).2=(svR (knoR bl (l++[x]) x.known).1 o).2∧
   ((svR (knoR bl l x.known).1 o).2≠0∨(svR (knoR bl l x.known).1 o).1=3∨(svR (knoR bl (l++[x]) x.known).1 o).1=(svR (knoR bl l x.known).1 o).1)):=by
 have hm:=(appE_zero ha).2
 have hx:refR l x=0:=by
  unfold appE at ha
  rw[if_neg (fun q=>q h)]at ha
  exact ha
 have hwl:∀r∈cntR x.known l,IsR r:=fun r hr=>hl r (List.mem_filter.1 hr).1
 have hw:=seenW_ok hb hwl
 have hsee:=seen_more (bl:=bl) h hx hk
 unfold knoR
 rw[hm,h,hsee]
 rw[if_neg (show¬ (0:Int)≠0 by simp),if_neg (show¬ (0:Int)≠0 by simp)]
 generalize seenW bl (cntR x.known l)=w at*
 have hw':=hw.see hR
 obtain⟨s1,s2⟩:=see_sub hw hR
 generalize seeR w x=w' at*
 by_cases h1:sIn w.1 w.2=true
 ·rw[if_pos h1]
  refine⟨fun q=>absurd rfl q,fun _ h2 o ho=> ?_⟩
  by_cases h3:sIn w'.1 w'.2=true
  ·rw[if_pos h3]at h2⊢
   dsimp only
   have i1:=(sIn_iff hw.a hw.b).1 h1
   have i2:=(sIn_iff hw'.a hw'.b).1 h3
   unfold svR
   by_cases ho0:o=s0
   ·rw[if_pos (.inr ho0),if_pos (.inr ho0)]
    exact⟨rfl, .inl (by simp)⟩
   ·have g:∀v:List Nat×List Nat,sIn v.1 v.2=true→svR v o=if fitB v.1 o then(1,0)else if fitB v.2 o then(3,0)else(2,0):=fun v hv=>by
     unfold svR
     rw[if_neg]
     rintro(e|e)
     ·rw[hv]at e;cases e
     ·exact ho0 e
    have g1:=g w h1
    have g2:=g w' h3
    unfold svR at g1 g2
    rw[g1,g2]
    cases f1:fitB w.1 o with
    |true=>
     have:=fitB_more hw.a hw'.a s1 f1
     rw[this]
     simp
    |false=>
     cases f2:fitB w.2 o with
     |true=>
      cases fitB w'.1 o<;>cases fitB w'.2 o<;>simp
     |false=>
      have f3:fitB w'.2 o=false:=by
       cases e:fitB w'.2 o with
       |false=>rfl
       |true=>rw[fitB_more hw'.b hw.b s2 e]at f2;cases f2
      have f4:fitB w'.1 o=false:=by
       cases e:fitB w'.1 o with
       |false=>rfl
       |true=>rw[fitB_more hw'.a hw'.b i2 e]at f3;cases f3
      rw[f3,f4]
      simp
  ·rw[if_neg h3]at h2
   cases h2
 ·rw[if_neg h1]
  refine⟨fun _=> ?_,fun q=>by cases q⟩
  have h3:¬sIn w'.1 w'.2=true:=fun q=>h1 ((sIn_iff hw.a hw.b).2 ((s1.trans ((sIn_iff hw'.a hw'.b).1 q)).trans s2))
  rw[if_neg h3]
  simp
end Go.A.Pk
end
section
set_option maxRecDepth 100000
namespace Go.A.Pk
variable {T:Nat→Option AFunc}
structure FnsL9 (T:Nat→Option AFunc):Prop where
 k7:FnsK7 T
 sv:FnsSv T
 f9:T 9=some f9
 f21:T 21=some (.prim pSd)
 f42:T 42=some f42
theorem ear_step{day:Int}{l:List Rd}{i:Nat}{r:Rd}(hi:l[i]? =some r):earR day (l.take (i+1))=earR day (l.take i)++(if r.known≤day then [r]else []):=by
 unfold earR
 rw[take_at hi]
 congr 1
 by_cases h:r.known≤day
 ·rw[if_pos h,decide_eq_true h,if_pos rfl]
 ·rw[if_neg h,decide_eq_false h,if_neg (by simp)]
theorem kno_ok{bl:List Nat}(hb:IsS bl){l:List Rd}(hl:∀r∈l,IsR r)(day:Int):IsW (knoR bl l day).1:=by
 unfold knoR
 split
 ·exact w0_ok
 ·split
  ·exact seenW_ok hb fun z hz=>hl z (List.mem_filter.1 hz).1
  ·exact w0_ok
theorem RdS.wrW{h h':Heap}{v:Value}{l:List Rd}(s:RdS h v l)(hne:l≠[]){q:Nat}{w:List Nat×List Nat}(gq:h.get q=some (.cells (wL w) true 1))(hn:h.next≤h'.next)(ho:∀z,z≠q→h'.get z=h.get z):RdS h' v l:=by
 obtain⟨a,c,rfl⟩:=s.sl.form
 obtain⟨r,hr⟩:∃r,l[0]? =some r:=by
  cases l with
  |nil=>exact absurd rfl hne
  |cons r l=>exact⟨r,rfl⟩
 obtain⟨b,o,vs,own,t,rfl,e1,e2,hb,_⟩:=s.elem hr
 have hbq:b≠q:=by
  rintro rfl
  rw[gq]at e1
  cases e1
  have h1:=e2.id
  have e:wL w=us (w.1++w.2):=by simp[wL,us]
  rw[lget_eq,e]at h1
  obtain⟨n,_,h3⟩:=List.mem_map.1 (List.mem_of_getElem? h1)
  cases h3
 refine⟨?_,s.ok⟩
 rcases s.sl.inv with⟨c',hv,h0,_⟩|⟨b',o',cap,hv,s1,hc⟩
 ·cases hv
 ·cases hv
  obtain⟨vs',own',t',g1,g2⟩:=s1.obj
  exact .mem ⟨Nat.lt_of_lt_of_le s1.lt hn,⟨vs',own',t',(ho _ hbq).trans g1,g2⟩,s1.len⟩ hc
set_option maxHeartbeats 32000000 in
theorem law9(F:FnsL9 T){h:Heap}(hr:Rdy h)(hg:Tab h)(h2:2<h.next){bl:List Nat}(hb:IsS bl){a:Option Addr}{n c:Nat}{l:List Rd}(s:RdS h (.slice a n c) l){r:Rd}(hR:IsR r)(day:Int){o:List Nat}(ho:IsS o):
 Pu T 9 [sv bl, .slice a n c,rdV r, .int .i64 day,sv o] h (.bool true):=by
 have hp:=F.k7.sn.p
 refine .of hp F.f9 hr rfl ?_
 obtain rfl:=s.len
 have k8:=us_llen hb.len
 have k9:=us_take8 hb.len
 have j8:=us_llen ho.len
 have j9:=us_take8 ho.len
 have k12:=rdL_all hR
 have l12:=rdL_llen hR
 have g0:(((h.push (.cells (cellsOf (sv bl)) true 1)).push (.cells (cellsOf (rdV r)) true 1)).push (.cells (cellsOf (sv o)) true 1)).get h.next=some (.cells (us bl) true 1):=by(simp(disch:=first|omega|(simp only[z1,z2];omega))only[z3,z4,z5,z6,z7,z1,z2];exact rfl)
 have ga:(((h.push (.cells (cellsOf (sv bl)) true 1)).push (.cells (cellsOf (rdV r)) true 1)).push (.cells (cellsOf (sv o)) true 1)).get (h.next+1)=some (.cells (rdL r) true 1):=by(simp(disch:=first|omega|(simp only[z1,z2];omega)|(simp only[z1,z2];done)|fail)only[z8,z4,z5,z9,z7,z1,z2,g0];exact rfl)
 have gb:(((h.push (.cells (cellsOf (sv bl)) true 1)).push (.cells (cellsOf (rdV r)) true 1)).push (.cells (cellsOf (sv o)) true 1)).get (h.next+2)=some (.cells (us o) true 1):=by(simp(disch:=first|omega|(simp only[z1,z2];omega)|(simp only[z1,z2];done)|fail)only[z8,z4,z5,z9,z7,z1,z2,g0,ga];exact rfl)
 have n0:(((h.push (.cells (cellsOf (sv bl)) true 1)).push (.cells (cellsOf (rdV r)) true 1)).push (.cells (cellsOf (sv o)) true 1)).next=h.next+3:=rfl
 have x0:Ext h (((h.push (.cells (cellsOf (sv bl)) true 1)).push (.cells (cellsOf (rdV r)) true 1)).push (.cells (cellsOf (sv o)) true 1)):=(((Ext.refl h).push _).push _).push _
 refine y4 ?_;refine yB ?_;refine yB ?_;refine yB ?_;refine yM ?_;refine y3 ?_
 generalize(((h.push (.cells (cellsOf (sv bl)) true 1)).push (.cells (cellsOf (rdV r)) true 1)).push (.cells (cellsOf (sv o)) true 1))=H at*
 have hL:H.log=[]:=x0.log.trans hr.log
 have W:=x0.wf hr.wf
 have hgH:Tab H:=hg.ext x0 h2
 have C0:Pu T 21 [] {H with log:=[]} (.bool true):=puSd F.f21 hgH
 by_cases hn:40<l.length
 ·refine wE_seq ?_;refine y4 ?_;refine yM ?_;refine yD ?_;refine yt ?_;refine y3 ?_;refine yY ?_
  refine y4 ?_
  refine yC ?_
  refine FW.pu C0 ?_
  refine yM ?_;refine y3 ?_;refine wE_ret ?_;refine kS_r ?_
  exact endP_ret hL rfl rfl
 have K0:=check40 F.k7.fo F.k7.f40 (.of W) ((s.ext x0).log []) (by omega)
 rw[chkR_law]at K0
 unfold ckV at K0
 have hear:=ear_kno (bl:=bl) (l:=l) (day:=day)
 have hlat:=later_law hb s.ok hR
 generalize hp1:(chkR refR l).1=p1 at K0
 generalize hp2:(chkR refR l).2=p2 at K0 hear hlat
 refine wE_seq ?_;refine y4 ?_;refine yM ?_;refine yD ?_;refine yf ?_;refine y3 ?_;refine yX ?_
 refine wE_skip ?_;refine kS_n ?_;refine y4 ?_;refine yM ?_
 refine yC ?_
 refine FW.pu K0 ?_
 clear K0
 by_cases he:p2=0
 ·replace hear:=hear he
  replace hlat:=hlat he
  subst he
  clear C0
  refine yM ?_;refine yE ?_;refine yE ?_;refine yM ?_;refine yM ?_;refine y3 ?_;refine wE_seq ?_
  refine y4 ?_;refine yM ?_;refine yf ?_;refine y3 ?_;refine yX ?_;refine wE_skip ?_;refine kS_n ?_;refine y4 ?_;refine yM ?_;refine y3 ?_;refine wE_seq ?_;refine y4 ?_;refine yM ?_;refine y3 ?_;refine wE_block ?_
  refine wE_loop (fun k e ds h'=>∃(i:Nat) (v:Value),i≤l.length∧l.length-i=k∧e=[(1, .slice a l.length c),(3, .int .i64 day),(5, .pointer (some ⟨h.next,0,none⟩)),(7, .pointer (some ⟨h.next+1,0,none⟩)),(9, .pointer (some ⟨h.next+2,0,none⟩)),(13,v),(14, .int .i64 (i:Nat))]∧ds=[]∧Ext H h'∧Own H.next h' 12 v (earR day (l.take i)).length (rsL (earR day (l.take i))))
   ⟨0,_,Nat.zero_le _,rfl,rfl,rfl, .refl H, .nil⟩ ?_
  rintro k e ds H1 ⟨i,v,hin,rfl,rfl,rfl,x1,ow⟩
  have n1:=x1.next
  have W1:=x1.wf W
  have hL1:=x1.log.trans hL
  by_cases hlt:i<l.length
  ·obtain⟨q,hri⟩:∃r,l[i]? =some r:=⟨l[i],List.getElem?_eq_getElem hlt⟩
   have hQ:=s.ok q (List.mem_of_getElem? hri)
   obtain⟨b,o',vs,own,t,rfl,e1,e2,hbb,_⟩:=(s.ext (x0.trans x1)).elem hri
   have f1:=e2.known
   have k1:=e2.all
   have k2:=rdL_llen hQ
   have rl2:=rdL_length hQ
   have hst:=ear_step (day:=day) hri
   have hle:(earR day (l.take i)).length≤40:=Nat.le_trans (List.length_filter_le ..) (by rw[List.length_take];omega)
   by_cases hk:q.known≤day
   ·rw[if_pos hk]at hst
    have d1:numOp .leq (.int .i64 q.known) (.int .i64 day)=some (.bool true):=m_leqT hk
    refine wE_seq ?_;refine y4 ?_;refine yM ?_;refine yM ?_;refine yD ?_;refine yt ?_;refine y3 ?_
    refine yY ?_;refine wE_skip ?_;refine kS_n ?_;refine wE_seq ?_;refine wE_block ?_;refine y4 ?_;refine yM ?_;refine yM ?_;refine wO_val (a_iaddrS (by exact rfl) (by exact rfl) (by omega)) ?_;refine yF ?_
    refine wO_val (a_load (by exact rfl) (by assumption) (by assumption)) ?_;refine yM ?_;refine wO_val (a_num (by exact rfl) (by exact rfl) (by with_reducible assumption)) ?_;refine y3 ?_;refine yY ?_;refine wE_region ?_
    refine yM ?_;refine yM ?_;refine yM ?_;refine wO_val (a_iaddrS (by exact rfl) (by exact rfl) (by omega)) ?_;refine wO_val (a_loadN (by exact rfl) (by assumption) (by assumption) (by assumption)) ?_;refine wO_val (a_bslice (fill_rd (by assumption) rfl (by exact rfl)) rfl) ?_
    refine wO_app1 (lo:=H.next) (sz:=12) (v:=v) (c1:=rdL q) (ow.ext ((Ext.refl H1).push _)) (by omega) (by omega) (by omega) (by show H.next≤H1.next+1;omega) (by omega) (by exact rfl) (by exact rfl) (src_slice (n:=1) (cs:=rdL q) (by(simp(disch:=first|omega|(simp only[z1,z2];omega))only[z3,z4,z5,z6,z7,z1,z2,g0,ga,gb,e1];exact rfl)) (rdL_all hQ) (rdL_length hQ)) (rdL_length hQ) (rdL_ones q) ?_
    intro v' h6 o6 x6
    have ey6:Lx H.next H1 h6:=((Lx.refl H.next H1).push (by omega) _).trans x6
    refine yM ?_;refine wO_nil ?_;refine y1 ?_;refine kB_n ?_;refine kS_n ?_;refine wE_region ?_;refine yM ?_;refine yinc ?_;refine yM ?_;refine y3 ?_
    exact⟨l.length-(i+1),by omega,i+1,v',by omega,rfl,rfl,rfl,((x1.lx (Nat.le_refl _)).trans ey6).ext,by rw[hst,List.length_append,←rsL_snoc];exact o6⟩
   ·rw[if_neg hk,List.append_nil]at hst
    have d1:numOp .leq (.int .i64 q.known) (.int .i64 day)=some (.bool false):=m_leqF (by omega)
    refine wE_seq ?_;refine y4 ?_;refine yM ?_;refine yM ?_;refine yD ?_;refine yt ?_;refine y3 ?_
    refine yY ?_;refine wE_skip ?_;refine kS_n ?_;refine wE_seq ?_;refine wE_block ?_;refine y4 ?_;refine yM ?_;refine yM ?_;refine wO_val (a_iaddrS (by exact rfl) (by exact rfl) (by omega)) ?_;refine yF ?_
    refine wO_val (a_load (by exact rfl) (by assumption) (by assumption)) ?_;refine yM ?_;refine wO_val (a_num (by exact rfl) (by exact rfl) (by with_reducible assumption)) ?_;refine y3 ?_;refine yX ?_;refine wE_skip ?_
    refine kB_n ?_;refine kS_n ?_;refine wE_region ?_;refine yM ?_;refine yinc ?_;refine yM ?_;refine y3 ?_
    exact⟨l.length-(i+1),by omega,i+1,v,by omega,rfl,rfl,rfl,x1,by rw[hst];exact ow⟩
  ·obtain rfl:i=l.length:=by omega
   rw[List.take_length]at ow
   have hle:(earR day l).length≤40:=Nat.le_trans (List.length_filter_le ..) (by omega)
   have sE:RdS H1 v (earR day l):=⟨ow.slice (by omega),fun x hx=>s.ok x (List.mem_filter.1 hx).1⟩
   obtain⟨av,cv,rfl⟩:=sE.sl.form
   have gs1:=(x1.old _ (by omega)).trans g0
   have ga1:=(x1.old _ (by omega)).trans ga
   have gb1:=(x1.old _ (by omega)).trans gb
   have ey1':=x0.trans x1
   have K1:=known37 F.k7 (h:={H1 with log:=[]}) (.of W1) hb ((s.ext ey1').log []) (by omega) day
   have K2':=fun {H':Heap} (hr':Rdy H') (s':RdS H' (.slice av (earR day l).length cv) (earR day l))=>known37 F.k7 hr' hb s' (by omega) day
   rw[hear]at K2'
   have hw:=kno_ok hb s.ok day
   unfold knoV at K1 K2'
   clear hear g0 ga gb ow
   generalize(knoR bl l day).1=w at*
   generalize(knoR bl l day).2=e1 at*
   have wl:=wL_length hw
   have wo:=wL_ones w
   have wk:=wL_all hw
   have wka:=wL_llen hw
   have x2:=ext_pw (h:=H1) (base:=h.next) (by omega) (.cells (lrep 16 (.int .u64 0)) true 1) (.cells (wL w) true 1)
   have q2:=get_pw (h:=H1) (base:=h.next) (lrep 16 (.int .u64 0)) (wL w)
   have n2:((H1.push (.cells (lrep 16 (.int .u64 0)) true 1)).wr h.next H1.next (.cells (wL w) true 1)).next=H1.next+1:=rfl
   refine wE_seq ?_;refine y4 ?_;refine yM ?_;refine yM ?_;refine yD ?_;refine yf ?_;refine y3 ?_
   refine yX ?_;refine wE_exit ?_;refine kS_e ?_;refine kS_e ?_;refine kB_e ?_;refine kS_n ?_;refine y4 ?_;refine wO_val (a_loadN (by exact rfl) (by assumption) (by assumption) (by assumption)) ?_;refine yM ?_;refine yM ?_
   refine yC ?_
   refine FW.pu K1 ?_
   clear K1
   refine yM ?_;refine yE ?_;refine yE ?_;refine wO_val (a_new) ?_
   refine wO_val (a_storeAll (by exact rfl) (by exact rfl) (by(simp(disch:=first|omega|(simp only[z1,z2];omega))only[z3,z4,z5,z6,z7,z1,z2,gs1,ga1,gb1,q2];exact rfl)) (by assumption) (by exact rfl) (by assumption)) ?_;refine yM ?_
   refine y3 ?_
   generalize((H1.push (.cells (lrep 16 (.int .u64 0)) true 1)).wr h.next H1.next (.cells (wL w) true 1))=H2 at*
   have ey2':=ey1'.trans x2
   have W2:=ey2'.wf hr.wf
   have hL2:=ey2'.log.trans hr.log
   have gs2:=(x2.old _ (by omega)).trans gs1
   have ga2:=(x2.old _ (by omega)).trans ga1
   have gb2:=(x2.old _ (by omega)).trans gb1
   have K2:=K2' (.of W2) ((sE.ext x2).log [])
   clear K2' gs1 ga1 gb1
   have x3:=ext_pw (h:=H2) (base:=h.next) (by omega) (.cells (lrep 16 (.int .u64 0)) true 1) (.cells (wL w) true 1)
   have q3:=get_pw (h:=H2) (base:=h.next) (lrep 16 (.int .u64 0)) (wL w)
   have n3:((H2.push (.cells (lrep 16 (.int .u64 0)) true 1)).wr h.next H2.next (.cells (wL w) true 1)).next=H2.next+1:=rfl
   refine y4 ?_;refine wO_val (a_loadN (by exact rfl) (by assumption) (by assumption) (by assumption)) ?_;refine yM ?_;refine yM ?_
   refine yC ?_
   refine FW.pu K2 ?_
   clear K2
   refine yM ?_;refine yE ?_;refine yE ?_;refine wO_val (a_new) ?_
   refine wO_val (a_storeAll (by exact rfl) (by exact rfl) (by(simp(disch:=first|omega|(simp only[z1,z2];omega))only[z3,z4,z5,z6,z7,z1,z2,q2,gs2,ga2,gb2,q3];exact rfl)) (by assumption) (by exact rfl) (by assumption)) ?_;refine yM ?_
   refine y3 ?_
   generalize((H2.push (.cells (lrep 16 (.int .u64 0)) true 1)).wr h.next H2.next (.cells (wL w) true 1))=H3 at*
   have ey3':=ey2'.trans x3
   have W3:=ey3'.wf hr.wf
   have hL3:=ey3'.log.trans hr.log
   have gs3:=(x3.old _ (by omega)).trans gs2
   have ga3:=(x3.old _ (by omega)).trans ga2
   have gb3:=(x3.old _ (by omega)).trans gb2
   have q23:=(x3.old _ (by omega)).trans q2
   have Lw:=w_leaves hw
   have K3:=append42 F.k7.fo F.k7.f40 F.k7.f131 F.f42 (.of W3) ((s.ext ey3').log []) (by omega) hR
   rw[appE_law]at K3
   clear gs2 ga2 gb2 q2 sE
   generalize appE refR l r=e2 at*
   refine wE_seq ?_;refine y4 ?_;refine wO_val (a_loadN (by exact rfl) (by assumption) (by assumption) (by assumption)) ?_;refine wO_val (a_loadN (by exact rfl) (by assumption) (by assumption) (by assumption)) ?_;refine wO_val (a_agg (by exact rfl) (by exact rfl) (by assumption)) ?_;refine yM ?_;refine yO ?_
   refine yM ?_;refine yO ?_;refine yM ?_;refine yO ?_;refine yf ?_;refine yU ?_;refine y3 ?_;refine yX ?_;refine wE_skip ?_;refine kS_n ?_;refine y4 ?_;refine yM ?_;refine wO_val (a_loadN (by exact rfl) (by assumption) (by assumption) (by assumption)) ?_
   refine yC ?_
   refine FW.al K3 (fun v h' m q=>by obtain⟨x,q1,q2⟩:=q;exact⟨x,q1,q2.log m⟩) ?_
   rintro _ H4 x4 ⟨v4,rfl,s4⟩
   clear K3
   have n4:=x4.next
   have ey4':=ey3'.trans x4
   have W4:=ey4'.wf hr.wf
   have hL4:=ey4'.log.trans hr.log
   have gs4:=(x4.old _ (by omega)).trans gs3
   have ga4:=(x4.old _ (by omega)).trans ga3
   have gb4:=(x4.old _ (by omega)).trans gb3
   have q24:=(x4.old _ (by omega)).trans q23
   have q34:=(x4.old _ (by omega)).trans q3
   have C0:Pu T 21 [] {H4 with log:=[]} (.bool true):=puSd F.f21 (show Tab H4 from hg.ext ey4' h2)
   clear gs3 ga3 gb3 q23 q3
   by_cases he2:e2=0
   ·subst he2
    rw[if_pos rfl]at s4
    by_cases hk3:r.kind=3
    ·have m1:numOp .eql (.int .u8 (r.kind:Nat)) (.int .u8 3)=some (.bool true):=m_eqlT (by omega)
     refine yM ?_;refine yE ?_;refine yE ?_;refine yM ?_;refine yM ?_;refine y3 ?_;refine wE_seq ?_
     refine y4 ?_;refine yM ?_;refine yf ?_;refine yM ?_;refine yO ?_;refine yF ?_;refine yO ?_;refine yL ?_
     refine yO ?_;refine wO_val (a_num (by exact rfl) (by exact rfl) (by with_reducible assumption)) ?_;refine yU ?_;refine y3 ?_;refine yY ?_;refine y4 ?_
     refine yC ?_
     refine FW.pu C0 ?_
     refine yM ?_;refine y3 ?_;refine wE_ret ?_;refine kS_r ?_
     exact endP_ret hL4 rfl rfl
    replace hlat:=hlat rfl hk3
    obtain⟨hl1,hl2⟩:=hlat
    clear C0
    have m1:numOp .eql (.int .u8 (r.kind:Nat)) (.int .u8 3)=some (.bool false):=m_eqlF (by omega)
    obtain⟨a4,c4,rfl⟩:=s4.sl.form
    have hl5:(l++[r]).length<1000000:=by simp;omega
    have K5:=known37 F.k7 (h:={H4 with log:=[]}) (.of W4) hb ((s.ext ey4').log []) (by omega) r.known
    have K6':=fun {H':Heap} (hr':Rdy H') (s':RdS H' (.slice a4 (l++[r]).length c4) (l++[r]))=>known37 F.k7 hr' hb s' hl5 r.known
    have hw5:=kno_ok hb s.ok r.known
    have hw6:=kno_ok hb s4.ok r.known
    unfold knoV at K5 K6'
    generalize(knoR bl l r.known).1=w5 at*
    generalize(knoR bl l r.known).2=e5 at*
    generalize(knoR bl (l++[r]) r.known).1=w6 at*
    generalize(knoR bl (l++[r]) r.known).2=e6 at*
    have wl5:=wL_length hw5
    have wo5:=wL_ones w5
    have wk5:=wL_all hw5
    have wka5:=wL_llen hw5
    have wl6:=wL_length hw6
    have wo6:=wL_ones w6
    have wk6:=wL_all hw6
    have wka6:=wL_llen hw6
    refine yM ?_;refine yE ?_;refine yE ?_;refine yM ?_;refine yM ?_;refine y3 ?_;refine wE_seq ?_
    refine y4 ?_;refine yM ?_;refine yf ?_;refine yM ?_;refine yO ?_;refine yF ?_;refine yO ?_;refine yL ?_
    refine yO ?_;refine wO_val (a_num (by exact rfl) (by exact rfl) (by with_reducible assumption)) ?_;refine yU ?_;refine y3 ?_;refine yX ?_;refine wE_skip ?_;refine kS_n ?_;refine y4 ?_;refine wO_val (a_loadN (by exact rfl) (by assumption) (by assumption) (by assumption)) ?_;refine yM ?_;refine yF ?_;refine yL ?_
    refine yC ?_
    refine FW.pu K5 ?_
    clear K5
    refine yM ?_;refine yE ?_;refine yE ?_;refine wO_val (a_storeAll (by exact rfl) (by exact rfl) (by assumption) (by assumption) (by assumption) (by assumption)) ?_;refine yM ?_;refine y3 ?_
    have o5:∀z,z≠H1.next→(H4.wr h.next H1.next (.cells (wL w5) true 1)).get z=H4.get z:=fun z hz=>z5 hz
    have q25:(H4.wr h.next H1.next (.cells (wL w5) true 1)).get H1.next=some (.cells (wL w5) true 1):=Heap.get_wr_new q24
    have hL5:(H4.wr h.next H1.next (.cells (wL w5) true 1)).log=[]:=(Heap.log_wr_new (by omega)).trans hL4
    have n5:(H4.wr h.next H1.next (.cells (wL w5) true 1)).next=H4.next:=rfl
    have W5:WF (H4.wr h.next H1.next (.cells (wL w5) true 1)):=W4.as (AS.wr h.next _ _ _)
    generalize(H4.wr h.next H1.next (.cells (wL w5) true 1))=H5 at*
    have ey5':Ext h H5:=⟨by have:=ey4'.next;omega,hL5.trans hr.log.symm,fun b hb=>(o5 b (by omega)).trans (ey4'.old b hb),fun _=>W5⟩
    have gs5:=(o5 _ (by omega)).trans gs4
    have ga5:=(o5 _ (by omega)).trans ga4
    have gb5:=(o5 _ (by omega)).trans gb4
    have q35:=(o5 _ (by omega)).trans q34
    have s45:=s4.wrW (by simp) q24 (by omega) o5
    have K6:=K6' (.of W5) (s45.log [])
    clear K6' gs4 ga4 gb4 q34 q24 s4 o5
    refine y4 ?_;refine wO_val (a_loadN (by exact rfl) (by assumption) (by assumption) (by assumption)) ?_;refine yM ?_;refine yF ?_;refine yL ?_
    refine yC ?_
    refine FW.pu K6 ?_
    clear K6
    refine yM ?_;refine yE ?_;refine yE ?_;refine wO_val (a_storeAll (by exact rfl) (by exact rfl) (by assumption) (by assumption) (by assumption) (by assumption)) ?_;refine yM ?_;refine y3 ?_
    have o6:∀z,z≠H2.next→(H5.wr h.next H2.next (.cells (wL w6) true 1)).get z=H5.get z:=fun z hz=>z5 hz
    have q36:(H5.wr h.next H2.next (.cells (wL w6) true 1)).get H2.next=some (.cells (wL w6) true 1):=Heap.get_wr_new q35
    have hL6:(H5.wr h.next H2.next (.cells (wL w6) true 1)).log=[]:=(Heap.log_wr_new (by omega)).trans hL5
    have n6:(H5.wr h.next H2.next (.cells (wL w6) true 1)).next=H5.next:=rfl
    have W6:WF (H5.wr h.next H2.next (.cells (wL w6) true 1)):=W5.as (AS.wr h.next _ _ _)
    generalize(H5.wr h.next H2.next (.cells (wL w6) true 1))=H6 at*
    have ey6':Ext h H6:=⟨by have:=ey5'.next;omega,hL6.trans hr.log.symm,fun b hb=>(o6 b (by omega)).trans (ey5'.old b hb),fun _=>W6⟩
    have gb6:=(o6 _ (by omega)).trans gb5
    have q26:=(o6 _ (by omega)).trans q25
    have hg6:Tab H6:=hg.ext ey6' h2
    have C0:Pu T 21 [] {H6 with log:=[]} (.bool true):=puSd F.f21 hg6
    clear gs5 ga5 gb5 q35 q25 s45 o6
    by_cases he5:e5=0
    ·subst he5
     by_cases he6:e6=0
     ·subst he6
      obtain⟨i1,i2⟩:=hl2 rfl rfl o ho
      clear hl1 hl2
      have D1:=serves33 F.sv (h:={H6 with log:=[]}) (.of W6) hg6 (by show 2<H6.next;omega) hw5 ho
      have D2:=serves33 F.sv (h:={H6 with log:=[]}) (.of W6) hg6 (by show 2<H6.next;omega) hw6 ho
      unfold svV at D1 D2
      generalize(svR w5 o).1=k1 at*
      generalize(svR w5 o).2=f1 at*
      generalize(svR w6 o).1=k2 at*
      generalize(svR w6 o).2=f2 at*
      subst i1
      refine wE_seq ?_;refine y4 ?_;refine yM ?_;refine yf ?_;refine yM ?_;refine yO ?_;refine yM ?_;refine yO ?_
      refine yf ?_;refine yU ?_;refine y3 ?_;refine yX ?_;refine wE_skip ?_;refine kS_n ?_;refine y4 ?_
      refine wO_val (a_loadN (by exact rfl) (by assumption) (by assumption) (by assumption)) ?_;refine wO_val (a_loadN (by exact rfl) (by assumption) (by assumption) (by assumption)) ?_
      refine yC ?_
      refine FW.pu D1 ?_
      refine yM ?_;refine yE ?_;refine yE ?_;refine yM ?_;refine yM ?_;refine y3 ?_;refine y4 ?_;refine wO_val (a_loadN (by exact rfl) (by assumption) (by assumption) (by assumption)) ?_;refine wO_val (a_loadN (by exact rfl) (by assumption) (by assumption) (by assumption)) ?_
      refine yC ?_
      refine FW.pu D2 ?_
      clear D1 D2
      have t1:numOp .eql (.int .i64 f1) (.int .i64 f1)=some (.bool true):=m_eqlT rfl
      by_cases hf:f1=0
      ·subst hf
       by_cases hk1:k1=3
       ·have t2:numOp .eql (.int .u8 (k1:Nat)) (.int .u8 3)=some (.bool true):=m_eqlT (by omega)
        refine yM ?_;refine yE ?_;refine yE ?_;refine yM ?_;refine yM ?_;refine y3 ?_;refine y4 ?_
        refine yC ?_
        refine FW.pu C0 ?_
        refine yM ?_;refine yO ?_;refine yM ?_;refine yO ?_;refine yM ?_;refine yO ?_;refine wO_val (a_num (by exact rfl) (by exact rfl) (by with_reducible assumption)) ?_;refine yT ?_
        refine yM ?_;refine yO ?_;refine yM ?_;refine yO ?_;refine yf ?_;refine yO ?_;refine yM ?_;refine yO ?_;refine yM ?_
        refine yO ?_;refine wO_val (a_num (by exact rfl) (by exact rfl) (by with_reducible assumption)) ?_;refine yO ?_;refine yU ?_;refine yO ?_;refine yM ?_;refine yP ?_;refine yP ?_
        refine yP ?_;refine yO ?_;refine yT ?_;refine yT ?_;refine yM ?_;refine y3 ?_;refine wE_ret ?_
        exact endP_ret hL6 rfl rfl
       ·have t2:numOp .eql (.int .u8 (k1:Nat)) (.int .u8 3)=some (.bool false):=m_eqlF (by omega)
        have hk2:k2=k1:=by
         rcases i2 with h|h|h
         ·exact absurd rfl h
         ·exact absurd h hk1
         ·exact h
        have t3:numOp .eql (.int .u8 (k2:Nat)) (.int .u8 (k1:Nat))=some (.bool true):=m_eqlT (by omega)
        refine yM ?_;refine yE ?_;refine yE ?_;refine yM ?_;refine yM ?_;refine y3 ?_;refine y4 ?_
        refine yC ?_
        refine FW.pu C0 ?_
        refine yM ?_;refine yO ?_;refine yM ?_;refine yO ?_;refine yM ?_;refine yO ?_;refine wO_val (a_num (by exact rfl) (by exact rfl) (by with_reducible assumption)) ?_;refine yT ?_
        refine yM ?_;refine yO ?_;refine yM ?_;refine yO ?_;refine yf ?_;refine yO ?_;refine yM ?_;refine yO ?_;refine yM ?_
        refine yO ?_;refine wO_val (a_num (by exact rfl) (by exact rfl) (by with_reducible assumption)) ?_;refine yO ?_;refine yU ?_;refine yO ?_;refine yM ?_;refine yO ?_;refine yM ?_;refine yO ?_
        refine yM ?_;refine yO ?_;refine wO_val (a_num (by exact rfl) (by exact rfl) (by with_reducible assumption)) ?_;refine yO ?_;refine yU ?_;refine yT ?_;refine yM ?_;refine y3 ?_;refine wE_ret ?_
        exact endP_ret hL6 rfl rfl
      ·have t2:numOp .neq (.int .i64 f1) (.int .i64 0)=some (.bool true):=m_neqT hf
       refine yM ?_;refine yE ?_;refine yE ?_;refine yM ?_;refine yM ?_;refine y3 ?_;refine y4 ?_
       refine yC ?_
       refine FW.pu C0 ?_
       refine yM ?_;refine yO ?_;refine yM ?_;refine yO ?_;refine yM ?_;refine yO ?_;refine wO_val (a_num (by exact rfl) (by exact rfl) (by with_reducible assumption)) ?_;refine yT ?_
       refine yM ?_;refine yO ?_;refine yM ?_;refine yO ?_;refine wO_val (a_num (by exact rfl) (by exact rfl) (by with_reducible assumption)) ?_;refine yO ?_;refine yM ?_;refine yP ?_;refine yP ?_
       refine yO ?_;refine yT ?_;refine yO ?_;refine yM ?_;refine yP ?_;refine yP ?_;refine yP ?_;refine yO ?_;refine yT ?_
       refine yT ?_;refine yM ?_;refine y3 ?_;refine wE_ret ?_
       exact endP_ret hL6 rfl rfl
     ·have m2:numOp .neq (.int .i64 e6) (.int .i64 0)=some (.bool true):=m_neqT he6
      refine wE_seq ?_;refine y4 ?_;refine yM ?_;refine yf ?_;refine yM ?_;refine yO ?_;refine yM ?_;refine yO ?_
      refine wO_val (a_num (by exact rfl) (by exact rfl) (by with_reducible assumption)) ?_;refine yU ?_;refine y3 ?_;refine yY ?_;refine y4 ?_
      refine yC ?_
      refine FW.pu C0 ?_
      refine yM ?_;refine yO ?_;refine yM ?_;refine yO ?_;refine yt ?_;refine yO ?_;refine yM ?_;refine yP ?_;refine yP ?_
      refine yO ?_;refine yT ?_;refine yT ?_;refine yM ?_;refine y3 ?_;refine wE_ret ?_;refine kS_r ?_
      exact endP_ret hL6 rfl rfl
    ·have he6:=hl1 he5
     have m2:numOp .neq (.int .i64 e5) (.int .i64 0)=some (.bool true):=m_neqT he5
     have m3:numOp .eql (.int .i64 e5) (.int .i64 0)=some (.bool false):=m_eqlF he5
     have m4:numOp .neq (.int .i64 e6) (.int .i64 0)=some (.bool true):=m_neqT he6
     refine wE_seq ?_;refine y4 ?_;refine yM ?_;refine wO_val (a_num (by exact rfl) (by exact rfl) (by with_reducible assumption)) ?_;refine yM ?_;refine yP ?_;refine yP ?_;refine yT ?_;refine y3 ?_;refine yY ?_;refine y4 ?_
     refine yC ?_
     refine FW.pu C0 ?_
     refine yM ?_;refine yO ?_;refine yM ?_;refine yO ?_;refine wO_val (a_num (by exact rfl) (by exact rfl) (by with_reducible assumption)) ?_;refine yO ?_;refine yM ?_;refine yO ?_;refine yM ?_
     refine yO ?_;refine wO_val (a_num (by exact rfl) (by exact rfl) (by with_reducible assumption)) ?_;refine yO ?_;refine yU ?_;refine yT ?_;refine yM ?_;refine y3 ?_;refine wE_ret ?_;refine kS_r ?_
     exact endP_ret hL6 rfl rfl
   ·have m1:numOp .neq (.int .i64 e2) (.int .i64 0)=some (.bool true):=m_neqT he2
    refine yM ?_;refine yE ?_;refine yE ?_;refine yM ?_;refine yM ?_;refine y3 ?_;refine wE_seq ?_
    refine y4 ?_;refine yM ?_;refine wO_val (a_num (by exact rfl) (by exact rfl) (by with_reducible assumption)) ?_;refine yM ?_;refine yP ?_;refine yP ?_;refine yP ?_
    refine yT ?_;refine y3 ?_;refine yY ?_;refine y4 ?_
    refine yC ?_
    refine FW.pu C0 ?_
    refine yM ?_;refine y3 ?_;refine wE_ret ?_;refine kS_r ?_
    exact endP_ret hL4 rfl rfl
 ·have m1:numOp .neq (.int .i64 p2) (.int .i64 0)=some (.bool true):=m_neqT he
  refine yM ?_;refine yE ?_;refine yE ?_;refine yM ?_;refine yM ?_;refine y3 ?_;refine wE_seq ?_
  refine y4 ?_;refine yM ?_;refine wO_val (a_num (by exact rfl) (by exact rfl) (by with_reducible assumption)) ?_;refine y3 ?_;refine yY ?_;refine y4 ?_
  refine yC ?_
  refine FW.pu C0 ?_
  refine yM ?_;refine y3 ?_;refine wE_ret ?_;refine kS_r ?_
  exact endP_ret hL rfl rfl
end Go.A.Pk
end
section
namespace Go.A
open Go.ChangeShapes Go.WideShapes Go.ChangeAt Go.RowKit
section
variable {H:Type} {enc:TypeId×Value→H} {P:Program}
theorem trodAll_stays(hl:laidOutB P=true){W W':World}(hb:Below W.heap.size W W'):∀{ts:List TypeId} {vs:List Value} {ds:List (DataW H)} {ps:List MemPlace},(∀t∈ts,P.readableRec t=true∧t<P.types.size)→DataW.TrodAll enc P W 0 (fun _=>true) true ts vs ds ps→
 (∀x∈ps,x.block<W.heap.size)→DataW.TrodAll enc P W' 0 (fun b=>decide (b<W.heap.size)) true ts vs ds ps
 |[],vs,ds,ps,_,h,_=>by
  obtain⟨rfl,rfl,rfl⟩:=trodAll_nil h
  exact trodAll_mk0
 |t::ts,vs,ds,ps,hr,h,hlt=>by
  obtain⟨v,vs',d,ds',p,q,rfl,rfl,rfl,hd,hrest⟩:=trodAll_cons h
  have h1:=hr t (List.mem_cons_self ..)
  exact⟨p,q,Below.trod hl h1.1 h1.2 hd hb fun x hx=>hlt x (List.mem_append_left _ hx),trodAll_stays hl hb (fun t ht=>hr t (List.mem_cons_of_mem _ ht)) hrest fun x hx=>hlt x (List.mem_append_right _ hx),rfl⟩
theorem law_post{f:Func}{s:ChangeSpec}{W W':World}{args:Array Value}{ds gs:List (DataW H)}{before:List MemPlace}{tb:TypeId}(hW:DataW.Whole enc P f.params.toList s.vars false W args.toList ds gs before)(hv:s.vars=[])
 (hfn:(s.fn H ds).results=[.lit (.bool true)]∧(s.fn H ds).args=ds∧(s.fn H ds).vars=[])(hl:laidOutB P=true)(hr:∀t∈f.params.toList,P.readableRec t=true∧t<P.types.size)(hres:f.resultTypes= #[tb])(htb:P.underlying tb=some .bool)(hb:Below W.heap.size W W'):
 s.post enc P f false true false false W args (.bool true) W':=by
 have hW':=hW
 obtain⟨p,q,hA,hV,hpq,hz,hn⟩:=hW
 rw[hv]at hV
 obtain⟨rfl,rfl⟩:=trodVars_none hV
 have hbp:before=p:=by simpa using hpq
 subst hbp
 obtain⟨h1,h2,h3⟩:=hfn
 have hlt:∀x∈before,x.block<W.heap.size:=fun x hx=>by simpa using hW'.lt x hx
 refine⟨ds,[],before,[],before,[],hW',?_,?_,?_,hb.frame _,fun h=>by cases h⟩
 ·rw[List.append_nil,h1,hres]
  exact trodAll_cons_mk (shut_bool htb _) trodAll_mk0
 ·rw[List.append_nil,h2]
  exact trodAll_stays hl hb hr hA hlt
 ·rw[List.append_nil,h3,hv]
  rfl
end
end Go.A
end
section
set_option maxRecDepth 100000
namespace Go.A.Pk
open Go Go.Proofs Go.Joins Go.ChangeShapes Go.WideShapes Go.RowKit Go.Deep
inductive CellsAt (W:World) (sz:Nat):Value→Nat→List Value→Prop
 |nil:CellsAt W sz (.slice none 0 0) 0 []
 |empty {b o cap c el fz}:W.heap[b]? =some (.cells c el fz)→cap<UNK→CellsAt W sz (.slice (some ⟨b,o,none⟩) 0 cap) 0 []
 |full {b o cap n c el fz} {cs:List Value}:W.heap[b]? =some (.cells c el fz)→n≠0→cs.length=n*sz→0<sz→n≤cap→cap<UNK→(∀j,j<n*sz→c[o+j]? =cs[j]?)→(∀x∈cs,noRef x=true)→CellsAt W sz (.slice (some ⟨b,o,none⟩) n cap) n cs
structure Ob where
 vs:List Value
 sz:Nat
 b:Nat
 d:Nat
 e:Nat
def obsL:Nat→List Ob→List (Nat×AObj)
 |_,[]=>[]
 |n,o::l=>(n, .cells o.vs false o.sz)::obsL (n+1) l
abbrev Gl:=List (Nat×List Value)
def glL(G:Gl)(l:List (Nat×AObj)):List (Nat×AObj):=match G with
 |[]=>l
 |(g,vs)::G=>(g, .cells vs false 1)::glL G l
def glM(G:Gl)(f:Mu):Mu:=match G with
 |[]=>f
 |(g,vs)::G=>fun x=>if x=g then some ⟨g,0,vs.length,1⟩else glM G f x
def obH(G:Gl)(l:List Ob):Heap:=⟨glL G (obsL 1000 l),1000+l.length,[]⟩
def obM(G:Gl)(l:List Ob):Mu:=glM G fun x=>if 1000≤x then(l[x-1000]?).map fun o=>⟨o.b,o.d,o.e,o.sz⟩else none
structure ObOk (W:World) (μ:Mu) (o:Ob):Prop where
 ok:∃c el fz,W.heap[o.b]? =some (.cells c el fz)∧o.d+o.vs.length≤o.e∧o.e≤c.size∧∀i,i<o.vs.length→∃v',c[o.d+i]? =some v'∧VR μ (gv o.vs i) v'
theorem obsL_get:∀(l:List Ob) (n x:Nat),getO (obsL n l) x=if n≤x then(l[x-n]?).map fun o=> .cells o.vs false o.sz else none
 |[],n,x=>by simp[obsL,getO]
 |o::l,n,x=>by
  simp only[obsL,getO,cond_eq_ite,beq_eq,decide_eq_true_eq]
  by_cases hx:n=x
  ·subst hx
   rw[if_pos rfl,if_pos (Nat.le_refl _),Nat.sub_self]
   rfl
  ·rw[if_neg hx,obsL_get l (n+1) x]
   by_cases h1:n≤x
   ·rw[if_pos h1,if_pos (by omega),show x-n=(x-(n+1))+1 by omega,List.getElem?_cons_succ]
   ·rw[if_neg h1,if_neg (by omega)]
structure GlOk (W:World) (G:Gl):Prop where
 ok:∀q∈G,q.1<Tryz.prog.globals.size∧(∃t fz,W.heap[q.1]? =some (.cells q.2.toArray t fz))∧∀v∈q.2,noRef v=true
 nd:(G.map (·.1)).Nodup
theorem glL_get(G:Gl)(l:List (Nat×AObj))(x:Nat):(∃vs,(x,vs)∈G∧getO (glL G l) x=some (.cells vs false 1))∨((∀vs,(x,vs) ∉ G)∧getO (glL G l) x=getO l x):=by
 induction G with
 |nil=>exact .inr ⟨fun vs h=>(nomatch h),rfl⟩
 |cons q G ih=>
  obtain⟨g,vs⟩:=q
  by_cases hx:x=g
  ·subst hx
   refine .inl ⟨vs,List.mem_cons_self,?_⟩
   simp[glL,getO]
  ·have e:getO (glL ((g,vs)::G) l) x=getO (glL G l) x:=by
    simp only[glL,getO,cond_eq_ite,beq_eq,decide_eq_true_eq,if_neg (Ne.symm hx)]
   rw[e]
   rcases ih with⟨us,h1,h2⟩|⟨h1,h2⟩
   ·exact .inl ⟨us,List.mem_cons_of_mem _ h1,h2⟩
   ·exact .inr ⟨fun us h=>by
     rcases List.mem_cons.1 h with h|h
     ·cases h;exact hx rfl
     ·exact h1 us h,h2⟩
theorem glM_get{G:Gl}(hn:(G.map (·.1)).Nodup)(f:Mu)(x:Nat):(∀vs,(x,vs)∈G→glM G f x=some ⟨x,0,vs.length,1⟩)∧((∀vs,(x,vs) ∉ G)→glM G f x=f x):=by
 induction G with
 |nil=>exact⟨fun vs h=>by(cases h),fun _=>rfl⟩
 |cons q G ih=>
  obtain⟨g,us⟩:=q
  rw[List.map_cons,List.nodup_cons]at hn
  obtain⟨i1,i2⟩:=ih hn.2
  refine⟨fun vs h=> ?_,fun h=> ?_⟩
  ·rcases List.mem_cons.1 h with h|h
   ·cases h
    simp[glM]
   ·have:x≠g:=fun e=>hn.1 (List.mem_map.2 ⟨(x,vs),h,e⟩)
    simp only[glM,if_neg this]
    exact i1 vs h
  ·have:x≠g:=fun e=>h us (by rw[e];exact List.mem_cons_self)
   simp only[glM,if_neg this]
   exact i2 fun vs hv=>h vs (List.mem_cons_of_mem _ hv)
theorem glob1000{n:Nat}(h:n<Tryz.prog.globals.size):n<1000:=by
 have:=globs_le;omega
theorem obH_get{W:World}{G:Gl}(hG:GlOk W G)(l:List Ob)(x:Nat)(h:1000≤x):(obH G l).get x=(l[x-1000]?).map fun o=> .cells o.vs false o.sz:=by
 show getO (glL G (obsL 1000 l)) x=_
 rcases glL_get G (obsL 1000 l) x with⟨vs,h1,_⟩|⟨_,h2⟩
 ·have:=glob1000 (hG.ok _ h1).1
  simp only at this;omega
 ·rw[h2,obsL_get,if_pos h]
theorem obM_get{W:World}{G:Gl}(hG:GlOk W G)(l:List Ob)(x:Nat)(h:1000≤x):obM G l x=(l[x-1000]?).map fun o=>⟨o.b,o.d,o.e,o.sz⟩:=by
 unfold obM
 rw[(glM_get hG.nd _ x).2 fun vs hv=>by have:=glob1000 (hG.ok _ hv).1;simp only at this;omega,if_pos h]
theorem obH_gl{W:World}{G:Gl}(hG:GlOk W G)(l:List Ob){g:Nat}{vs:List Value}(h:(g,vs)∈G):(obH G l).get g=some (.cells vs false 1):=by
 show getO (glL G (obsL 1000 l)) g=_
 rcases glL_get G (obsL 1000 l) g with⟨us,h1,h2⟩|⟨h1,_⟩
 ·rw[h2]
  have e:us=vs:=by
   have q1:=(glM_get hG.nd (fun _=>none) g).1 _ h
   clear h2
   have hn:=hG.nd
   clear hG q1
   induction G with
   |nil=>cases h
   |cons q G ih=>
    rw[List.map_cons,List.nodup_cons]at hn
    rcases List.mem_cons.1 h with e1|e1
    ·rcases List.mem_cons.1 h1 with e2|e2
     ·rw[←e1]at e2;exact(Prod.mk.inj e2).2
     ·exact(hn.1 (List.mem_map.2 ⟨_,e2,by rw[←e1]⟩)).elim
    ·rcases List.mem_cons.1 h1 with e2|e2
     ·exact(hn.1 (List.mem_map.2 ⟨_,e1,by rw[←e2]⟩)).elim
     ·exact ih e1 e2 hn.2
  rw[e]
 ·exact(h1 vs h).elim
theorem obH_some{W:World}{G:Gl}(hG:GlOk W G){l:List Ob}{x:Nat}{a:AObj}(h:(obH G l).get x=some a):(∃vs,(x,vs)∈G∧a= .cells vs false 1∧obM G l x=some ⟨x,0,vs.length,1⟩)∨(1000≤x∧∃o,l[x-1000]? =some o∧a= .cells o.vs false o.sz∧obM G l x=some ⟨o.b,o.d,o.e,o.sz⟩):=by
 have h':getO (glL G (obsL 1000 l)) x=some a:=h
 rcases glL_get G (obsL 1000 l) x with⟨vs,h1,h2⟩|⟨h1,h2⟩
 ·rw[h2]at h'
  cases h'
  exact .inl ⟨vs,h1,rfl,(glM_get hG.nd _ x).1 vs h1⟩
 ·rw[h2,obsL_get]at h'
  split at h'
  ·rename_i h8
   cases hl:l[x-1000]? with
   |none=>rw[hl]at h';cases h'
   |some o=>
    rw[hl]at h';cases h'
    exact .inr ⟨h8,o,rfl,rfl,by rw[obM_get hG l x h8,hl];rfl⟩
  ·cases h'
theorem obM_some{W:World}{G:Gl}(hG:GlOk W G){l:List Ob}{x:Nat}{k:Blk}(h:obM G l x=some k):(∃vs,(x,vs)∈G∧k=⟨x,0,vs.length,1⟩)∨(1000≤x∧∃o,l[x-1000]? =some o∧k=⟨o.b,o.d,o.e,o.sz⟩):=by
 by_cases hg:∃vs,(x,vs)∈G
 ·obtain⟨vs,hv⟩:=hg
  have:=(glM_get hG.nd (fun x=>if 1000≤x then(l[x-1000]?).map fun o=>(⟨o.b,o.d,o.e,o.sz⟩:Blk)else none) x).1 vs hv
  exact .inl ⟨vs,hv,(Option.some.inj (this.symm.trans h)).symm⟩
 ·have:=(glM_get hG.nd (fun x=>if 1000≤x then(l[x-1000]?).map fun o=>(⟨o.b,o.d,o.e,o.sz⟩:Blk)else none) x).2 fun vs hv=>hg ⟨vs,hv⟩
  have h:=this.symm.trans h
  split at h
  ·rename_i h8
   cases hl:l[x-1000]? with
   |none=>rw[hl]at h;cases h
   |some o=>rw[hl]at h;cases h;exact .inr ⟨h8,o,rfl,rfl⟩
  ·cases h
theorem R.obs{W:World}{G:Gl}(hG:GlOk W G){l:List Ob}(H:∀o∈l,ObOk W (obM G l) o):R Tryz.prog (obM G l) (obH G l) W:=by
 refine⟨Nat.le_trans globs_le (Nat.le_add_right _ _),fun g o hgs hx=> ?_,fun x o hx=> ?_,fun x o hx=> ?_,fun x k hk=> ?_,fun x y o o' k k' hne hx hy _ _ hk hk' _=> ?_⟩
 ·rcases obH_some hG hx with⟨vs,h1,rfl,h3⟩|⟨h8,_⟩
  ·obtain⟨_,⟨t,fz,hw⟩,_⟩:=hG.ok _ h1
   refine⟨_,h3,rfl,rfl,fun _ _ c' t' fz' hc'=> ?_⟩
   rw[hw]at hc'
   cases hc'
   show vs.length=vs.toArray.size
   simp
  ·have:=glob1000 hgs;omega
 ·rcases obH_some hG hx with⟨vs,h1,rfl,h3⟩|⟨h8,ob,hl,rfl,h3⟩
  ·obtain⟨_,⟨t,fz,hw⟩,hn⟩:=hG.ok _ h1
   intro k hk
   rw[h3]at hk
   cases hk
   refine⟨rfl,vs.toArray,t,fz,hw,by show 0+vs.length≤vs.length;omega,by simp,fun i hi=> ?_,fun h=>by cases h⟩
   refine⟨vs[i],by show vs.toArray[0+i]? =_;rw[Nat.zero_add,List.getElem?_toArray,List.getElem?_eq_getElem hi],?_⟩
   have e:gv vs i=vs[i]'hi:=by unfold gv;rw[lget_eq,List.getElem?_eq_getElem hi];rfl
   rw[e]
   exact(VR.noRef (hn _ (List.getElem_mem _))).1
  ·intro k hk
   rw[h3]at hk
   cases hk
   obtain⟨c,el,fz,hW,h1,h2,hv⟩:=(H ob (List.mem_of_getElem? hl)).ok
   exact⟨rfl,c,el,fz,hW,h1,h2,hv,fun h=>by cases h⟩
 ·rcases obH_some hG hx with⟨vs,h1,rfl,h3⟩|⟨h8,ob,hl,rfl,h3⟩
  ·have:=glob1000 (hG.ok _ h1).1
   show x<1000+l.length
   simp only at this;omega
  ·have:=(List.getElem?_eq_some_iff.1 hl).1
   show x<1000+l.length
   omega
 ·rcases obM_some hG hk with⟨vs,h1,rfl⟩|⟨h8,ob,hl,rfl⟩
  ·obtain⟨hlt,⟨t,fz,hw⟩,hn⟩:=hG.ok _ h1
   have:=glob1000 hlt
   exact⟨by show x<1000+l.length;simp only at this;omega,(Array.getElem?_eq_some_iff.1 hw).1⟩
  ·have:=(List.getElem?_eq_some_iff.1 hl).1
   obtain⟨c,el,fz,hW,_⟩:=(H ob (List.mem_of_getElem? hl)).ok
   exact⟨by show x<1000+l.length;omega,(Array.getElem?_eq_some_iff.1 hW).1⟩
 ·rcases obH_some hG hx with⟨vs,h1,rfl,h3⟩|⟨h8,ob,hl,rfl,h3⟩<;>rcases obH_some hG hy with⟨vs',h1',rfl,h3'⟩|⟨h8',ob',hl',rfl,h3'⟩<;>exact⟨rfl,rfl⟩
theorem obH_ro{W:World}{G:Gl}(hG:GlOk W G){l:List Ob}:∀b o,(obH G l).get b=some o→o.ro=true∨o.live=false:=fun b o hx=>by
 rcases obH_some hG hx with⟨vs,h1,rfl,h3⟩|⟨h8,ob,hl,rfl,h3⟩<;>exact .inl rfl
theorem obsL_keys:∀(l:List Ob) (n:Nat),((obsL n l).map (·.1)).Nodup∧∀b∈(obsL n l).map (·.1),n≤b∧b<n+l.length
 |[],n=>⟨by simp[obsL],fun b hb=>by simp[obsL]at hb⟩
 |o::l,n=>by
  obtain⟨h1,h2⟩:=obsL_keys l (n+1)
  refine⟨?_,fun b hb=> ?_⟩
  ·simp only[obsL,List.map_cons,List.nodup_cons]
   exact⟨fun q=>by have:=(h2 n q).1;omega,h1⟩
  ·simp only[obsL,List.map_cons,List.mem_cons]at hb
   rcases hb with rfl|hb
   ·simp
   ·have:=h2 b hb
    simp only[List.length_cons]
    omega
theorem glL_keys:∀{G:Gl} {l:List (Nat×AObj)},(glL G l).map (·.1)=G.map (·.1)++l.map (·.1)
 |[],l=>rfl
 |(g,vs)::G,l=>by
  show g::(glL G l).map (·.1)=_
  rw[glL_keys];rfl
theorem obH_rdy{W:World}{G:Gl}(hG:GlOk W G)(l:List Ob):Rdy (obH G l):=by
 refine⟨⟨?_,fun b hb=> ?_⟩,rfl⟩
 ·show((glL G (obsL 1000 l)).map (·.1)).Nodup
  rw[glL_keys,List.nodup_append]
  refine⟨hG.nd,(obsL_keys l 1000).1,fun a ha b hb e=> ?_⟩
  obtain⟨q,hq,rfl⟩:=List.mem_map.1 ha
  have h1:=glob1000 (hG.ok _ hq).1
  have h2:=((obsL_keys l 1000).2 b hb).1
  omega
 ·have hb':b∈(glL G (obsL 1000 l)).map (·.1):=hb
  rw[glL_keys]at hb'
  show b<1000+l.length
  rcases List.mem_append.1 hb' with q|q
  ·obtain⟨q,hq,rfl⟩:=List.mem_map.1 q
   have h1:=glob1000 (hG.ok _ hq).1
   omega
  ·exact((obsL_keys l 1000).2 b q).2
theorem CellsAt.lay{W:World}{G:Gl}(hG:GlOk W G){sz n:Nat}{sl:Value}{cs:List Value}(s:CellsAt W sz sl n cs):∃ob:List Ob,(∀μ,∀o∈ob,ObOk W μ o)∧∀(L:List Ob) (i:Nat),(∀o,ob[0]? =some o→L[i]? =some o)→∃a c,VR (obM G L) (.slice a n c) sl∧SliceOf (obH G L) sz (.slice a n c) n cs∧c<UNK:=by
 cases s with
 |nil=>exact⟨[],(fun _ o ho=>by cases ho),fun L i _=>⟨none,0, .sliceN _ _, .nil,by unfold UNK;omega⟩⟩
 | @empty b o cap c el fz hW hc=>
   refine⟨[⟨[],sz,b,0,0⟩],fun μ o' ho=> ?_,fun L i hL=> ?_⟩
   ·rw[List.mem_singleton.1 ho]
    exact⟨c,el,fz,hW,Nat.le_refl _,Nat.zero_le _,fun i hi=>by cases hi⟩
   ·have hi:=hL _ rfl
    have hg:(obH G L).get (1000+i)=some (.cells [] false sz):=by rw[obH_get hG _ _ (by omega),show 1000+i-1000=i by omega,hi];rfl
    have hm:obM G L (1000+i)=some ⟨b,0,0,sz⟩:=by rw[obM_get hG _ _ (by omega),show 1000+i-1000=i by omega,hi];rfl
    have hlt:=(List.getElem?_eq_some_iff.1 hi).1
    refine⟨some ⟨1000+i,o,none⟩,cap,?_, .mem ⟨by show 1000+i<1000+L.length;omega,⟨[],false,sz,hg,?_⟩,by simp⟩ (Nat.zero_le _),hc⟩
    ·have:=VR.slice (μ:=obM G L) (b:=1000+i) (o:=o) (l:=0) (c:=cap) (k:=⟨b,0,0,sz⟩) hm hc (Nat.zero_le _)
     simpa using this
    ·rw[ldrop_eq,List.drop_nil]
     cases 0*sz<;>rfl
 | @full b o cap _ c el fz _ hW hne hlen hsz hl hc hat hno=>
   have hpos:0<n*sz:=Nat.mul_pos (Nat.pos_of_ne_zero hne) hsz
   have hsize:o+n*sz≤c.size:=by
    have h1:=hat (n*sz-1) (by omega)
    have h2:cs[n*sz-1]? =some (cs[n*sz-1]'(by omega)):=List.getElem?_eq_getElem _
    rw[h2]at h1
    have:=(Array.getElem?_eq_some_iff.1 h1).1
    omega
   refine⟨[⟨cs,sz,b,o,o+n*sz⟩],fun μ o' ho=> ?_,fun L i hL=> ?_⟩
   ·rw[List.mem_singleton.1 ho]
    refine⟨c,el,fz,hW,by show o+cs.length≤o+n*sz;omega,hsize,fun i hi=> ?_⟩
    have hi':i<cs.length:=hi
    have h2:cs[i]? =some (cs[i]'hi'):=List.getElem?_eq_getElem _
    refine⟨_,(hat i (by omega)).trans h2,?_⟩
    have e:gv cs i=cs[i]'hi':=by unfold gv;rw[lget_eq,h2];rfl
    show VR μ (gv cs i) _
    rw[e]
    exact(VR.noRef (hno _ (List.getElem_mem _))).1
   ·have hi:=hL _ rfl
    have hg:(obH G L).get (1000+i)=some (.cells cs false sz):=by rw[obH_get hG _ _ (by omega),show 1000+i-1000=i by omega,hi];rfl
    have hm:obM G L (1000+i)=some ⟨b,o,o+n*sz,sz⟩:=by rw[obM_get hG _ _ (by omega),show 1000+i-1000=i by omega,hi];rfl
    have hlt:=(List.getElem?_eq_some_iff.1 hi).1
    refine⟨some ⟨1000+i,0,none⟩,cap,?_, .mem ⟨by show 1000+i<1000+L.length;omega,⟨cs,false,sz,hg,?_⟩,hlen⟩ hl,hc⟩
    ·have:=VR.slice (μ:=obM G L) (b:=1000+i) (o:=0) (l:=n) (c:=cap) (k:=⟨b,o,o+n*sz,sz⟩) hm hc hl
     simpa using this
    ·rw[ltake_eq,ldrop_eq,List.drop_zero,List.take_of_length_le (by omega)]
theorem St.below{μ μ':Mu}{h h':Heap}{W W':World}(s:St μ h W μ' h' W')(hro:∀b o,h.get b=some o→o.ro=true∨o.live=false):Below W.heap.size W W':=
 ⟨s.same.os,s.same.tape,s.same.out,s.le,fun r hr=>s.keep r hr fun⟨b,o,k,g1,g2,g3,_⟩=>by
  rcases hro b o g1 with q|q
  ·rw[q]at g3;cases g3
  ·rw[q]at g2;cases g2⟩
theorem laidG1{W:World}{G:Gl}(hG:GlOk W G){sz1 n1:Nat}{s1:Value}{c1:List Value}(h1:CellsAt W sz1 s1 n1 c1):∃(h:Heap) (μ:Mu),R Tryz.prog μ h W∧(∀b o,h.get b=some o→o.ro=true∨o.live=false)∧Rdy h∧1000≤h.next∧(∀g vs,(g,vs)∈G→h.get g=some (.cells vs false 1))∧
 (∃a c,VR μ (.slice a n1 c) s1∧SliceOf h sz1 (.slice a n1 c) n1 c1∧c<UNK):=by
 obtain⟨o1,k1,q1⟩:=h1.lay hG
 exact⟨obH G o1,obM G o1,R.obs hG fun o ho=>k1 _ o ho,obH_ro hG,obH_rdy hG _,Nat.le_add_right _ _,fun g vs h=>obH_gl hG _ h,q1 _ 0 fun o ho=>ho⟩
end Go.A.Pk
end
section
set_option maxRecDepth 100000
namespace Go.A.Pk
open Go Go.Proofs Go.Joins Go.ChangeShapes Go.WideShapes Go.RowKit Go.Deep
section
variable {H:Type} {enc:TypeId×Value→H} {W:World} {base:Nat} {spare:Nat→Bool} {held:Bool}
theorem cells3:Tryz.prog.cellsOf 3=1:=by kernel_rfl
theorem cells5:Tryz.prog.cellsOf 5=1:=by kernel_rfl
theorem cells22:Tryz.prog.cellsOf 22=1:=by kernel_rfl
theorem cells24:Tryz.prog.cellsOf 24=8:=by kernel_rfl
theorem cells63:Tryz.prog.cellsOf 63=12:=by kernel_rfl
theorem solid_cells{fuel:Nat}{cs:List Value}{x:DataW H×List MemPlace}(h:DataW.trod enc Tryz.prog W base spare held fuel 24 cs=some x):∃pl,IsS pl∧cs=us pl:=by
 obtain⟨xs,m,_,_,hl,hxl,hg⟩:=DataW.trod_array Tryz.underlying24 h
 rw[cells24]at hl
 have key:∀i,i<8→∃n:Nat,n<U64∧cs[i]? =some (.int .u64 (n:Int)):=fun i hi=>by
  have hg:=hg i hi
  rw[cells22]at hg
  have hx:xs[i]? =some xs[i]:=List.getElem?_eq_getElem (by omega)
  rw[hx]at hg
  obtain⟨z,hz,_,hw⟩:=DataW.trod_int Tryz.underlying22 hg
  have hb:0≤z∧z≤18446744073709551615:=by
   simpa[Lit.wf,IntKind.min,IntKind.max,IntKind.signed,IntKind.bits]using hw
  obtain⟨n,rfl⟩:=Int.eq_ofNat_of_zero_le hb.1
  refine⟨n,by unfold U64;omega,?_⟩
  have hz2:(cs.drop (i*1)).take 1=[Value.int .u64 (n:Int)]:=hz
  have hz':((cs.drop (i*1)).take 1)[0]? =some (.int .u64 (n:Int)):=by rw[hz2];rfl
  rw[List.getElem?_take_of_lt (by omega),List.getElem?_drop]at hz'
  simpa using hz'
 let f:Value→Nat:=fun v=>match v with| .int _ n=>n.toNat|_=>0
 refine⟨cs.map f,⟨by simpa using hl,fun x hx=> ?_⟩,?_⟩
 ·obtain⟨y,hy,rfl⟩:=List.mem_map.1 hx
  obtain⟨i,hi,rfl⟩:=List.mem_iff_getElem.1 hy
  obtain⟨n,hn,hk⟩:=key i (by omega)
  rw[List.getElem?_eq_getElem hi,Option.some.injEq]at hk
  rw[hk];exact hn
 ·apply List.ext_getElem?
  intro i
  by_cases hi:i<8
  ·obtain⟨n,hn,hk⟩:=key i hi
   rw[hk]
   simp only[us,List.getElem?_map,hk,z7]
   rfl
  ·rw[List.getElem?_eq_none (by omega),List.getElem?_eq_none (by rw[us_length,List.length_map];omega)]
theorem reading_cells{fuel:Nat}{cs:List Value}{x:DataW H×List MemPlace}(h:DataW.trod enc Tryz.prog W base spare held fuel 63 cs=some x):∃r:Rd,IsR r∧cs=rdL r:=by
 obtain⟨xs,n,_,hx,hcl,hlen,hg⟩:=DataW.trod_struct Tryz.underlying63 h
 rw[cells63]at hcl
 match cs,hcl with
 |[c0,c1,c2,c3,c4,c5,c6,c7,c8,c9,c10,c11],_=>
  match xs,hlen with
  |[y0,y1,y2,y3,y4],_=>
   have g0:DataW.trod enc Tryz.prog W base spare held n 3 [c0]=some y0:=by have:=hg 0 _ rfl;simpa[cells3]using this
   have g1:DataW.trod enc Tryz.prog W base spare held n 3 [c1]=some y1:=by have:=hg 1 _ rfl;simpa[cells3]using this
   have g2:DataW.trod enc Tryz.prog W base spare held n 5 [c2]=some y2:=by have:=hg 2 _ rfl;simpa[cells5]using this
   have g3:DataW.trod enc Tryz.prog W base spare held n 24 [c3,c4,c5,c6,c7,c8,c9,c10]=some y3:=by have:=hg 3 _ rfl;simpa[cells24]using this
   have g4:DataW.trod enc Tryz.prog W base spare held n 3 [c11]=some y4:=by have:=hg 4 _ rfl;simpa[cells3]using this
   obtain⟨a0,h0,_⟩:=DataW.trod_int Tryz.underlying3 g0
   obtain⟨a1,h1,_⟩:=DataW.trod_int Tryz.underlying3 g1
   obtain⟨a2,h2,_,w2⟩:=DataW.trod_int Tryz.underlying5 g2
   obtain⟨pl,hp,h3⟩:=solid_cells g3
   obtain⟨a4,h4,_⟩:=DataW.trod_int Tryz.underlying3 g4
   cases h0;cases h1;cases h2;cases h4
   have hb:0≤a2∧a2≤255:=by
    simpa[Lit.wf,IntKind.min,IntKind.max,IntKind.signed,IntKind.bits]using w2
   obtain⟨k,rfl⟩:=Int.eq_ofNat_of_zero_le hb.1
   refine⟨⟨a0,a1,k,pl,a4⟩,⟨hp,by show k<256;omega⟩,?_⟩
   show _=_::_::_::(us pl++[_])
   rw[←h3];rfl
theorem open_reading{v:Value}{d:DataW H}{p:List MemPlace}(hv:Value.okWide Tryz.prog W .any base 63 v)(h:DataW.Trod enc Tryz.prog W 0 spare held 63 v d p):∃r:Rd,IsR r∧v=rdV r:=by
 obtain⟨cs,rfl,_⟩:=okWide_struct Tryz.underlying63 hv
 obtain⟨fuel,hf⟩:=h
 obtain⟨r,hr,hk⟩:=reading_cells hf
 refine⟨r,hr,?_⟩
 have:cs=(rdL r).toArray:=by rw[←hk];simp[Value.cells]
 rw[this];rfl
theorem add_eq(b o n:Nat):(Addr.mk b o none).add n=⟨b,o+n,none⟩:=by
 unfold Addr.add
 by_cases h:n=0
 ·rw[if_pos h,h,Nat.add_zero]
 ·rw[if_neg h]
theorem rsL_get{l:List Rd}(hl:∀r∈l,IsR r){i:Nat}{r:Rd}{j:Nat}(h:l[i]? =some r)(hj:j<12):(rsL l)[i*12+j]? =(rdL r)[j]? :=by
 have hR:=hl r (List.mem_of_getElem? h)
 have hlt:=(List.getElem?_eq_some_iff.1 h).1
 have e:l=l.take i++r::l.drop (i+1):=by
  obtain⟨q,rfl⟩:=List.getElem?_eq_some_iff.1 h
  rw[←List.drop_eq_getElem_cons q,List.take_append_drop]
 have hlen:(rsL (l.take i)).length=i*12:=by rw[rsL_length fun r hr=>hl r (List.mem_of_mem_take hr),List.length_take,Nat.min_eq_left (by omega)]
 conv=>lhs;rw[e,rsL_app,rsL_cons]
 rw[List.getElem?_append_right (by omega),hlen,Nat.add_sub_cancel_left,List.getElem?_append_left (by rw[rdL_length hR];exact hj)]
theorem noRef_rdL(r:Rd):∀v∈rdL r,noRef v=true:=by
 intro v hv
 simp only[rdL,us,List.mem_cons,List.mem_append,List.mem_map,List.not_mem_nil,or_false]at hv
 rcases hv with rfl|rfl|rfl|⟨n,_,rfl⟩|rfl<;>rfl
theorem noRef_rsL(l:List Rd):∀v∈rsL l,noRef v=true:=by
 intro v hv
 induction l with
 |nil=>cases hv
 |cons r l ih=>
  rw[rsL_cons]at hv
  rcases List.mem_append.1 hv with q|q
  ·exact noRef_rdL r v q
  ·exact ih q
theorem scal_us:∀(pl:List Nat) (t:List Value),scalL t=true→scalL (us pl++t)=true
 |[],t,h=>h
 |x::pl,t,h=>scal_us pl t h
theorem noRef_rdV(r:Rd):noRef (rdV r)=true:=by
 show flat (.agg (rdL r).toArray)=true
 simp only[flat]
 exact scal_us r.cells [.int .i64 r.of] rfl
instance:Inhabited Rd:=⟨⟨0,0,0,[],0⟩⟩
def RdsAt(W:World)(v:Value)(l:List Rd):Prop:=CellsAt W 12 v l.length (rsL l)∧∀r∈l,IsR r
theorem open_readings{v:Value}{d:DataW H}{p:List MemPlace}(hv:Value.okWide Tryz.prog W .any base 54 v)(h:DataW.Trod enc Tryz.prog W 0 (fun _=>true) held 54 v d p)(hz:∀n∈d.weights Tryz.prog 54,n≤reachBytes):∃l,RdsAt W v l:=by
 have hcell:Cell.okWide Tryz.prog W .any base 54 v:=by
  simpa only[Value.okWide,Tryz.underlying54]using hv
 obtain⟨a0,len0,cap0,rfl⟩:=okWide_slice Tryz.underlying54 hv
 obtain⟨fuel,hf⟩:=h
 have hf:DataW.trod enc Tryz.prog W 0 (fun _=>true) held fuel 54 [.slice a0 len0 cap0]=some (d,p):=by simpa[Value.cells]using hf
 rcases open_slice Tryz.underlying54 hf with⟨h2,_⟩|⟨a,len,cap,m,n',D,Pl,h2,_,hl,hcap,hm,hy,hx⟩
 ·cases h2
  exact⟨[], .nil,fun x hx=>by cases hx⟩
 ·cases h2
  simp only[Cell.okWide,Cell.ok,Tryz.underlying54,World.has]at hcell
  obtain⟨_,_,_,hspot,row,cells,hsh,_⟩:=hcell
  obtain⟨b,o,sp⟩:=a
  simp only at hspot hsh
  subst hspot
  rw[if_pos rfl]at hm
  subst hm
  have e16:Tryz.prog.bytesOf 63=96:=by kernel_rfl
  have hcapU:m*96≤reachBytes:=by
   refine hz (m*96) ?_
   cases hy
   simp only[DataW.weights,Tryz.underlying54,e16,List.length_map,List.length_range,show len0+(m-len0)=m by omega]
   simp
  unfold reachBytes at hcapU
  obtain⟨c,el,fz,hheap⟩:∃c el fz,W.heap[b]? =some (.cells c el fz):=by
   unfold World.shape? at hsh
   split at hsh
   ·rename_i c el fz he;exact⟨c,el,fz,he⟩
   ·cases hsh
  obtain⟨f,hf⟩:=choose_lt (α:=Rd) (n:=len0) (p:=fun i k=>IsR k∧∀j,j<12→c[o+(i*12+j)]? =(rdL k)[j]?) (fun i hi=>by
   obtain⟨cs',hc,ht⟩:=hx i (by omega)
   obtain⟨k,hk2,hk⟩:=reading_cells ht
   subst hk
   refine⟨k,hk2,fun j hj=> ?_⟩
   rw[cells63]at hc
   obtain⟨_,_,hat⟩:=World.cells?_some hc
   have:=hat j hj
   rw[add_eq,add_eq]at this
   rw[←this,Nat.add_assoc]
   unfold World.cell?
   simp only[hheap]
   rfl)
  by_cases h0:len0=0
  ·subst h0
   exact⟨[], .empty hheap (by unfold UNK;omega),fun x hx=>by cases hx⟩
  ·have hlen:((List.range len0).map f).length=len0:=by simp
   have hok:∀r∈(List.range len0).map f,IsR r:=fun x hx=>by
    obtain⟨i,hi,rfl⟩:=List.mem_map.1 hx
    exact(hf i (List.mem_range.1 hi)).1
   refine⟨(List.range len0).map f,?_,hok⟩
   rw[hlen]
   refine .full hheap h0 (by rw[rsL_length hok,hlen]) (by omega) hl (by unfold UNK;omega) (fun j hj=> ?_) (noRef_rsL _)
   have h5:j / 12<len0:=by omega
   have e1:j=j / 12*12+j % 12:=by omega
   have g1:=(hf (j / 12) h5).2 (j % 12) (by omega)
   have g2:=rsL_get hok (i:=j / 12) (r:=f (j / 12)) (j:=j % 12) (by simp[h5]) (by omega)
   rw[←e1]at g1 g2
   rw[g1,g2]
end
def tabV:List Value:=debL.map fun n=> .int .u8 (n:Nat)
abbrev TabAt(W:World):Prop:=∃t fz,W.heap[2]? =some (.cells tabV.toArray t fz)
theorem TabAt.gl{W:World}(h:TabAt W):GlOk W [(2,tabV)]:=by
 refine⟨fun q hq=> ?_,by simp⟩
 rw[List.mem_singleton.1 hq]
 refine⟨of_decide_eq_true (by kernel_rfl),h,fun v hv=> ?_⟩
 simp only[tabV,List.mem_map]at hv
 obtain⟨n,_,rfl⟩:=hv
 rfl
theorem tab_named:Tryz.prog.globalNamed "math/bits.deBruijn64tab" =some 2:=by kernel_rfl
theorem tab_type:(Tryz.prog.globals[2]?).map (·.type)=some 369:=by kernel_rfl
theorem tab_elem:∃e,Tryz.prog.underlying 369=some (.array 64 e)∧Tryz.prog.underlying e=some (.int .u8)∧Tryz.prog.cellsOf e=1∧Tryz.prog.cellsOf 369=64:=⟨_,Tryz.underlying369,by kernel_rfl,by kernel_rfl,by kernel_rfl⟩
theorem tab_at{W:World}{d:DataW Unit}{rest:List (String×DataW Unit)}(hd:d=Lib.tabData .u8 (debL.map fun n:Nat=>(n:Int)))(h:laidMet Tryz.prog (("math/bits.deBruijn64tab",d)::rest) W):TabAt W:=by
 subst hd
 obtain⟨e,h1,h2,h3,h4⟩:=tab_elem
 have hT:=Lib.tabIs_of_head tab_named tab_type h1 h2 h3 h4 h
 unfold Lib.TabIs World.var? at hT
 rw[tab_named]at hT
 simp only[Option.bind_some]at hT
 split at hT
 ·rename_i c t fz he
  refine⟨t,fz,he.trans ?_⟩
  have:c=tabV.toArray:=by
   rw[Option.some.inj hT]
   simp[tabV,List.map_map,Function.comp_def]
  rw[this]
 ·cases hT
end Go.A.Pk
end
section
set_option maxRecDepth 100000
namespace Go.A.Pk
open Go Go.Proofs
theorem h0_eq:StkQ.h0=oneH 2 (debL.map fun n=> .int .u8 (n:Nat)) 1000:=by kernel_rfl
theorem ok21:Entry Tryz.prog 21 (.prim pSd):= .prim (primT_ok sound (g:=2) (n:=1000) (vs:=debL.map fun n=> .int .u8 (n:Nat)) Tryz.func21 (of_decide_eq_true (by kernel_rfl)) (by kernel_rfl) globs_le (by decide) (by kernel_rfl) (by kernel_rfl) fun args v h h' hp=>by
 unfold pSd at hp
 split at hp
 ·split at hp
  ·rename_i hT
   cases hp
   refine⟨rfl,hT,fun a ha=>(nomatch ha),rfl,?_⟩
   rw[←h0_eq]
   exact StkQ.run
  ·cases hp
 ·cases hp)
end Go.A.Pk
end
section
set_option maxRecDepth 100000
namespace Go.A.Pk
open Go Go.Proofs Go.Joins Go.ChangeShapes Go.WideShapes Go.RowKit Go.Deep
section
variable {H:Type} {enc:TypeId×Value→H} {W:World} {base:Nat} {spare:Nat→Bool} {held:Bool}
theorem okWide_arr8S{t e:TypeId}{n:Nat}{v:Value}(ht:Tryz.prog.underlying t=some (.array n e))(h:Value.okWide Tryz.prog W .any base t v):∃cs,v= .agg cs:=by
 simp only[Value.okWide,ht]at h
 obtain⟨cs,h1,_⟩:=h
 exact⟨cs,h1⟩
theorem open_solid{v:Value}{d:DataW H}{p:List MemPlace}(hv:Value.okWide Tryz.prog W .any base 24 v)(h:DataW.Trod enc Tryz.prog W 0 spare held 24 v d p):∃s:List Nat,IsS s∧v=sv s:=by
 obtain⟨cs,rfl⟩:=okWide_arr8S Tryz.underlying24 hv
 obtain⟨fuel,hf⟩:=h
 obtain⟨s,hs,hk⟩:=solid_cells hf
 refine⟨s,hs,?_⟩
 have:cs=(us s).toArray:=by rw[←hk];simp[Value.cells]
 rw[this];rfl
end
end Go.A.Pk
end
section
set_option maxRecDepth 100000
namespace Go.A.Pk
open Go Go.Proofs
theorem c9:compF Tryz.prog Tryz.f9 [[1,3,5,7,9],[1,3,5,7,9,27],[10],[1,3,5,7,9,12],[1,3,5,7,9,35],[10],[1,3,5,7,9,13],[1,3,5,7,9,13,14],[1,3,5,7,9,13,14,40],[1,3,5,7,9,13,14,49],[1,3,5,7,9,13,14],[1,3,5,7,9,13,14],[1,3,5,7,9,13,15,16],[1,5,7,9,15,16,17,18],[1,5,7,9,15,17,78],[10],[1,5,7,9,15,17,19,20],[1,5,7,9,15,17,19,91],[10],[5,7,9,15,16,17,19],[9,15,16,17,18],[9,15,16,17,18,114],[10],[9,17,21,22],[21,22,23,24],[10]]=some f9:=by kernel_rfl
theorem c35:compF Tryz.prog Tryz.f35 [[2,3],[4]]=some f35:=by kernel_rfl
theorem c41:compF Tryz.prog Tryz.f41 [[0],[0,4],[0,4,9],[0,4,5],[0,4,5,22],[2,3],[0,4],[2,3]]=some f41:=by kernel_rfl
theorem c42:compF Tryz.prog Tryz.f42 [[0,3],[0,3,7],[0,3,7,15],[4,5],[0,3,8],[0,3,8,21],[4,5],[4,5]]=some f42:=by kernel_rfl
theorem c48:compF Tryz.prog Tryz.f48 [[1],[1,3],[1,3,25],[1,3],[48],[2],[2]]=some f48:=by kernel_rfl
theorem c52:compF Tryz.prog Tryz.f52 [[2,3],[4]]=some f52:=by kernel_rfl
theorem c73:compF Tryz.prog Tryz.f73 [[1,2,3,6],[1,2,3,6,9],[1,2,3,6,9,17],[6,7],[6,10],[6,10,29],[6,7],[6,7]]=some f73:=by kernel_rfl
theorem c113:compF Tryz.prog Tryz.f113 [[0,1,2],[6]]=some f113:=by kernel_rfl
theorem c118:compF Tryz.prog Tryz.f118 [[2,3,4],[2,3,4,5],[2,3,4,5,7],[2,3,4,5],[2,3,4,5],[4]]=some f118:=by kernel_rfl
theorem c130:compF Tryz.prog Tryz.f130 [[0,3],[0,3,10],[4],[0,3,13],[4],[0,3,5],[0,3,5,6],[0,3,5,6,7],[0,3,5,6,7,17],[0,3,5,6,7,27],[4],[0,3,5,6,7],[0,3,5,6,7],[0,3,5,6,7],[3,5,6,80],[4],[3,6,87],[4],[93],[4],[4]]=some f130:=by kernel_rfl
theorem c136:compF Tryz.prog Tryz.f136 [[0,1],[0,1,5],[0,1,5,6],[0,1,5,6,12],[0,1,5,6,7],[0,1,5,6,7,8],[0,1,5,6,7,8,33],[0,1,5,6,7,8,63],[0,1,5,6,7,8],[0,1,5,6,7,8],[0,1,5,6,64],[0,1,5,6],[0,1,5,6],[4]]=some f136:=by kernel_rfl
theorem c140:compF Tryz.prog Tryz.f140 [[2,3,4],[2,3,4,5],[2,3,4,5,7],[2,3,4,5],[2,3,4,5],[4]]=some f140:=by kernel_rfl
theorem c169:compF Tryz.prog Tryz.f169 [[1,2,3,6],[3,6,7],[6,7,8],[6,7,8,9],[6,7,8,9,18],[6,7,8,9,26],[6,7,8,9],[6,7,8,9],[6,7,8,9],[6]]=some f169:=by kernel_rfl
noncomputable def tree9:Tr:=(.node (.node (.node (.node (.node (.node .nil 9 f9 .nil) 21 (.prim pSd) (.node .nil 33 f33 .nil)) 34 f34 (.node (.node .nil 35 f35 .nil) 37 f37 (.node .nil 40 f40 .nil))) 41 f41 (.node (.node (.node .nil 42 f42 .nil) 44 f44 (.node .nil 47 f47 .nil)) 48 f48 (.node (.node .nil 52 f52 .nil) 73 f73 (.node .nil 89 f89 .nil)))) 90 f90 (.node (.node (.node (.node .nil 106 f106 .nil) 113 f113 (.node .nil 118 f118 .nil)) 120 f120 (.node (.node .nil 121 f121 .nil) 122 f122 (.node .nil 123 f123 .nil))) 124 f124 (.node (.node (.node .nil 126 f126 .nil) 127 f127 (.node .nil 129 f129 .nil)) 130 f130 (.node (.node .nil 131 f131 .nil) 132 f132 (.node .nil 133 f133 .nil))))) 134 f134 (.node (.node (.node (.node (.node .nil 135 f135 .nil) 136 f136 (.node .nil 140 f140 .nil)) 169 f169 (.node (.node .nil 174 f174 .nil) 188 f188 (.node .nil 209 f209 .nil))) 210 f210 (.node (.node (.node .nil 211 f211 .nil) 212 f212 (.node .nil 213 f213 .nil)) 214 f214 (.node (.node .nil 215 f215 .nil) 216 f216 (.node .nil 217 f217 .nil)))) 218 f218 (.node (.node (.node (.node .nil 219 f219 .nil) 220 f220 (.node .nil 254 f254 .nil)) 261 f261 (.node (.node .nil 262 f262 .nil) 263 f263 (.node .nil 264 f264 .nil))) 265 f265 (.node (.node (.node .nil 266 f266 .nil) 317 f317 (.node .nil 318 f318 .nil)) 319 f319 (.node (.node .nil 320 f320 .nil) 321 f321 (.node .nil 322 f322 .nil))))))
noncomputable def T9:Nat→Option AFunc:=tree9.get
theorem all9:tree9.all (Entry Tryz.prog):=by
 unfold tree9
 exact(Tr.all_node (Tr.all_node (Tr.all_node (Tr.all_node (Tr.all_node (Tr.all_node Tr.all_nil (.of Tryz.func9 c9) Tr.all_nil) ok21 (Tr.all_node Tr.all_nil (.of Tryz.func33 c33) Tr.all_nil)) (.of Tryz.func34 c34) (Tr.all_node (Tr.all_node Tr.all_nil (.of Tryz.func35 c35) Tr.all_nil) (.of Tryz.func37 c37) (Tr.all_node Tr.all_nil (.of Tryz.func40 c40) Tr.all_nil))) (.of Tryz.func41 c41) (Tr.all_node (Tr.all_node (Tr.all_node Tr.all_nil (.of Tryz.func42 c42) Tr.all_nil) (.of Tryz.func44 c44) (Tr.all_node Tr.all_nil (.of Tryz.func47 c47) Tr.all_nil)) (.of Tryz.func48 c48) (Tr.all_node (Tr.all_node Tr.all_nil (.of Tryz.func52 c52) Tr.all_nil) (.of Tryz.func73 c73) (Tr.all_node Tr.all_nil (.of Tryz.func89 c89) Tr.all_nil)))) (.of Tryz.func90 c90) (Tr.all_node (Tr.all_node (Tr.all_node (Tr.all_node Tr.all_nil (.of Tryz.func106 c106) Tr.all_nil) (.of Tryz.func113 c113) (Tr.all_node Tr.all_nil (.of Tryz.func118 c118) Tr.all_nil)) (.of Tryz.func120 c120) (Tr.all_node (Tr.all_node Tr.all_nil (.of Tryz.func121 c121) Tr.all_nil) (.of Tryz.func122 c122) (Tr.all_node Tr.all_nil (.of Tryz.func123 c123) Tr.all_nil))) (.of Tryz.func124 c124) (Tr.all_node (Tr.all_node (Tr.all_node Tr.all_nil (.of Tryz.func126 c126) Tr.all_nil) (.of Tryz.func127 c127) (Tr.all_node Tr.all_nil (.of Tryz.func129 c129) Tr.all_nil)) (.of Tryz.func130 c130) (Tr.all_node (Tr.all_node Tr.all_nil (.of Tryz.func131 c131) Tr.all_nil) (.of Tryz.func132 c132) (Tr.all_node Tr.all_nil (.of Tryz.func133 c133) Tr.all_nil))))) (.of Tryz.func134 c134) (Tr.all_node (Tr.all_node (Tr.all_node (Tr.all_node (Tr.all_node Tr.all_nil (.of Tryz.func135 c135) Tr.all_nil) (.of Tryz.func136 c136) (Tr.all_node Tr.all_nil (.of Tryz.func140 c140) Tr.all_nil)) (.of Tryz.func169 c169) (Tr.all_node (Tr.all_node Tr.all_nil (.of Tryz.func174 c174) Tr.all_nil) (.of Tryz.func188 c188) (Tr.all_node Tr.all_nil (.of Tryz.func209 c209) Tr.all_nil))) (.of Tryz.func210 c210) (Tr.all_node (Tr.all_node (Tr.all_node Tr.all_nil (.of Tryz.func211 c211) Tr.all_nil) (.of Tryz.func212 c212) (Tr.all_node Tr.all_nil (.of Tryz.func213 c213) Tr.all_nil)) (.of Tryz.func214 c214) (Tr.all_node (Tr.all_node Tr.all_nil (.of Tryz.func215 c215) Tr.all_nil) (.of Tryz.func216 c216) (Tr.all_node Tr.all_nil (.of Tryz.func217 c217) Tr.all_nil)))) (.of Tryz.func218 c218) (Tr.all_node (Tr.all_node (Tr.all_node (Tr.all_node Tr.all_nil (.of Tryz.func219 c219) Tr.all_nil) (.of Tryz.func220 c220) (Tr.all_node Tr.all_nil (.of Tryz.func254 c254) Tr.all_nil)) (.of Tryz.func261 c261) (Tr.all_node (Tr.all_node Tr.all_nil (.of Tryz.func262 c262) Tr.all_nil) (.of Tryz.func263 c263) (Tr.all_node Tr.all_nil (.of Tryz.func264 c264) Tr.all_nil))) (.of Tryz.func265 c265) (Tr.all_node (Tr.all_node (Tr.all_node Tr.all_nil (.of Tryz.func266 c266) Tr.all_nil) (.of Tryz.func317 c317) (Tr.all_node Tr.all_nil (.of Tryz.func318 c318) Tr.all_nil)) (.of Tryz.func319 c319) (Tr.all_node (Tr.all_node Tr.all_nil (.of Tryz.func320 c320) Tr.all_nil) (.of Tryz.func321 c321) (Tr.all_node Tr.all_nil (.of Tryz.func322 c322) Tr.all_nil))))))
theorem sound9:SoundT Tryz.prog T9:=soundT_of (by kernel_rfl) all9
theorem fns9:FnsL9 T9:={k7:={fo:={toFnsRd:={p:=sound9.primAS,f47:=by kernel_rfl,f106:=by kernel_rfl,f90:=by kernel_rfl},f129:=by kernel_rfl,f216:=by kernel_rfl,f217:=by kernel_rfl,vo:={p:=sound9.primAS,f135:=by kernel_rfl,f218:=by kernel_rfl,f219:=by kernel_rfl,f220:=by kernel_rfl}},rf:={toFnsRr:={p:=sound9.primAS,f48:=by kernel_rfl,f113:=by kernel_rfl},f130:=by kernel_rfl},sn:={p:=sound9.primAS,f122:=by kernel_rfl,f124:=by kernel_rfl,f174:=by kernel_rfl},kn:={p:=sound9.primAS,f136:=by kernel_rfl,f118:=by kernel_rfl,f140:=by kernel_rfl,f169:=by kernel_rfl},f35:=by kernel_rfl,f37:=by kernel_rfl,f40:=by kernel_rfl,f41:=by kernel_rfl,f44:=by kernel_rfl,f52:=by kernel_rfl,f73:=by kernel_rfl,f121:=by kernel_rfl,f131:=by kernel_rfl,f132:=by kernel_rfl,f133:=by kernel_rfl,f134:=by kernel_rfl},sv:={fi:={ft:={mp:={cp:={p:=sound9.primAS,f123:=by kernel_rfl,f213:=by kernel_rfl,f214:=by kernel_rfl,f264:=by kernel_rfl,f265:=by kernel_rfl,f266:=by kernel_rfl},tu:={p:=sound9.primAS,f263:=by kernel_rfl,f317:=by kernel_rfl,f318:=by kernel_rfl,f319:=by kernel_rfl,f320:=by kernel_rfl,f321:=by kernel_rfl,f322:=by kernel_rfl},f126:=by kernel_rfl,f127:=by kernel_rfl,f211:=by kernel_rfl,f215:=by kernel_rfl,f261:=by kernel_rfl,f262:=by kernel_rfl},bd:={cp:={p:=sound9.primAS,f123:=by kernel_rfl,f213:=by kernel_rfl,f214:=by kernel_rfl,f264:=by kernel_rfl,f265:=by kernel_rfl,f266:=by kernel_rfl},f210:=by kernel_rfl},li:={p:=sound9.primAS,f212:=by kernel_rfl},co:={p:=sound9.primAS,f188:=by kernel_rfl,f254:=by kernel_rfl},f35:=by kernel_rfl,f121:=by kernel_rfl,f209:=by kernel_rfl},f34:=by kernel_rfl,f120:=by kernel_rfl},f33:=by kernel_rfl,f89:=by kernel_rfl,f90:=by kernel_rfl},f9:=by kernel_rfl,f21:=by kernel_rfl,f42:=by kernel_rfl}
open Go.RowKit in
theorem later_calls{W:World}(V:TabAt W){s:List Nat}(hs:IsS s){sl:Value}{l:List Rd}(hl:RdsAt W sl l){r:Rd}(hR:IsR r)(day:Int){o:List Nat}(ho:IsS o):Calls Tryz.prog 9 #[sv s,sl,rdV r, .int .i64 day,sv o] W fun e W'=>e= .returned (.bool true)∧Below W.heap.size W W':=by
 obtain⟨h,μ,hRR,hro,hrd,hnx,hgl,a,n,hu,hsl,hc⟩:=laidG1 V.gl hl.1
 obtain⟨r',h',⟨m,hm⟩,rfl,rfl⟩:=law9 fns9 hrd (hgl 2 _ List.mem_cons_self) (by omega) hs ⟨hsl,hl.2⟩ hR day ho
 have hrun:=hm m (Nat.le_refl _)
 have ha:LR μ [sv s, .slice a l.length n,rdV r, .int .i64 day,sv o] [sv s,sl,rdV r, .int .i64 day,sv o]:= .cons (VR.noRef (sv_noRef s)).1 (.cons hu (.cons (VR.noRef (noRef_rdV r)).1 (.cons (.int _ _) (.cons (VR.noRef (sv_noRef o)).1 .nil))))
 refine(acall_calls sound9 hrun hrd.log (by kernel_rfl) hRR ha).mono fun e W' hq=> ?_
 obtain⟨μ',q1,q2,q3⟩:=hq
 cases e with
 |returned v'=>
  have hv:VR μ' (.bool true) v':=q1
  cases hv
  exact⟨rfl,St.below q3 hro⟩
 |panicked _=>exact q1.elim
 |outgrown=>exact q1.elim
end Go.A.Pk
end
