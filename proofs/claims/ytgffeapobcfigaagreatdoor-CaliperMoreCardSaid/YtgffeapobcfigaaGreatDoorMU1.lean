/- Walks of functions, plain laws, the table. -/
import Derived.Test.YtgffeapobcfigaaGreatDoorMU0
import Derived.Test.YtgffeapobcfigaaGreatDoorMD
import Derived.Test.YtgffeapobcfigaaGreatDoorMV
import Derived.Test.YtgffeapobcfigaaGreatDoorMF
set_option linter.all false
section
set_option maxRecDepth 100000
namespace Go.A.Pk
variable {T:Nat→Option af}
structure Ln (T:Nat→Option af):Prop where
 p:bt T
 f171:T 171=some f171
 f225:T 225=some f225
set_option maxHeartbeats 4000000 in
theorem Mk(F:Ln T){h:Heap}(hr:Rdy h){s:List Nat}(hs:IsS s)(c:Ce):Pu T 171 [sv s,ceV c] h (.bool (oJ s c)):=by
 refine .of F.p F.f171 hr rfl ?_
 have W:=(hr.wf.push (.cells (cellsOf (sv s)) true 1)).push (.cells (cellsOf (ceV c)) true 1)
 have C:=Di F.p F.f225 (.of W) c
 by_cases hc:inG c=true
 ·obtain⟨z,i,hz,hi,rfl⟩:=tP hc
  rw[hc]at C
  rw[CA hz hi,←Jx]
  have e1:=lF (qg (s:=s) (i:=z) (by rw[hs.len];exact hz))
  have k1:=ql (hs.om z) (ur hi)
  have k2:aA .neq (.int .u64 ((Nat.land (s.getD z 0) (2 ^ i):Nat):Int)) (.int .u64 0)=some (.bool (decide (Nat.land (s.getD z 0) (2 ^ i)≠0))):=by
   rw[Ch]
   by_cases q:Nat.land (s.getD z 0) (2 ^ i)=0
   ·rw[q];rfl
   ·rw[decide_eq_true q]
    have:((Nat.land (s.getD z 0) (2 ^ i):Nat):Int)≠0:=by omega
    simp only[bne,beq_eq_false_iff_ne.2 this];rfl
  have k4:aA .mul (.int .i64 8) (.int .i64 (jN z i).y)=some (.int .i64 (8*((i / 8:Nat):Int))):=Gc (b:=((i / 8:Nat):Int)) (by omega) (by omega)
  have k5:aA .add (.int .i64 (8*((i / 8:Nat):Int))) (.int .i64 (jN z i).x)=some (.int .i64 ((i:Nat):Int)):=nE (b:=((i % 8:Nat):Int)) (by rw[cQ]<;>omega)
  have k6:=Gd (k:= .u64) hi
  have k7:fM .u64 ((i:Nat):Int)=((i:Nat):Int):=oF (by omega)
  refine y4 ?_;refine yB ?_;refine yB ?_;refine yM ?_;refine y3 ?_;refine ah ?_;refine cV ?_
  refine qN ?_
  refine qC ?_
  refine FW.puD C (by apply aP rfl;exact cC) ?_
  clear C
  refine qM ?_;refine qF ?_
  refine qL ?_
  refine qJ ?_
  refine aM rfl rfl rfl (by exact rfl) (by exact rfl) (by exact rfl) (bO (by exact rfl) (by(simp(disch:=first|omega|(simp only[z1,z2];omega))only[z3,z4,z5,z6,z7,z1,z2];exact rfl)) (by assumption)) ?_
  refine qF ?_
  refine qL ?_
  refine qW ?_;refine qF ?_
  refine qL ?_
  refine qW ?_;refine aM rfl rfl rfl (by exact rfl) (by exact rfl) (by exact rfl) (Av (by exact rfl) (by assumption)) ?_
  refine qW ?_;refine qW ?_
  refine qW ?_;refine aM rfl rfl rfl (by exact rfl) (by exact rfl) (by exact rfl) (pX (by exact rfl) (by exact rfl)) ?_;refine qM ?_;refine dy ?_
  refine y1 ?_;refine aV ?_;refine aG ?_
  exact aD hr.log rfl rfl
 ·have hc:inG c=false:=by simpa using hc
  rw[hc]at C
  rw[show oJ s c=false by unfold oJ;rw[hc];rfl]
  refine y4 ?_;refine yB ?_;refine yB ?_;refine yM ?_;refine y3 ?_;refine ah ?_;refine cV ?_
  refine qN ?_
  refine qC ?_
  refine FW.puD C (by apply aP rfl;exact cC) ?_
  clear C
  refine qM ?_;refine qO ?_;refine qO ?_;refine qO ?_;refine qO ?_;refine qO ?_;refine qO ?_
  refine qO ?_;refine qO ?_;refine qO ?_;refine qO ?_;refine qO ?_;refine qO ?_;refine qO ?_;refine qO ?_
  refine aM rfl rfl rfl (by exact rfl) (by exact rfl) (by exact rfl) (nY (by exact rfl) (by exact rfl)) ?_;refine qM ?_;refine dy ?_;refine y1 ?_;refine aV ?_;refine aG ?_
  exact aD hr.log rfl rfl
def ceN(n:Nat):Ce:=⟨(n % 8:Nat),(n / 8 % 8:Nat),(n / 64:Nat)⟩
def ceS(l:List Ce):List Value:=l.flatMap ceL
theorem Ji(a b:List Ce):ceS (a++b)=ceS a++ceS b:=by simp[ceS]
def cw(s:List Nat)(n:Nat):List Ce:=((List.range n).map ceN).filter (oJ s)
theorem pZ(s:List Nat)(n:Nat):cw s (n+1)=cw s n++(if oJ s (ceN n)then [ceN n]else []):=by
 unfold cw
 rw[List.range_succ,List.map_append,List.filter_append]
 congr 1
 simp only[List.map_cons,List.map_nil,List.filter_cons,List.filter_nil]
theorem kz(s:List Nat)(n:Nat):(cw s n).length≤n:=by
 unfold cw
 exact Nat.le_trans (List.length_filter_le ..) (by simp)
structure ED (T:Nat→Option af):Prop where
 hr:Ln T
 f170:T 170=some f170
set_option maxHeartbeats 8000000 in
theorem Fh(F:ED T){h:Heap}(hr:Rdy h){s:List Nat}(hs:IsS s):Al T 170 [sv s] h fun v h'=>Own h.next h' 3 v (cw s 512).length (ceS (cw s 512)):=by
 refine .of F.hr.p F.f170 hr ?_ ?_
 ·intro v h1 hv q
  generalize(cw s 512).length=m at q⊢
  generalize ceS (cw s 512)=cs at q⊢
  cases q with
  |nil=>exact .nil
  |full=>cases hv
 have k8:=bF hs.len
 have k9:=cD hs.len
 have g0:(h.push (.cells (cellsOf (sv s)) true 1)).get h.next=some (.cells (us s) true 1):=z3 h _
 have x0:Ext h (h.push (.cells (cellsOf (sv s)) true 1)):=(Ext.refl h).push _
 have n0:(h.push (.cells (cellsOf (sv s)) true 1)).next=h.next+1:=rfl
 refine y4 ?_;refine yB ?_;refine yM ?_;refine y3 ?_
 generalize(h.push (.cells (cellsOf (sv s)) true 1))=H at*
 refine y4 ?_;refine yM ?_;refine y3 ?_;refine ah ?_;refine y4 ?_;refine yM ?_;refine y3 ?_;refine aK ?_
 let J:=fun(n:Nat) (v:Value) (h':Heap)=>Ext h h'∧h.next<h'.next∧h'.get h.next=some (.cells (us s) true 1)∧Own (h.next+1) h' 3 v (cw s n).length (ceS (cw s n))
 refine dG (fun m e ds h'=>∃(z:Nat) (v:Value),z≤8∧m=8-z∧e=[(1, .pointer (some ⟨h.next,0,none⟩)),(3,v),(4, .int .i64 (z:Nat))]∧ds=[]∧J (z*64) v h')
  ⟨0,_,by omega,rfl,rfl,rfl,x0,by omega,g0, .nil⟩ ?_
 rintro m e ds H1 ⟨z,v,hz8,rfl,rfl,rfl,j1⟩
 by_cases hz:z<8
 ·refine ah ?_;refine y4 ?_;refine yM ?_;refine yt ?_;refine y3 ?_;refine yY ?_;refine aH ?_;refine aV ?_
  refine ah ?_;refine aK ?_;refine y4 ?_;refine yM ?_;refine y3 ?_;refine aK ?_
  refine dG (fun m e ds h'=>∃(y:Nat) (v:Value),y≤8∧m=8-y∧e=[(1, .pointer (some ⟨h.next,0,none⟩)),(3,v),(4, .int .i64 (z:Nat)),(5, .int .i64 (y:Nat))]∧ds=[]∧J (z*64+y*8) v h')
   ⟨0,v,by omega,rfl,rfl,rfl,j1⟩ ?_
  rintro m e ds H2 ⟨y,v,hy8,rfl,rfl,rfl,j2⟩
  clear j1
  by_cases hy:y<8
  ·refine ah ?_;refine y4 ?_;refine yM ?_;refine yt ?_;refine y3 ?_;refine yY ?_;refine aH ?_;refine aV ?_
   refine ah ?_;refine aK ?_;refine y4 ?_;refine yM ?_;refine y3 ?_;refine aK ?_
   refine dG (fun m e ds h'=>∃(x:Nat) (v:Value),x≤8∧m=8-x∧e=[(1, .pointer (some ⟨h.next,0,none⟩)),(3,v),(4, .int .i64 (z:Nat)),(5, .int .i64 (y:Nat)),(6, .int .i64 (x:Nat))]∧ds=[]∧J (z*64+y*8+x) v h')
    ⟨0,v,by omega,rfl,rfl,rfl,j2⟩ ?_
   rintro m e ds H3 ⟨x,v,hx8,rfl,rfl,rfl,j3⟩
   clear j2
   by_cases hx:x<8
   ·obtain⟨x3,n3,g3,ow⟩:=j3
    refine ah ?_;refine y4 ?_;refine yM ?_;refine yt ?_;refine y3 ?_;refine yY ?_;refine aH ?_;refine aV ?_
    refine ah ?_;refine aK ?_
    refine fB (E0:=[(1, .pointer (some ⟨h.next,0,none⟩)),(3,v),(4, .int .i64 (z:Nat)),(5, .int .i64 (y:Nat)),(6, .int .i64 (x:Nat)),(7, .pointer (some ⟨H3.next,0,none⟩))]) (P:=fun h'=>Ext H3 h'∧h'.next=H3.next+1∧h'.get H3.next=some (.cells (ceL ⟨(x:Nat),(y:Nat),(z:Nat)⟩) true 1)) ?_ ?_
    ·refine aJ ?_;refine yM ?_;refine yM ?_;refine yM ?_;refine an (ez (by exact rfl)) ?_;refine an (dL) ?_
     refine yS ?_;refine dN ?_
     refine y1 ?_
     exact⟨rfl,rfl,rfl,iC (by omega) _ _,rfl,jB _ _⟩
    rintro H4 ⟨x4,n4,g4⟩
    have hce:ceN (z*64+y*8+x)=⟨(x:Nat),(y:Nat),(z:Nat)⟩:=by
     unfold ceN
     rw[show(z*64+y*8+x) % 8=x by omega,show(z*64+y*8+x) / 8 % 8=y by omega,show(z*64+y*8+x) / 64=z by omega]
    have hst:=pZ s (z*64+y*8+x)
    rw[hce]at hst
    have hle:=kz s (z*64+y*8+x)
    have ey0':=x3.trans x4
    have W4:=ey0'.wf hr.wf
    have g5:=(x4.old _ n3).trans g3
    have ow5:=ow.ext x4
    generalize hce2:(⟨(x:Nat),(y:Nat),(z:Nat)⟩:Ce)=ce at*
    have C:=Mk F.hr (.of W4) hs ce
    have ck:cH 3 (bW 0 (ceL ce))=ceL ce:=rfl
    have ckl:Nat.beq (bZ (ceL ce)) 3=true:=rfl
    clear g3 ow
    refine y4 ?_;refine yV ?_;refine yN ?_
    refine yC ?_
    refine FW.pu C ?_
    clear C
    cases hb:oJ s ce with
    |false=>
     rw[hb,if_neg (by simp),List.append_nil]at hst
     refine y3 ?_;refine yX ?_;refine aH ?_;refine ff ?_;refine aV ?_;refine aJ ?_;refine yM ?_;refine ia ?_
     refine yM ?_;refine y3 ?_
     refine⟨8-(x+1),by omega,x+1,v,by omega,rfl,rfl,rfl,ey0',by omega,g5,?_⟩
     show Own _ _ _ _ (cw s (z*64+y*8+x+1)).length (ceS (cw s (z*64+y*8+x+1)))
     rw[hst];exact ow5
    |true=>
     rw[hb,if_pos rfl]at hst
     refine y3 ?_;refine yY ?_;refine aJ ?_;refine yM ?_;refine yN ?_;refine an (iZ (by exact rfl) (by exact rfl)) ?_
     refine K4 (lo:=h.next+1) (sz:=3) (v:=v) (c1:=ceL ce) (ow5.ext ((Ext.refl H4).push _)) (by omega) (by omega) (by omega) (by show h.next+1≤H4.next+1;omega) (by omega) (by exact rfl) (by exact rfl) (ki (cs:=ceL ce) (by(simp(disch:=first|omega|(simp only[z1,z2];omega))only[z3,z4,z5,z6,z7,z1,z2,g0,g5,g4];exact rfl)) rfl rfl) rfl rfl ?_
     intro v' h5 o5 x5
     have ey5:Lx (h.next+1) H4 h5:=((Lx.refl (h.next+1) H4).push (by omega) _).trans x5
     have n5:=ey5.next
     refine yM ?_;refine dN ?_;refine y1 ?_;refine ff ?_;refine aV ?_;refine aJ ?_;refine yM ?_;refine ia ?_;refine yM ?_;refine y3 ?_
     refine⟨8-(x+1),by omega,x+1,v',by omega,rfl,rfl,rfl,⟨Nat.le_trans ey0'.next n5,ey5.log.trans ey0'.log,fun b hb=>(ey5.old b (by omega)).trans (ey0'.old b hb),fun w=>ey5.wf (ey0'.wf w)⟩,by omega,(ey5.old _ (by omega)).trans g5,?_⟩
     show Own _ _ _ _ (cw s (z*64+y*8+x+1)).length (ceS (cw s (z*64+y*8+x+1)))
     rw[hst,List.length_append,Ji]
     have e:ceS [ce]=ceL ce:=by simp[ceS]
     rw[e];exact o5
   ·obtain rfl:x=8:=by omega
    refine ah ?_;refine y4 ?_;refine yM ?_;refine yf ?_;refine y3 ?_;refine yX ?_;refine dw ?_;refine dQ ?_
    refine dQ ?_;refine iN ?_;refine ff ?_;refine aV ?_;refine aJ ?_;refine yM ?_;refine ia ?_;refine yM ?_;refine y3 ?_
    refine⟨8-(y+1),by omega,y+1,v,by omega,rfl,rfl,rfl,?_⟩
    rw[show z*64+(y+1)*8=z*64+y*8+8 by omega];exact j3
  ·obtain rfl:y=8:=by omega
   refine ah ?_;refine y4 ?_;refine yM ?_;refine yf ?_;refine y3 ?_;refine yX ?_;refine dw ?_;refine dQ ?_
   refine dQ ?_;refine iN ?_;refine ff ?_;refine aV ?_;refine aJ ?_;refine yM ?_;refine ia ?_;refine yM ?_;refine y3 ?_
   refine⟨8-(z+1),by omega,z+1,v,by omega,rfl,rfl,rfl,?_⟩
   rw[show(z+1)*64=z*64+8*8 by omega];exact j2
 ·obtain rfl:z=8:=by omega
  obtain⟨x1,n1,g1,ow⟩:=j1
  refine ah ?_;refine y4 ?_;refine yM ?_;refine yf ?_;refine y3 ?_;refine yX ?_;refine dw ?_;refine dQ ?_
  refine dQ ?_;refine iN ?_;refine aV ?_;refine y4 ?_;refine yM ?_;refine yM ?_;refine y3 ?_;refine aG ?_
  exact ej (x1.log.trans hr.log) rfl (ow.low (Nat.le_succ _))
end Go.A.Pk
end
section
set_option maxRecDepth 100000
namespace Go.A.Pk
def pE(s:List Nat)(z:Nat):List Ce:=(bitsOf (s.getD z 0)).map (jN z)
theorem Fg{z i:Nat}(hi:i<64):ceN (z*64+i)=jN z i:=by
 unfold ceN jN
 rw[show(z*64+i) % 8=i % 8 by omega,show(z*64+i) / 8 % 8=i / 8 by omega,show(z*64+i) / 64=z by omega]
theorem kZ(s:List Nat){z:Nat}(hz:z<8):cw s ((z+1)*64)=cw s (z*64)++pE s z:=by
 unfold cw pE bitsOf
 rw[show(z+1)*64=z*64+64 by omega,List.range_add,List.map_append,List.filter_append]
 congr 1
 rw[List.map_map,List.filter_map]
 have e1:(List.range 64).filter (oJ s ∘ (ceN ∘ fun x=>z*64+x))=(List.range 64).filter (Nat.testBit (s.getD z 0)):=by
  apply List.filter_congr
  intro i hi
  have hi:=List.mem_range.1 hi
  show oJ s (ceN (z*64+i))=_
  rw[Fg hi,CA hz hi]
 rw[e1]
 apply List.map_congr_left
 intro i hi
 have hi:=List.mem_range.1 (List.mem_filter.1 hi).1
 exact Fg hi
theorem HX{s:List Nat}{c:Ce}(hc:¬inG c=true):oJ s c=false:=by
 unfold oJ
 rw[Bool.not_eq_true]at hc
 rw[hc];rfl
theorem Dw{s:List Nat}{n:Nat}{c:Ce}(h:c∈cw s n):oJ s c=true:=(List.mem_filter.1 h).2
structure Dou where
 c:Ce
 ids:List Int
 is:Bool
 e:Int
def c0:Ce:=⟨0,0,0⟩
end Go.A.Pk
end
section
set_option maxRecDepth 100000
namespace Go.A.Pk
variable {T:Nat→Option af}
section
open I
end
theorem WE.wR{base:Nat}{rnd:Option Nat}{c:aY}{Q:XQ}{e:Env}{ds:Dfs}{h:Heap}(hK:∀hA,hA=h→WE T base rnd c Q e ds hA):WE T base rnd c Q e ds h:=hK h rfl
theorem vC(s:List Nat){n:Nat}:∀m,∃r,cw s (n+m)=cw s n++r
 |0=>⟨[],by simp⟩
 |m+1=>by
  obtain⟨r,e⟩:=vC s (n:=n) m
  exact⟨r++(if oJ s (ceN (n+m))then [ceN (n+m)]else []),by rw[←Nat.add_assoc,pZ,e,List.append_assoc]⟩
structure BN (T:Nat→Option af):Prop where
 p:bt T
 f123:T 123=some f123
 f213:T 213=some f213
 f214:T 214=some f214
 f264:T 264=some f264
 f265:T 265=some f265
 f266:T 266=some f266
structure PCe (l q:Nat) (H0:Heap) (L:bJ) (done:List Ce) (H:Heap):Prop where
 old:∀z,z<q→H.get z=H0.get z
 loop:H.get l=some L
 nx:l<H.next
 val:∃v,H.get q=some (.cells [v] true 1)∧Own (l+1) H 3 v done.length (ceS done)
def fnC(q0:Nat):Value:= .func (.func 265) #[] #[.pointer (some ⟨q0,0,none⟩)]
theorem y5(F:BN T){h:Heap}(hr:Rdy h){s:List Nat}(hs:IsS s):
 Al T 214 [sv s] h fun v h'=>∃q,v=fnC q∧h'.get q=some (.cells (us s) true 1)∧h.next≤q∧q<h'.next:=by
 refine .of F.p F.f214 hr ?_ ?_
 ·rintro v h1 hv ⟨q,rfl,_⟩
  cases hv
 refine y4 ?_;refine yB ?_;refine yM ?_;refine y3 ?_;refine y4 ?_;refine an (gK (by exact rfl) (by exact rfl)) ?_
 refine yM ?_;refine y3 ?_;refine aG ?_
 exact ej hr.log rfl ⟨h.next,rfl,z3 _ _,Nat.le_refl _,Nat.lt_succ_self _⟩
set_option maxHeartbeats 8000000 in
theorem vA(F:BN T){h:Heap}(hr:Rdy h){q0 l N lo:Nat}{s:List Nat}(hs:IsS s){P:List Ce→Heap→Prop}{S:Heap→Prop}(hN:N≤h.next)(hlo:lo≤h.next)(hlN:l<N)(Y:EH T lo N l ceV (cw s 512) P S)
 (g0:h.get q0=some (.cells (us s) true 1))(htab:∀d H,P d H→Tab H)(h0:P [] h):
 GrX T 265 [.func (.yield l) #[] #[], .pointer (some ⟨q0,0,none⟩)] h lo (P (cw s 512)) S:=by
 have hlb:l<h.next:=by omega
 have hp:=F.p
 have k8:=bF hs.len
 have k9:=cD hs.len
 refine GrX.of (l:=l) hp F.f265 hlo hlb (fun h1 h2 hn ha q=>Y.fF _ _ _ q (Nat.le_trans hN hn) fun x hx=>ha x (by omega)) Y.CE ?_
 refine y4 ?_;refine yV ?_;refine yM ?_;refine y3 ?_;refine aK ?_
 refine dG (fun k e ds h'=>∃z:Nat,z≤8∧8-z=k∧e=[(0, .func (.yield l) #[] #[]),(6,sv s),(7, .int .i64 (z:Nat))]∧ds=[]∧Lk lo h h'∧P (cw s (z*64)) h')
  ⟨0,by omega,rfl,rfl,rfl, .refl _ _,h0⟩ ?_
 rintro k e ds h' ⟨z,hz8,rfl,rfl,rfl,hk,hP⟩
 by_cases hz:z<8
 ·have e1:bH (us s).toArray.toList (z*1)=some (.int .u64 ((s.getD z 0:Nat):Int)):=by
   rw[List.toList_toArray,Nat.mul_one,cM]
   unfold us
   rw[List.getElem?_map,qg (by rw[hs.len];exact hz)];rfl
  have hx0:=hs.om z
  obtain⟨rest,hrest⟩:∃r,cw s 512=cw s (z*64)++pE s z++r:=by
   obtain⟨r,e⟩:=vC s (n:=(z+1)*64) (512-(z+1)*64)
   rw[show(z+1)*64+(512-(z+1)*64)=512 by omega,kZ s hz]at e
   exact⟨r,e⟩
  have hplane:=kZ s hz
  have hpl:pE s z=(bitsOf (s.getD z 0)).map (jN z):=rfl
  generalize hx:s.getD z 0=x0 at*
  generalize pE s z=pl at*
  refine y4 ?_;refine yt ?_;refine y3 ?_;refine ah ?_;refine yY ?_;refine aH ?_;refine aV ?_;refine ah ?_;refine aK ?_;refine y4 ?_;refine yM ?_;refine an (EI (by exact rfl) (by exact rfl) (by omega) (by assumption)) ?_;refine yM ?_;refine yM ?_;refine y3 ?_;refine aK ?_
  refine dG (fun k e ds h''=>∃(x:Nat) (d:List Ce),x<U64∧d++(bitsOf x).map (jN z)=pl∧(bitsOf x).length=k∧e=[(0, .func (.yield l) #[] #[]),(3, .int .i64 (z:Nat)),(4, .int .u64 (x:Nat)),(6,sv s),(7, .int .i64 (z:Nat))]∧ds=[]∧Lk lo h h''∧P (cw s (z*64)++d) h'')
   ⟨x0,[],hx0,by rw[hpl];rfl,rfl,rfl,rfl,hk,by rw[List.append_nil];exact hP⟩ ?_
  clear hP hk h'
  rintro k e ds h' ⟨x,d,hxl,hd,rfl,rfl,rfl,hk,hP⟩
  by_cases hx:x=0
  ·subst hx
   rw[yK]at hd
   have hd:d=pl:=by simpa using hd
   subst hd
   rw[←hplane]at hP
   refine ah ?_;refine y4 ?_;refine yM ?_;refine yf ?_;refine y3 ?_;refine yX ?_;refine dw ?_;refine dQ ?_
   refine dQ ?_;refine iN ?_;refine ff ?_;refine aV ?_;refine aJ ?_;refine ia ?_;refine yM ?_;refine y3 ?_
   exact⟨8-(z+1),by omega,z+1,by omega,rfl,rfl,rfl,hk,hP⟩
  ·obtain⟨b,m,hform⟩:=zM x hx
   have hb64:=(xh hform hxl).1
   have hstep:=yJ hform hxl
   have m1:aA .neq (.int .u64 (x:Nat)) (.int .u64 0)=some (.bool true):=mE (by omega)
   have C:=P4 F.p F.f266 (h:={h' with log:=[]}) (.of (hk.wf hr.wf)) (show Tab h' from htab _ _ hP) hxl hform
   have m2:aA .rem (.int .i64 (b:Nat)) (.int .i64 8)=some (.int .i64 ((b % 8:Nat):Int)):=Mw
   have m3:aA .quo (.int .i64 (b:Nat)) (.int .i64 8)=some (.int .i64 ((b / 8:Nat):Int)):=Mt (by omega)
   have m4:aA .sub (.int .u64 (x:Nat)) (.int .u64 1)=some (.int .u64 ((x-1:Nat):Int)):=nF (by rw[show(x:Int)-1=((x-1:Nat):Int)by omega];exact oF (by unfold U64 at hxl;omega))
   have m5:=ql (a:=x) (b:=x-1) hxl (Nat.lt_of_le_of_lt (Nat.sub_le x 1) hxl)
   rw[hstep]at hd⊢
   have hlt:Nat.land x (x-1)<U64:=wY hxl
   generalize Nat.land x (x-1)=x' at*
   rw[List.map_cons]at hd
   have hsp:cw s 512=(cw s (z*64)++d)++jN z b::((bitsOf x').map (jN z)++rest):=by
    rw[hrest,←hd];simp
   refine ah ?_;refine y4 ?_;refine yM ?_;refine yW ?_;refine y3 ?_;refine yY ?_;refine aH ?_;refine aV ?_
   refine ah ?_;refine aK ?_;refine y4 ?_;refine yM ?_
   refine yC ?_
   refine FW.pu C ?_
   clear C
   refine yM ?_;refine y3 ?_;refine y4 ?_;refine yM ?_;refine yM ?_;refine yW ?_
   refine yM ?_;refine yW ?_;refine yM ?_;refine an (ez (by exact rfl)) ?_
   refine mM (fn:= .yield l) (args:=[ceV (jN z b)]) (by rfl) ?_
   refine Y.call hp (by rw[hsp];simp) (hk.wf hr.wf) (Nat.le_trans hlo hk.next) (Nat.le_trans hN hk.next) hlb hP ?_ ?_
   rotate_left
   ·intro h9 hk9 hm9 hS9
    refine yA ?_;refine y3 ?_;refine yY ?_;refine aG ?_;refine mU ?_;refine eW ?_;refine eW ?_;refine mU ?_;refine mU ?_;refine eW ?_;refine eW ?_;refine mU ?_
    exact Fv ((hk.trans hk9).log (by rw[hr.log];exact eF.nil _)) rfl hm9 hS9
   intro h2 hk2 _ hP2
   refine yA ?_;refine y3 ?_;refine yX ?_;refine aH ?_;refine ff ?_;refine aV ?_;refine aJ ?_;refine yM ?_;refine yM ?_
   refine yW ?_;refine yW ?_;refine yM ?_;refine y3 ?_
   exact⟨(bitsOf x').length,by simp,x',d++[jN z b],hlt,by rw[←hd];simp,rfl,rfl,rfl,hk.trans hk2,by rw[←List.append_assoc];exact hP2⟩
 ·obtain rfl:z=8:=by omega
  refine y4 ?_;refine yf ?_;refine y3 ?_;refine ah ?_;refine yX ?_;refine dw ?_;refine dQ ?_;refine dQ ?_;refine iN ?_
  exact Fu (hk.log (by rw[hr.log];exact eF.nil _)) rfl hP
end Go.A.Pk
end
section
set_option maxRecDepth 100000
namespace Go.A.Pk
variable {T:Nat→Option af}
structure Bx where
 lo:Ce
 hi:Ce
 deriving DecidableEq
def bxL(b:Bx):List Value:=ceL b.lo++ceL b.hi
def bxV(b:Bx):Value:= .agg (bxL b).toArray
def CX(b:Bx)(c:Ce):Bx:=⟨⟨mi b.lo.x c.x,mi b.lo.y c.y,mi b.lo.z c.z⟩,⟨mx b.hi.x c.x,mx b.hi.y c.y,mx b.hi.z c.z⟩⟩
def bx0:Bx:=⟨⟨7,7,7⟩,⟨0,0,0⟩⟩
def bxS(l:List Ce):Bx:=l.foldl CX bx0
theorem Fc(l:List Ce)(c:Ce):bxS (l++[c])=CX (bxS l) c:=by unfold bxS;rw[List.foldl_append];rfl
section
open I
def tv:aY:=I.R [g 5 (.new [O,O,O]),S 3 5 16] [4,5]
def tA:aY:=(.block 1 (Q (I.R [A 17 0 4,A 18 3 4,M 6 17,M 7 18] [5,6,7]) (Q (.draw [M 19 6,M 20 6,M 21 6,M 22 6,g 23 (.cg (t 22)),A 24 0 23,L 25 24,A 26 0 5,L 27 26,g 28 (.ei false [(t 25),(t 27)]),M 29 6,g 30 (.cg (t 29)),A 31 1 30,L 32 31,A 33 1 5,L 34 33,g 35 (.ei false [(t 32),(t 34)]),M 36 6,g 37 (.cg (t 36)),A 38 2 37,L 39 38,A 40 2 5,L 41 40,g 42 (.ei false [(t 39),(t 41)]),g 43 (.cg (t 19)),A 44 0 43,S 1 44 28,g 45 (.cg (t 20)),A 46 1 45,S 1 46 35,g 47 (.cg (t 21)),A 48 2 47,S 1 48 42] [0,1,2,3,4,5,6,7,8,9,10,11,12,13,14,15,16,17,18,19,20,21,22,23,24,25,26,27,28,29,30,31,32] [0,0,0,0,8,24,56,0,128,504,0,1024,3072,7168,0,16384,64512,0,131072,393216,917504,0,2097152,8257536,1982457,18759673,52314105,119537659,253755387,522190843,1073741823,2147483647,4294967295] [5,7])
 (.draw [M 49 7,M 50 7,M 51 7,M 52 7,g 53 (.cg (t 52)),A 54 0 53,L 55 54,A 56 0 5,L 57 56,g 58 (.ei true [(t 55),(t 57)]),M 59 7,g 60 (.cg (t 59)),A 61 1 60,L 62 61,A 63 1 5,L 64 63,g 65 (.ei true [(t 62),(t 64)]),M 66 7,g 67 (.cg (t 66)),A 68 2 67,L 69 68,A 70 2 5,L 71 70,g 72 (.ei true [(t 69),(t 71)]),g 73 (.cg (t 49)),A 74 0 73,S 1 74 58,g 75 (.cg (t 50)),A 76 1 75,S 1 76 65,g 77 (.cg (t 51)),A 78 2 77,S 1 78 72] [0,1,2,3,4,5,6,7,8,9,10,11,12,13,14,15,16,17,18,19,20,21,22,23,24,25,26,27,28,29,30,31,32] [0,0,0,0,8,24,56,0,128,504,0,1024,3072,7168,0,16384,64512,0,131072,393216,917504,0,2097152,8257536,1982457,18759673,52314105,119537659,253755387,522190843,1073741823,2147483647,4294967295] []))))
end
set_option maxHeartbeats 16000000 in
theorem Fe(hp:bt T){H:Heap}(hr:Rdy H){q l lo N:Nat}{fv fv2:Value}{b:Bx}{c:Ce}(hlo:lo≤q)(hql:q<l)(hlN:l<N)
 (gl:H.get l=some (.loop [(2,fv2),(4, .pointer (some ⟨q,0,none⟩)),(15,fv)] [16] tv tA 0 .normal))
 (go:H.get q=some (.cells (bxL b) true 1)){S:Heap→Prop}:
 FW T (.yield l) [ceV c] H fun r H'=>(∀z∈H'.log,lo≤z∧z<N)∧(r= .ret (.bool true)∧(H'.get q=some (.cells (bxL (CX b c)) true 1)∧(∀z,z<H.next→z≠q→H'.get z=H.get z)∧H.next≤H'.next)∨r= .ret (.bool false)∧l∈H'.log∧S H'):=by
 have no:q≠l:=by omega
 have ko:=hr.wf.ef go
 have kl:=hr.wf.ef gl
 refine FW.I3 hp (R:=fun H'=>H'.get q=some (.cells (bxL (CX b c)) true 1)∧(∀z,z<H.next→z≠q→H'.get z=H.get z)∧H.next≤H'.next) gl rfl kl ⟨by omega,hlN⟩ ?_
 unfold tv
 refine aJ ?_;refine an (dL) ?_;refine yS ?_;refine dN ?_
 refine y1 ?_
 refine⟨rfl,by(simp(disch:=first|omega|(simp only[z1,z2];omega))only[z3,z4,z5,z6,z7,z1,z2,gl,go];exact rfl),?_⟩
 unfold tA
 refine aK ?_
 refine WE.wR ?_
 intro hA hAe
 have A1:∀z,z<H.next→z≠l→H.get z=hA.get z:=fun z hz hne=>by rw[hAe];symm;simp(disch:=first|omega|(simp only[z1,z2];omega))only[z5,z4]
 have A3:hA.get H.next=some (.cells (ceL c) true 1):=by rw[hAe];(simp(disch:=first|omega|(simp only[z1,z2];omega))only[z3,z4,z5,z6,z7,z1,z2,gl,go];exact rfl)
 have A2:hA.get l=some (.loop [(2,fv2),(4, .pointer (some ⟨q,0,none⟩)),(15,fv)] [16] tv tA 1 .normal):=by rw[hAe];(simp(disch:=first|omega|(simp only[z1,z2];omega))only[z3,z4,z5,z6,z7,z1,z2,gl,go,A3];exact rfl)
 have A5:hA.next=H.next+1:=by rw[hAe];rfl
 have A6:hA.log=[]:=by rw[hAe];simp(disch:=first|omega|(simp only[z1,z2];omega))only[Heap.aN,Heap.tS];exact hr.log
 have A7:WF hA:=by rw[hAe];exact(((hr.wf.push _).as (AS.wr _ _ _ _)).as (AS.wr _ _ _ _))
 clear hAe
 have Bo:=(A1 q ko no).symm.trans go
 obtain⟨⟨x1,y1',z1'⟩,⟨x2,y2',z2'⟩⟩:=b
 obtain⟨cx,cy,cz⟩:=c
 unfold bxL ceL at Bo
 dsimp only[List.cons_append,List.nil_append]at Bo
 unfold ceL at A3
 dsimp only at A3
 clear go
 refine y4 ?_;refine yF ?_;refine yF ?_;refine yM ?_;refine yM ?_;refine y3 ?_;refine ah ?_;refine cV ?_
 refine qM ?_;refine qM ?_;refine qM ?_;refine qM ?_
 refine aM rfl rfl rfl (by exact rfl) (by exact rfl) (by exact rfl) (cA (by exact rfl)) ?_;refine qF ?_;refine qL ?_
 refine qF ?_;refine qL ?_;refine aM rfl rfl rfl (by exact rfl) (by exact rfl) (by exact rfl) (oQ (by exact rfl) (by exact rfl)) ?_
 refine qM ?_;refine aM rfl rfl rfl (by exact rfl) (by exact rfl) (by exact rfl) (cA (by exact rfl)) ?_;refine qF ?_
 refine qL ?_;refine qF ?_;refine qL ?_
 refine aM rfl rfl rfl (by exact rfl) (by exact rfl) (by exact rfl) (oQ (by exact rfl) (by exact rfl)) ?_;refine qM ?_;refine aM rfl rfl rfl (by exact rfl) (by exact rfl) (by exact rfl) (cA (by exact rfl)) ?_
 refine qF ?_;refine qL ?_;refine qF ?_
 refine qL ?_;refine aM rfl rfl rfl (by exact rfl) (by exact rfl) (by exact rfl) (oQ (by exact rfl) (by exact rfl)) ?_;refine aM rfl rfl rfl (by exact rfl) (by exact rfl) (by exact rfl) (cA (by exact rfl)) ?_
 refine qF ?_
 refine gP (vs:=[.int .i64 x1, .int .i64 y1', .int .i64 z1', .int .i64 x2, .int .i64 y2', .int .i64 z2']) (ws:=[.int .i64 (mi x1 cx), .int .i64 y1', .int .i64 z1', .int .i64 x2, .int .i64 y2', .int .i64 z2']) rfl rfl rfl (by exact rfl) (by exact rfl) (by exact rfl) (Bo) (by exact rfl) (by exact rfl) (by show q<hA.next;omega) (by(repeat apply aP rfl);apply aB rfl (aq rfl (oQ (by exact rfl) (by exact rfl)) (by exact dZ _ _)) rfl;apply aB rfl (aq rfl (bO (by exact rfl) (by(simp(disch:=first|omega|(simp only[z1,z2];omega))only[z3,z4,z5,z6,z7,z1,z2,gl,A2,Bo,A3];exact rfl)) (by exact rfl)) (by exact dZ _ _)) rfl;apply aB rfl (aq rfl (dz (by exact rfl)) (by exact bT _)) rfl;(repeat apply aP rfl);apply aB rfl (aq rfl (oQ (by exact rfl) (by exact rfl)) (by exact dZ _ _)) rfl;apply aB rfl (aq rfl (bO (by exact rfl) (by(simp(disch:=first|omega|(simp only[z1,z2];omega))only[z3,z4,z5,z6,z7,z1,z2,gl,A2,Bo,A3];exact rfl)) (by exact rfl)) (by exact dZ _ _)) rfl;apply aB rfl (aq rfl (dz (by exact rfl)) (by exact bT _)) rfl;(repeat apply aP rfl);apply aB rfl (aq rfl (fC (by exact rfl)) (by exact bT _)) rfl;apply aB rfl (aq rfl (fC (by exact rfl)) (by exact bT _)) rfl;apply aP rfl;exact cC) ?_
 refine aM rfl rfl rfl (by exact rfl) (by exact rfl) (by exact rfl) (cA (by exact rfl)) ?_;refine qF ?_
 refine gP (vs:=[.int .i64 (mi x1 cx), .int .i64 y1', .int .i64 z1', .int .i64 x2, .int .i64 y2', .int .i64 z2']) (ws:=[.int .i64 (mi x1 cx), .int .i64 (mi y1' cy), .int .i64 z1', .int .i64 x2, .int .i64 y2', .int .i64 z2']) rfl rfl rfl (by exact rfl) (by exact rfl) (by exact rfl) (Heap.bB (Bo)) (by exact rfl) (by exact rfl) (by show q<hA.next;omega) (by(repeat apply aP rfl);apply aB rfl (aq rfl (oQ (by exact rfl) (by exact rfl)) (by exact dZ _ _)) rfl;apply aB rfl (aq rfl (bO (by exact rfl) (by(simp(disch:=first|omega|(simp only[z1,z2];omega))only[z3,z4,z5,z6,z7,z1,z2,gl,A2,Bo,A3];exact rfl)) (by exact rfl)) (by exact dZ _ _)) rfl;apply aB rfl (aq rfl (dz (by exact rfl)) (by exact bT _)) rfl;(repeat apply aP rfl);apply aB rfl (aq rfl (fC (by exact rfl)) (by exact bT _)) rfl;apply aP rfl;exact cC) ?_
 refine aM rfl rfl rfl (by exact rfl) (by exact rfl) (by exact rfl) (cA (by exact rfl)) ?_;refine qF ?_
 refine gP (vs:=[.int .i64 (mi x1 cx), .int .i64 (mi y1' cy), .int .i64 z1', .int .i64 x2, .int .i64 y2', .int .i64 z2']) (ws:=[.int .i64 (mi x1 cx), .int .i64 (mi y1' cy), .int .i64 (mi z1' cz), .int .i64 x2, .int .i64 y2', .int .i64 z2']) rfl rfl rfl (by exact rfl) (by exact rfl) (by exact rfl) (Heap.bB (Heap.bB (Bo))) (by exact rfl) (by exact rfl) (by show q<hA.next;omega) (by(repeat apply aP rfl);exact cC) ?_
 refine dy ?_;refine y1 ?_;refine aV ?_;refine cV ?_;refine qM ?_;refine qM ?_
 refine qM ?_;refine qM ?_;refine aM rfl rfl rfl (by exact rfl) (by exact rfl) (by exact rfl) (cA (by exact rfl)) ?_
 refine qF ?_
 refine qL ?_
 refine qF ?_
 refine qL ?_
 refine aM rfl rfl rfl (by exact rfl) (by exact rfl) (by exact rfl) (tg (by exact rfl) (by exact rfl)) ?_;refine qM ?_;refine aM rfl rfl rfl (by exact rfl) (by exact rfl) (by exact rfl) (cA (by exact rfl)) ?_
 refine qF ?_
 refine qL ?_
 refine qF ?_
 refine qL ?_
 refine aM rfl rfl rfl (by exact rfl) (by exact rfl) (by exact rfl) (tg (by exact rfl) (by exact rfl)) ?_;refine qM ?_;refine aM rfl rfl rfl (by exact rfl) (by exact rfl) (by exact rfl) (cA (by exact rfl)) ?_
 refine qF ?_
 refine qL ?_
 refine qF ?_
 refine qL ?_
 refine aM rfl rfl rfl (by exact rfl) (by exact rfl) (by exact rfl) (tg (by exact rfl) (by exact rfl)) ?_;refine aM rfl rfl rfl (by exact rfl) (by exact rfl) (by exact rfl) (cA (by exact rfl)) ?_;refine qF ?_
 refine gP (vs:=[.int .i64 (mi x1 cx), .int .i64 (mi y1' cy), .int .i64 (mi z1' cz), .int .i64 x2, .int .i64 y2', .int .i64 z2']) (ws:=[.int .i64 (mi x1 cx), .int .i64 (mi y1' cy), .int .i64 (mi z1' cz), .int .i64 (mx x2 cx), .int .i64 y2', .int .i64 z2']) rfl rfl rfl (by exact rfl) (by exact rfl) (by exact rfl) (Heap.bB (Heap.bB (Heap.bB (Bo)))) (by exact rfl) (by exact rfl) (by show q<hA.next;omega) (by(repeat apply aP rfl);apply aB rfl (aq rfl (tg (by exact rfl) (by exact rfl)) (by exact dZ _ _)) rfl;apply aB rfl (aq rfl (bO (by exact rfl) (by(simp(disch:=first|omega|(simp only[z1,z2];omega))only[z3,z4,z5,z6,z7,z1,z2,gl,A2,Bo,A3];exact rfl)) (by exact rfl)) (by exact dZ _ _)) rfl;apply aB rfl (aq rfl (dz (by exact rfl)) (by exact bT _)) rfl;(repeat apply aP rfl);apply aB rfl (aq rfl (tg (by exact rfl) (by exact rfl)) (by exact dZ _ _)) rfl;apply aB rfl (aq rfl (bO (by exact rfl) (by(simp(disch:=first|omega|(simp only[z1,z2];omega))only[z3,z4,z5,z6,z7,z1,z2,gl,A2,Bo,A3];exact rfl)) (by exact rfl)) (by exact dZ _ _)) rfl;apply aB rfl (aq rfl (dz (by exact rfl)) (by exact bT _)) rfl;(repeat apply aP rfl);apply aB rfl (aq rfl (fC (by exact rfl)) (by exact bT _)) rfl;apply aB rfl (aq rfl (fC (by exact rfl)) (by exact bT _)) rfl;apply aP rfl;exact cC) ?_
 refine aM rfl rfl rfl (by exact rfl) (by exact rfl) (by exact rfl) (cA (by exact rfl)) ?_;refine qF ?_
 refine gP (vs:=[.int .i64 (mi x1 cx), .int .i64 (mi y1' cy), .int .i64 (mi z1' cz), .int .i64 (mx x2 cx), .int .i64 y2', .int .i64 z2']) (ws:=[.int .i64 (mi x1 cx), .int .i64 (mi y1' cy), .int .i64 (mi z1' cz), .int .i64 (mx x2 cx), .int .i64 (mx y2' cy), .int .i64 z2']) rfl rfl rfl (by exact rfl) (by exact rfl) (by exact rfl) (Heap.bB (Heap.bB (Heap.bB (Heap.bB (Bo))))) (by exact rfl) (by exact rfl) (by show q<hA.next;omega) (by(repeat apply aP rfl);apply aB rfl (aq rfl (tg (by exact rfl) (by exact rfl)) (by exact dZ _ _)) rfl;apply aB rfl (aq rfl (bO (by exact rfl) (by(simp(disch:=first|omega|(simp only[z1,z2];omega))only[z3,z4,z5,z6,z7,z1,z2,gl,A2,Bo,A3];exact rfl)) (by exact rfl)) (by exact dZ _ _)) rfl;apply aB rfl (aq rfl (dz (by exact rfl)) (by exact bT _)) rfl;(repeat apply aP rfl);apply aB rfl (aq rfl (fC (by exact rfl)) (by exact bT _)) rfl;apply aP rfl;exact cC) ?_
 refine aM rfl rfl rfl (by exact rfl) (by exact rfl) (by exact rfl) (cA (by exact rfl)) ?_;refine qF ?_
 refine gP (vs:=[.int .i64 (mi x1 cx), .int .i64 (mi y1' cy), .int .i64 (mi z1' cz), .int .i64 (mx x2 cx), .int .i64 (mx y2' cy), .int .i64 z2']) (ws:=[.int .i64 (mi x1 cx), .int .i64 (mi y1' cy), .int .i64 (mi z1' cz), .int .i64 (mx x2 cx), .int .i64 (mx y2' cy), .int .i64 (mx z2' cz)]) rfl rfl rfl (by exact rfl) (by exact rfl) (by exact rfl) (Heap.bB (Heap.bB (Heap.bB (Heap.bB (Heap.bB (Bo)))))) (by exact rfl) (by exact rfl) (by show q<hA.next;omega) (by(repeat apply aP rfl);exact cC) ?_
 refine dy ?_;refine y1 ?_;refine ff ?_
 refine⟨⟨_,by(simp(disch:=first|omega|(simp only[z1,z2];omega))only[z3,z4,z5,z6,z7,z1,z2,gl,A2,Bo,A3];exact rfl),rfl⟩,fun z hz=> ?_, .inl ⟨rfl,fun h5 hn h5e h5l=> ?_⟩⟩
 ·have key:z=q:=by
   rcases dO hz with h|hz
   ·exact h
   rcases dO hz with h|hz
   ·exact h
   rcases dO hz with h|hz
   ·exact h
   rcases dO hz with h|hz
   ·exact h
   rcases dO hz with h|hz
   ·exact h
   rcases dO hz with h|hz
   ·exact h
   rw[A6]at hz;cases hz
  subst key
  exact⟨hlo,by omega⟩
 ·refine⟨(h5e q ko no).trans (Heap.bB (Heap.bB (Heap.bB (Heap.bB (Heap.bB (Heap.bB (Bo))))))),fun z hz hne=> ?_,hn⟩
  by_cases hl:z=l
  ·subst hl
   rw[gl];exact h5l
  ·refine(h5e z hz hl).trans ?_
   refine Eq.trans ?_ (A1 z hz hl).symm
   simp only[z5 hne]
structure PXo (l q:Nat) (H0:Heap) (L:bJ) (f:List Ce→List Value) (done:List Ce) (H:Heap):Prop where
 old:∀z,z<l→z≠q→H.get z=H0.get z
 loop:H.get l=some L
 val:H.get q=some (.cells (f done) true 1)
theorem PXo.fF{l q:Nat}{H0:Heap}{L:bJ}{f:List Ce→List Value}(hq:q<l)(done:List Ce)(H H':Heap)(p:PXo l q H0 L f done H)(_:l+1≤H'.next)(h:∀x,x<l+1→H'.get x=H.get x):PXo l q H0 L f done H':=
 ⟨fun z hz hne=>(h z (by omega)).trans (p.old z hz hne),(h l (by omega)).trans p.loop,(h q (by omega)).trans p.val⟩
def jm(s:List Nat):Bx×Bool:=if s=s0 then(⟨c0,c0⟩,false)else(bxS (cw s 512),true)
def L7(p:Bx×Bool):Value:= .tuple #[bxV p.1, .bool p.2]
structure Lh (T:Nat→Option af):Prop where
 cp:BN T
 f210:T 210=some f210
set_option maxHeartbeats 16000000 in
theorem vw(F:Lh T){h:Heap}(hr:Rdy h)(hg:Tab h)(h2:2<h.next){s:List Nat}(hs:IsS s):Pu T 210 [sv s] h (L7 (jm s)):=by
 have hp:=F.cp.p
 refine .of hp F.f210 hr rfl ?_
 have k8:=bF hs.len
 have k9:=cD hs.len
 have x0:Ext h ((h.push (.cells (cellsOf (sv s)) true 1)).push (.cells [I.O,I.O,I.O,I.O,I.O,I.O] true 1)):=((Ext.refl h).push _).push _
 have g0:((h.push (.cells (cellsOf (sv s)) true 1)).push (.cells [I.O,I.O,I.O,I.O,I.O,I.O] true 1)).get h.next=some (.cells (us s) true 1):=(z4 (Nat.lt_succ_self _)).trans (z3 h _)
 have g1:((h.push (.cells (cellsOf (sv s)) true 1)).push (.cells [I.O,I.O,I.O,I.O,I.O,I.O] true 1)).get (h.next+1)=some (.cells [I.O,I.O,I.O,I.O,I.O,I.O] true 1):=z3 _ _
 have n0:((h.push (.cells (cellsOf (sv s)) true 1)).push (.cells [I.O,I.O,I.O,I.O,I.O,I.O] true 1)).next=h.next+2:=rfl
 refine y4 ?_;refine yB ?_;refine an (dL) ?_;refine yM ?_;refine y3 ?_
 generalize((h.push (.cells (cellsOf (sv s)) true 1)).push (.cells [I.O,I.O,I.O,I.O,I.O,I.O] true 1))=H at*
 have W:=x0.wf hr.wf
 have hL:=x0.log.trans hr.log
 unfold jm
 by_cases he:s=s0
 ·rw[if_pos he]
  have ck0:cH 6 (bW 0 (bxL ⟨c0,c0⟩))=bxL ⟨c0,c0⟩:=rfl
  refine ah ?_;refine y4 ?_;refine yV ?_;refine an (ez (by exact rfl)) ?_
  refine an (mP (b:=s0) (by exact rfl) (by exact rfl) hs.len rfl) ?_
  rw[decide_eq_true he]
  refine y3 ?_;refine yY ?_;refine y4 ?_;refine an (ez (by exact rfl)) ?_;refine yS ?_;refine yM ?_
  refine y3 ?_;refine aG ?_;refine eW ?_
  refine aD ?_ (dJ (own:=true) (s:=1) (l:=bxL ⟨c0,c0⟩) rfl ?_ ck0 rfl rfl) rfl
  ·rw[Heap.aN (by show h.next≤h.next+1;omega)];exact hL
  ·(simp(disch:=first|omega|(simp only[z1,z2];omega))only[z3,z4,z5,z6,z7,z1,z2,g0,g1];exact rfl)
 ·rw[if_neg he]
  have x1:=iC (h:=H) (base:=h.next) (by omega) (.cells [I.O,I.O,I.O,I.O,I.O,I.O] true 1) (.cells (bxL bx0) true 1)
  have q1:=jB (h:=H) (base:=h.next) [I.O,I.O,I.O,I.O,I.O,I.O] (bxL bx0)
  refine ah ?_;refine y4 ?_;refine yV ?_;refine an (ez (by exact rfl)) ?_
  refine an (mP (b:=s0) (by exact rfl) (by exact rfl) hs.len rfl) ?_
  rw[decide_eq_false he]
  refine y3 ?_;refine yX ?_;refine aH ?_;refine aV ?_
  refine fB (E0:=[(1, .pointer (some ⟨h.next,0,none⟩)),(2, .pointer (some ⟨h.next+1,0,none⟩)),(4, .pointer (some ⟨H.next,0,none⟩))]) (P:=fun h'=>Ext H h'∧h'.next=H.next+1∧h'.get H.next=some (.cells (bxL bx0) true 1)) ?_ ?_
  ·refine aJ ?_;refine an (ez (by exact rfl)) ?_;refine an (ez (by exact rfl)) ?_;refine an (dL) ?_
   refine yS ?_;refine dN ?_
   refine y1 ?_
   exact⟨rfl,rfl,rfl,iC (by omega) _ _,rfl,jB _ _⟩
  rintro H1 ⟨x1,n1,q1⟩
  have ey1':=x0.trans x1
  have W1:=ey1'.wf hr.wf
  have hL1:=ey1'.log.trans hr.log
  have ga:=(x1.old _ (by omega)).trans g0
  have gb:=(x1.old _ (by omega)).trans g1
  have C:=y5 F.cp (h:={H1 with log:=[]}) (.of W1) hs
  clear g0 g1
  refine ah ?_;refine y4 ?_;refine yV ?_
  refine yC ?_
  refine FW.al C (fun v h' m q=>q) ?_
  rintro _ H2 x2 ⟨q,rfl,gq,q2,q3⟩
  clear C
  have q2:H1.next≤q:=q2
  have ey2':=ey1'.trans x2
  have W2:=ey2'.wf hr.wf
  have hL2:=ey2'.log.trans hr.log
  have n2:=x2.next
  have gb2:=(x2.old _ (by omega)).trans gb
  have q12:=(x2.old _ (by omega)).trans q1
  have hg2:Tab H2:=hg.ext ey2' h2
  clear ga gb q1
  refine y3 ?_;refine aK ?_
  refine wB (lo:=H.next) (P:=PXo H2.next H.next H2 (.loop [(2, .pointer (some ⟨h.next+1,0,none⟩)),(4, .pointer (some ⟨H.next,0,none⟩)),(15,fnC q)] [16] tv tA 0 .normal) (fun d=>bxL (bxS d)) (cw s 512)) (S:=fun _=>False) rfl (by rfl) (by rw[F.cp.f265];rfl) (by omega) (by omega) hL2 W2 ?_ (fun H p=>⟨_,_,_,_,p.loop⟩) (fun H p=>p.elim) ?_ (fun _ _ _ _ _ _ _ p=>p.elim)
  ·have Y:EH T H.next (H2.next+1) H2.next ceV (cw s 512) (PXo H2.next H.next H2 (.loop [(2, .pointer (some ⟨h.next+1,0,none⟩)),(4, .pointer (some ⟨H.next,0,none⟩)),(15,fnC q)] [16] tv tA 0 .normal) (fun d=>bxL (bxS d))) (fun _=>False):=by
    refine⟨fun done x Hh hx hrH hN hP=> ?_,PXo.fF (by omega),fun _ _ h=>h,fun _ h=>h.elim⟩
    refine FW.mono' (Fe hp hrH (lo:=H.next) (N:=H2.next+1) (S:=fun _=>False) (Nat.le_refl _) (by omega) (by omega) hP.loop hP.val) ?_
    rintro r' H' ⟨r1,r2⟩
    refine⟨r1,r2.imp (fun⟨e,g,o,_⟩=>⟨e,fun z hz hne=>(o z (by omega) hne).trans (hP.old z hz hne),(o _ (by omega) (by omega)).trans hP.loop,?_⟩) id⟩
    rw[Fc];exact g
   exact vA F.cp (.of (W2.push _)) (q0:=q) (l:=H2.next) (N:=H2.next+1) (lo:=H.next) hs (Nat.le_refl _) (by show H.next≤H2.next+1;omega) (Nat.lt_succ_self _) Y ((z4 (by omega)).trans gq) (fun d H' hP=>(hP.old 2 (by omega) (by omega)).trans hg2)
    ⟨fun z hz _=>z4 hz,z3 _ _,(z4 (by omega)).trans q12⟩
  intro h4 h5 k1 k2 k3 k4 k5 hP
  have D:=(k5 H.next (by omega)).trans hP.val
  have D2:=(k5 (h.next+1) (by omega)).trans ((hP.old _ (by omega) (by omega)).trans gb2)
  generalize bxS (cw s 512)=b at*
  have ck:cH 6 (bW 0 (bxL b))=bxL b:=rfl
  have ckl:Nat.beq (bZ (bxL b)) 6=true:=rfl
  refine ff ?_;refine aV ?_;refine y4 ?_;refine yN ?_;refine yS ?_;refine yM ?_;refine y3 ?_;refine aG ?_
  refine aD ?_ (dJ (own:=true) (s:=1) (l:=bxL b) rfl ?_ ck ckl rfl) rfl
  ·rw[Heap.aN (by show h.next≤h.next+1;omega)];exact k1
  ·(simp(disch:=first|omega|(simp only[z1,z2];omega))only[z3,z4,z5,z6,z7,z1,z2,q1,gq,gb2,q12,D2,D];exact rfl)
def gY:Nat→Ce→Ce
 |0,c=>c
 |1,c=>⟨c.x,7-c.z,c.y⟩
 |2,c=>⟨c.x,7-c.y,7-c.z⟩
 |3,c=>⟨c.x,c.z,7-c.y⟩
 |4,c=>⟨c.z,c.y,7-c.x⟩
 |_,c=>⟨7-c.z,c.y,c.x⟩
def Kx(c:Ce):Ce:=⟨7-c.y,c.x,c.z⟩
def xW:Nat→Ce→Ce
 |0,c=>c
 |n+1,c=>Kx (xW n c)
def nU(t:Nat)(c:Ce):Ce:=xW (t % 4) (gY (t / 4) c)
structure InB (c:Ce):Prop where
 x:0≤c.x∧c.x≤7
 y:0≤c.y∧c.y≤7
 z:0≤c.z∧c.z≤7
theorem sQ{c:Ce}:inG c=true↔InB c:=by
 unfold inG
 rw[decide_eq_true_eq]
 exact⟨fun h=>⟨h.1,h.2.1,h.2.2⟩,fun h=>⟨h.x,h.y,h.z⟩⟩
theorem InB.PK{c:Ce}(h:InB c)(k:Nat):InB (gY k c):=by
 obtain⟨h1,h2,h3⟩:=h
 unfold gY
 split<;>(constructor<;>(first|omega|(dsimp only;omega)))
theorem InB.rot{c:Ce}(h:InB c):∀n,InB (xW n c)
 |0=>h
 |n+1=>by
  obtain⟨h1,h2,h3⟩:=h.rot n
  unfold xW Kx
  exact⟨by dsimp only;omega,h1,h3⟩
theorem InB.RC{c:Ce}(h:InB c)(t:Nat):InB (nU t c):=(h.PK _).rot _
theorem gu{a:Int}(h:0≤a∧a≤7):aA .sub (.int .i64 7) (.int .i64 a)=some (.int .i64 (7-a)):=nF (cQ (by omega) (by omega))
theorem Mv{a:Nat}:aA .rem (.int .i64 a) (.int .i64 4)=some (.int .i64 ((a % 4:Nat):Int)):=by
 have e:(a:Int).tmod 4=((a % 4:Nat):Int):=by rw[Int.tmod_eq_emod_of_nonneg (by omega)];omega
 simp[aA,arith,e]
theorem Ms{a:Nat}(h1:a<9223372036854775808):aA .quo (.int .i64 a) (.int .i64 4)=some (.int .i64 ((a / 4:Nat):Int)):=by
 have e:fM .i64 ((a:Int).tdiv 4)=((a / 4:Nat):Int):=by
  rw[Int.tdiv_eq_ediv_of_nonneg (by omega),cQ (by omega) (by omega)];omega
 have e2:aA .quo (.int .i64 a) (.int .i64 4)=some (.int .i64 (fM .i64 ((a:Int).tdiv 4))):=rfl
 rw[e2,e]
structure pT (T:Nat→Option af):Prop where
 p:bt T
 f263:T 263=some f263
 f317:T 317=some f317
 f318:T 318=some f318
 f319:T 319=some f319
 f320:T 320=some f320
 f321:T 321=some f321
 f322:T 322=some f322
theorem PL(F:pT T){h:Heap}(hr:Rdy h)(v:Value){c:Ce}(hc:InB c):Pu T 317 [v,ceV c] h (ceV (gY 0 c)):=by
 refine .of F.p F.f317 hr rfl ?_
 obtain⟨cx,cy,cz⟩:=c
 obtain⟨hx,hy,hz⟩:=hc
 dsimp only at hx hy hz
 have mx:=gu hx
 have my:=gu hy
 have mz:=gu hz
 have ck:cH 3 (bW 0 (ceL (gY 0 ⟨cx,cy,cz⟩)))=ceL (gY 0 ⟨cx,cy,cz⟩):=rfl
 refine y4 ?_;refine yB ?_;refine an (dL) ?_;refine y3 ?_;refine y4 ?_
 refine yN ?_
 refine yS ?_;refine y3 ?_;refine aG ?_
 refine aD ?_ (dJ (own:=true) (s:=1) rfl ?_ ck rfl rfl) rfl
 ·rw[Heap.aN (by show h.next≤h.next+1;omega)];exact hr.log
 ·(simp(disch:=first|omega|(simp only[z1,z2];omega)|(simp only[z1,z2];done)|fail)only[z8,z4,z5,z9,z7,z1,z2];exact rfl)
theorem PM(F:pT T){h:Heap}(hr:Rdy h)(v:Value){c:Ce}(hc:InB c):Pu T 318 [v,ceV c] h (ceV (gY 1 c)):=by
 refine .of F.p F.f318 hr rfl ?_
 obtain⟨cx,cy,cz⟩:=c
 obtain⟨hx,hy,hz⟩:=hc
 dsimp only at hx hy hz
 have mx:=gu hx
 have my:=gu hy
 have mz:=gu hz
 have ck:cH 3 (bW 0 (ceL (gY 1 ⟨cx,cy,cz⟩)))=ceL (gY 1 ⟨cx,cy,cz⟩):=rfl
 refine y4 ?_;refine yB ?_;refine an (dL) ?_;refine y3 ?_;refine y4 ?_;refine yF ?_
 refine yL ?_;refine yF ?_
 refine yL ?_;refine yW ?_
 refine yF ?_;refine yL ?_;refine an (ez (by exact rfl)) ?_
 refine yS ?_;refine y3 ?_;refine aG ?_
 refine aD ?_ (dJ (own:=true) (s:=1) rfl ?_ ck rfl rfl) rfl
 ·rw[Heap.aN (by show h.next≤h.next+1;omega)];exact hr.log
 ·(simp(disch:=first|omega|(simp only[z1,z2];omega)|(simp only[z1,z2];done)|fail)only[z8,z4,z5,z9,z7,z1,z2];exact rfl)
theorem PN(F:pT T){h:Heap}(hr:Rdy h)(v:Value){c:Ce}(hc:InB c):Pu T 319 [v,ceV c] h (ceV (gY 2 c)):=by
 refine .of F.p F.f319 hr rfl ?_
 obtain⟨cx,cy,cz⟩:=c
 obtain⟨hx,hy,hz⟩:=hc
 dsimp only at hx hy hz
 have mx:=gu hx
 have my:=gu hy
 have mz:=gu hz
 have ck:cH 3 (bW 0 (ceL (gY 2 ⟨cx,cy,cz⟩)))=ceL (gY 2 ⟨cx,cy,cz⟩):=rfl
 refine y4 ?_;refine yB ?_;refine an (dL) ?_;refine y3 ?_;refine y4 ?_;refine yF ?_
 refine yL ?_;refine yF ?_
 refine yL ?_;refine yW ?_
 refine yF ?_;refine yL ?_
 refine yW ?_;refine an (ez (by exact rfl)) ?_
 refine yS ?_;refine y3 ?_;refine aG ?_
 refine aD ?_ (dJ (own:=true) (s:=1) rfl ?_ ck rfl rfl) rfl
 ·rw[Heap.aN (by show h.next≤h.next+1;omega)];exact hr.log
 ·(simp(disch:=first|omega|(simp only[z1,z2];omega)|(simp only[z1,z2];done)|fail)only[z8,z4,z5,z9,z7,z1,z2];exact rfl)
theorem PO(F:pT T){h:Heap}(hr:Rdy h)(v:Value){c:Ce}(hc:InB c):Pu T 320 [v,ceV c] h (ceV (gY 3 c)):=by
 refine .of F.p F.f320 hr rfl ?_
 obtain⟨cx,cy,cz⟩:=c
 obtain⟨hx,hy,hz⟩:=hc
 dsimp only at hx hy hz
 have mx:=gu hx
 have my:=gu hy
 have mz:=gu hz
 have ck:cH 3 (bW 0 (ceL (gY 3 ⟨cx,cy,cz⟩)))=ceL (gY 3 ⟨cx,cy,cz⟩):=rfl
 refine y4 ?_;refine yB ?_;refine an (dL) ?_;refine y3 ?_;refine y4 ?_;refine yF ?_
 refine yL ?_;refine yF ?_
 refine yL ?_;refine yF ?_
 refine yL ?_;refine yW ?_
 refine an (ez (by exact rfl)) ?_
 refine yS ?_;refine y3 ?_;refine aG ?_
 refine aD ?_ (dJ (own:=true) (s:=1) rfl ?_ ck rfl rfl) rfl
 ·rw[Heap.aN (by show h.next≤h.next+1;omega)];exact hr.log
 ·(simp(disch:=first|omega|(simp only[z1,z2];omega)|(simp only[z1,z2];done)|fail)only[z8,z4,z5,z9,z7,z1,z2];exact rfl)
theorem PR(F:pT T){h:Heap}(hr:Rdy h)(v:Value){c:Ce}(hc:InB c):Pu T 321 [v,ceV c] h (ceV (gY 4 c)):=by
 refine .of F.p F.f321 hr rfl ?_
 obtain⟨cx,cy,cz⟩:=c
 obtain⟨hx,hy,hz⟩:=hc
 dsimp only at hx hy hz
 have mx:=gu hx
 have my:=gu hy
 have mz:=gu hz
 have ck:cH 3 (bW 0 (ceL (gY 4 ⟨cx,cy,cz⟩)))=ceL (gY 4 ⟨cx,cy,cz⟩):=rfl
 refine y4 ?_;refine yB ?_;refine an (dL) ?_;refine y3 ?_;refine y4 ?_;refine yF ?_
 refine yL ?_;refine yF ?_
 refine yL ?_;refine yF ?_
 refine yL ?_;refine yW ?_
 refine an (ez (by exact rfl)) ?_
 refine yS ?_;refine y3 ?_;refine aG ?_
 refine aD ?_ (dJ (own:=true) (s:=1) rfl ?_ ck rfl rfl) rfl
 ·rw[Heap.aN (by show h.next≤h.next+1;omega)];exact hr.log
 ·(simp(disch:=first|omega|(simp only[z1,z2];omega)|(simp only[z1,z2];done)|fail)only[z8,z4,z5,z9,z7,z1,z2];exact rfl)
theorem PS(F:pT T){h:Heap}(hr:Rdy h)(v:Value){c:Ce}(hc:InB c):Pu T 322 [v,ceV c] h (ceV (gY 5 c)):=by
 refine .of F.p F.f322 hr rfl ?_
 obtain⟨cx,cy,cz⟩:=c
 obtain⟨hx,hy,hz⟩:=hc
 dsimp only at hx hy hz
 have mx:=gu hx
 have my:=gu hy
 have mz:=gu hz
 have ck:cH 3 (bW 0 (ceL (gY 5 ⟨cx,cy,cz⟩)))=ceL (gY 5 ⟨cx,cy,cz⟩):=rfl
 refine y4 ?_;refine yB ?_;refine an (dL) ?_;refine y3 ?_;refine y4 ?_;refine yF ?_
 refine yL ?_;refine yW ?_
 refine yF ?_;refine yL ?_;refine yF ?_
 refine yL ?_;refine an (ez (by exact rfl)) ?_
 refine yS ?_;refine y3 ?_;refine aG ?_
 refine aD ?_ (dJ (own:=true) (s:=1) rfl ?_ ck rfl rfl) rfl
 ·rw[Heap.aN (by show h.next≤h.next+1;omega)];exact hr.log
 ·(simp(disch:=first|omega|(simp only[z1,z2];omega)|(simp only[z1,z2];done)|fail)only[z8,z4,z5,z9,z7,z1,z2];exact rfl)
theorem PT(F:pT T){h:Heap}(hr:Rdy h)(v:Value){c:Ce}(hc:InB c):∀k,k<6→Pu T (317+k) [v,ceV c] h (ceV (gY k c))
 |0,_=>PL F hr v hc
 |1,_=>PM F hr v hc
 |2,_=>PN F hr v hc
 |3,_=>PO F hr v hc
 |4,_=>PR F hr v hc
 |5,_=>PS F hr v hc
 |k+6,h=>by omega
def sw(k:Nat):Value:= .func (.func (317+k)) #[.int .i64 0] #[]
def HT:List Value:=[sw 0,sw 1,sw 2,sw 3,sw 4,sw 5]
theorem HU:∀k,k<6→bH HT (0+k*1)=some (sw k)
 |0,_=>rfl
 |1,_=>rfl
 |2,_=>rfl
 |3,_=>rfl
 |4,_=>rfl
 |5,_=>rfl
 |k+6,h=>by omega
set_option maxHeartbeats 8000000 in
theorem Ep(F:pT T){h:Heap}(hr:Rdy h){c:Ce}(hc:InB c){t:Nat}(ht:t<24):Pu T 263 [ceV c, .int .i64 (t:Nat)] h (ceV (nU t c)):=by
 refine .of F.p F.f263 hr rfl ?_
 have x0:Ext h ((h.push (.cells (cellsOf (ceV c)) true 1)).push (.cells [I.O,I.O,I.O] true 1)):=((Ext.refl h).push _).push _
 have g0:((h.push (.cells (cellsOf (ceV c)) true 1)).push (.cells [I.O,I.O,I.O] true 1)).get h.next=some (.cells (ceL c) true 1):=(z4 (Nat.lt_succ_self _)).trans (z3 h _)
 have g1:((h.push (.cells (cellsOf (ceV c)) true 1)).push (.cells [I.O,I.O,I.O] true 1)).get (h.next+1)=some (.cells [I.O,I.O,I.O] true 1):=z3 _ _
 have n0:((h.push (.cells (cellsOf (ceV c)) true 1)).push (.cells [I.O,I.O,I.O] true 1)).next=h.next+2:=rfl
 refine y4 ?_;refine yB ?_;refine an (dL) ?_;refine y3 ?_
 generalize((h.push (.cells (cellsOf (ceV c)) true 1)).push (.cells [I.O,I.O,I.O] true 1))=H at*
 have W:=x0.wf hr.wf
 have hL:=x0.log.trans hr.log
 refine y4 ?_;refine yM ?_;refine y3 ?_
 refine fB (E0:=[(1, .int .i64 (t:Nat)),(2, .pointer (some ⟨h.next,0,none⟩)),(4, .pointer (some ⟨h.next+1,0,none⟩)),(6, .pointer (some ⟨H.next,0,none⟩))]) (P:=fun h'=>Ext H h'∧h'.next=H.next+1∧h'.get H.next=some (.cells HT true 1)) ?_ ?_
 ·refine aJ ?_;refine yM ?_;refine an (gK (by exact rfl) (by exact rfl)) ?_;refine yM ?_;refine an (gK (by exact rfl) (by exact rfl)) ?_;refine yM ?_;refine an (gK (by exact rfl) (by exact rfl)) ?_;refine yM ?_
  refine an (gK (by exact rfl) (by exact rfl)) ?_;refine yM ?_;refine an (gK (by exact rfl) (by exact rfl)) ?_;refine yM ?_;refine an (gK (by exact rfl) (by exact rfl)) ?_;refine an (ez (by exact rfl)) ?_;refine an (dL) ?_
  refine yS ?_;refine dN ?_
  refine y1 ?_
  exact⟨rfl,rfl,rfl,iC (by omega) _ _,rfl,jB _ _⟩
 rintro H1 ⟨x1,n1,q1⟩
 have ey1':=x0.trans x1
 have W1:=ey1'.wf hr.wf
 have hL1:=ey1'.log.trans hr.log
 have ga:=(x1.old _ (by omega)).trans g0
 have gb:=(x1.old _ (by omega)).trans g1
 have hk:t / 4<6:=by omega
 have m1:aA .quo (.int .i64 (t:Nat)) (.int .i64 4)=some (.int .i64 ((t / 4:Nat):Int)):=Ms (by omega)
 have m2:aA .rem (.int .i64 (t:Nat)) (.int .i64 4)=some (.int .i64 ((t % 4:Nat):Int)):=Mv
 have e1:=HU (t / 4) hk
 have C:=PT F (h:={H1 with log:=[]}) (.of W1) (.int .i64 0) hc (t / 4) hk
 have hb:=hc.PK (t / 4)
 have hr4:t % 4<4:=by omega
 have ck:cH 3 (bW 0 (ceL c))=ceL c:=rfl
 have ckl:Nat.beq (bZ (ceL c)) 3=true:=rfl
 unfold nU
 generalize hq:gY (t / 4) c=d at*
 generalize t / 4=k at*
 generalize t % 4=r at*
 unfold sw at e1
 clear g0 g1
 refine ah ?_;refine cV ?_;refine qM ?_;refine qW ?_
 refine qJ ?_;refine qK ?_
 refine qN ?_
 refine qC ?_
 refine FW.puD C (by(repeat apply aP rfl);exact cC) ?_
 clear C
 refine uU rfl rfl rfl (by exact rfl) (by exact rfl) (by exact rfl) (by assumption) (by exact rfl) (by exact rfl) (by omega) (by omega) (by exact cC) ?_;refine dy ?_;refine y1 ?_;refine aV ?_;refine ah ?_;refine y4 ?_;refine yM ?_
 refine yW ?_;refine yM ?_;refine y3 ?_;refine aK ?_
 refine dG (fun m e ds h'=>∃j:Nat,j≤r∧r-j=m∧e=[(2, .pointer (some ⟨h.next,0,none⟩)),(4, .pointer (some ⟨h.next+1,0,none⟩)),(27, .int .i64 (r:Nat)),(28, .int .i64 (j:Nat))]∧ds=[]∧Ext h h'∧h.next+2≤h'.next∧h'.get h.next=some (.cells (ceL (xW j d)) true 1)∧h'.get (h.next+1)=some (.cells [I.O,I.O,I.O] true 1))
  ⟨0,Nat.zero_le _,rfl,rfl,rfl,⟨ey1'.next,(Heap.aN (by omega)).trans ey1'.log,fun b hb=>(z5 (by omega)).trans (ey1'.old b hb),fun w=>(ey1'.wf w).as (AS.wr h.next _ _ _)⟩,by show h.next+2≤H1.next;omega,by rw[z6,ga];rfl,(z5 (by omega)).trans gb⟩ ?_
 rintro m e ds h' ⟨j,hj,rfl,rfl,rfl,x,hn,gc,gd⟩
 have hbj:=hb.rot j
 by_cases hlt:j<r
 ·have hro:xW (j+1) d=Kx (xW j d):=rfl
  generalize xW j d=b at*
  obtain⟨bx,by',bz⟩:=b
  obtain⟨_,hy,_⟩:=hbj
  dsimp only at hy
  have my:=gu hy
  unfold Kx at hro
  dsimp only at hro
  refine y4 ?_;refine yt ?_;refine y3 ?_;refine ah ?_;refine yY ?_;refine aH ?_;refine aV ?_;refine ah ?_;refine aK ?_
  refine aJ ?_;refine yF ?_;refine yL ?_;refine yW ?_;refine yF ?_;refine yL ?_;refine yF ?_
  refine yL ?_;refine an (ez (by exact rfl)) ?_;refine yS ?_;refine dN ?_;refine y1 ?_;refine ff ?_;refine aV ?_;refine aJ ?_
  refine ia ?_;refine yM ?_;refine y3 ?_
  refine⟨r-(j+1),by omega,j+1,by omega,rfl,rfl,rfl,⟨x.next,(Heap.aN (by omega)).trans x.log,fun b hb=>(z5 (by omega)).trans (x.old b hb),fun w=>(x.wf w).as (AS.wr h.next _ _ _)⟩,hn,?_,(z5 (by omega)).trans gd⟩
  rw[z6,gc,hro];rfl
 ·obtain rfl:j=r:=by omega
  generalize xW j d=b at*
  have ckb:cH 3 (bW 0 (ceL b))=ceL b:=rfl
  have ckbl:Nat.beq (bZ (ceL b)) 3=true:=rfl
  refine y4 ?_;refine yf ?_;refine y3 ?_;refine ah ?_;refine yX ?_;refine dw ?_;refine dQ ?_;refine dQ ?_;refine iN ?_;refine aV ?_
  refine y4 ?_;refine yN ?_;refine yS ?_;refine y3 ?_;refine aG ?_
  refine aD ?_ (dJ (own:=true) (s:=1) rfl ?_ ckb ckbl rfl) rfl
  ·rw[Heap.aN (by show h.next≤h.next+1;omega)];exact x.log.trans hr.log
  ·(simp(disch:=first|omega|(simp only[z1,z2];omega))only[z3,z4,z5,z6,z7,z1,z2,q1,ga,gb,gd,gc];exact rfl)
end Go.A.Pk
end
section
set_option maxRecDepth 100000
namespace Go.A.Pk
variable {T:Nat→Option af}
def sI(o:List Nat)(c:Ce):List Nat:=o.set c.z.toNat (Nat.lor (o.getD c.z.toNat 0) (2 ^ (8*c.y.toNat+c.x.toNat)))
theorem Ct(o:List Nat){z i:Nat}(hi:i<64):sI o (jN z i)=o.set z (Nat.lor (o.getD z 0) (2 ^ i)):=by
 unfold sI jN
 dsimp only
 rw[show((z:Nat):Int).toNat=z by omega,show 8*((i / 8:Nat):Int).toNat+((i % 8:Nat):Int).toNat=i by omega]
theorem IsS.sI{o:List Nat}(h:IsS o){c:Ce}(hc:inG c=true):IsS (Pk.sI o c):=by
 obtain⟨z,i,hz,hi,rfl⟩:=tP hc
 rw[Ct o hi]
 refine⟨by rw[List.length_set];exact h.len,fun x hx=> ?_⟩
 rcases List.mem_or_eq_of_mem_set hx with h1|h1
 ·exact h.lt x h1
 ·rw[h1];exact F6 (h.om z) (ur hi)
def xm(f:Ce→Ce)(l:List Ce):List Nat:=l.foldl (fun o c=>sI o (f c)) s0
def ve(f:Ce→Ce)(s:List Nat):List Nat:=xm f (cw s 512)
theorem vL(f:Ce→Ce)(l:List Ce)(c:Ce):xm f (l++[c])=sI (xm f l) (f c):=by unfold xm;rw[List.foldl_append];rfl
theorem JF{f:Ce→Ce}:∀{l:List Ce},(∀c∈l,inG (f c)=true)→IsS (xm f l):=by
 intro l
 have:∀(l:List Ce) (o:List Nat),IsS o→(∀c∈l,inG (f c)=true)→IsS (l.foldl (fun o c=>sI o (f c)) o):=by
  intro l
  induction l with
  |nil=>intro o ho _;exact ho
  |cons c l ih=>intro o ho hl;exact ih _ (ho.sI (hl c List.mem_cons_self)) fun x hx=>hl x (List.mem_cons_of_mem _ hx)
 exact fun hl=>this l s0 Cz hl
theorem BF{o:List Nat}{z v:Nat}(hz:z<o.length):cO (us o) (0+z*1) (cellsOf (.int .u64 (v:Nat)))=us (o.set z v):=by
 show cO (us o) (0+z*1) [.int .u64 (v:Nat)]=_
 rw[Nat.zero_add,Nat.mul_one,eX (by rw[aI];simp;omega)]
 unfold us
 rw[List.map_set,List.set_eq_take_append_cons_drop,if_pos (by simpa using hz)]
 simp
section
open I
def qT:aY:=I.R [g 7 (.new [O,O,O]),S 3 7 11] [3,4,5,6,7]
def qU:aY:=(.block 1 (Q (I.R [L 12 3,N 13 3 7,g 14 (.call (t 12) [(t 13)]),g 8 (.new [O,O,O]),S 3 8 14] [4,5,6,8])
 (Q (.seq (I.R [N 15 3 8,g 16 (.call (.func 126) [(t 15)]),g 17 (.un .not (t 16))] [4,5,6,8,17])
 (.cond (t 17) (Q (I.R [g 18 (.build (aT 8 (.int .u64 0)) []),S 8 4 18,⟨none, .store 1 (t 5) (.const (.bool false)),none⟩] [])
 .ret) .skip))
 (.draw [A 19 2 8,L 20 19,g 21 (.cZ 8 1 (t 6) (t 20)),L 22 21,N 23 3 8,g 24 (.call (.func 127) [(t 23)]),B 25 .or 22 24,g 26 (.cZ 8 1 (t 6) (t 20)),S 1 26 25] [0,1,2,3,4,5,6,7,8] [0,1,3,7,0,16,63,127,255] []))))
end
structure yw (T:Nat→Option af):Prop where
 cp:BN T
 tu:pT T
 f126:T 126=some f126
 f127:T 127=some f127
 f211:T 211=some f211
 f215:T 215=some f215
 f261:T 261=some f261
 f262:T 262=some f262
set_option maxHeartbeats 16000000 in
theorem Dt(F:yw T){H:Heap}(hr:Rdy H){q l lo N b3 b4 b5 gf:Nat}{cap fv:Value}{o:List Nat}(ho:IsS o){c d:Ce}(hd:inG d=true)(hlo:lo≤q)(hql:q<l)(hlN:l<N)(h3q:b3<q)
 (gl:H.get l=some (.loop [(3, .pointer (some ⟨b3,0,none⟩)),(4, .pointer (some ⟨b4,0,none⟩)),(5, .pointer (some ⟨b5,0,none⟩)),(6, .pointer (some ⟨q,0,none⟩)),(10,fv)] [11] qT qU 0 .normal))
 (g3:H.get b3=some (.cells [.func (.func gf) #[] #[cap]] true 1))
 (hto:∀H':Heap,WF H'→(∀z,z<b3→H'.get z=H.get z)→Pu T gf [ceV c,cap] {H' with log:=[]} (ceV d))
 (go:H.get q=some (.cells (us o) true 1)){S:Heap→Prop}:
 FW T (.yield l) [ceV c] H fun r H'=>(∀z∈H'.log,lo≤z∧z<N)∧(r= .ret (.bool true)∧(H'.get q=some (.cells (us (sI o d)) true 1)∧(∀z,z<H.next→z≠q→H'.get z=H.get z)∧H.next≤H'.next)∨r= .ret (.bool false)∧l∈H'.log∧S H'):=by
 have hp:=F.cp.p
 have no:q≠l:=by omega
 have ko:=hr.wf.ef go
 have kl:=hr.wf.ef gl
 have k3:=hr.wf.ef g3
 refine FW.I3 hp (R:=fun H'=>H'.get q=some (.cells (us (sI o d)) true 1)∧(∀z,z<H.next→z≠q→H'.get z=H.get z)∧H.next≤H'.next) gl rfl kl ⟨by omega,hlN⟩ ?_
 unfold qT
 refine aJ ?_;refine an (dL) ?_;refine yS ?_;refine dN ?_
 refine y1 ?_
 refine⟨rfl,by(simp(disch:=first|omega|(simp only[z1,z2];omega))only[z3,z4,z5,z6,z7,z1,z2,gl,g3,go];exact rfl),?_⟩
 unfold qU
 refine aK ?_
 refine WE.wR ?_
 intro hA hAe
 have A1:∀z,z<H.next→z≠l→H.get z=hA.get z:=fun z hz hne=>by rw[hAe];symm;simp(disch:=first|omega|(simp only[z1,z2];omega))only[z5,z4]
 have A3:hA.get H.next=some (.cells (ceL c) true 1):=by rw[hAe];(simp(disch:=first|omega|(simp only[z1,z2];omega))only[z3,z4,z5,z6,z7,z1,z2,gl,g3,go];exact rfl)
 have A2:hA.get l=some (.loop [(3, .pointer (some ⟨b3,0,none⟩)),(4, .pointer (some ⟨b4,0,none⟩)),(5, .pointer (some ⟨b5,0,none⟩)),(6, .pointer (some ⟨q,0,none⟩)),(10,fv)] [11] qT qU 1 .normal):=by rw[hAe];(simp(disch:=first|omega|(simp only[z1,z2];omega))only[z3,z4,z5,z6,z7,z1,z2,gl,g3,go,A3];exact rfl)
 have A5:hA.next=H.next+1:=by rw[hAe];rfl
 have A6:hA.log=[]:=by rw[hAe];simp(disch:=first|omega|(simp only[z1,z2];omega))only[Heap.aN,Heap.tS];exact hr.log
 have A7:WF hA:=by rw[hAe];exact(((hr.wf.push _).as (AS.wr _ _ _ _)).as (AS.wr _ _ _ _))
 clear hAe
 have Bo:=(A1 q ko no).symm.trans go
 have B3:=(A1 b3 k3 (by omega)).symm.trans g3
 have C1:=hto hA A7 fun z hz=>(A1 z (by omega) (by omega)).symm
 have ck:cH 3 (bW 0 (ceL c))=ceL c:=rfl
 have ckl:Nat.beq (bZ (ceL c)) 3=true:=rfl
 clear go hto
 refine fB (E0:=[(4, .pointer (some ⟨b4,0,none⟩)),(5, .pointer (some ⟨b5,0,none⟩)),(6, .pointer (some ⟨q,0,none⟩)),(8, .pointer (some ⟨hA.next,0,none⟩))]) (P:=fun h'=>Ext hA h'∧h'.next=hA.next+1∧h'.get hA.next=some (.cells (ceL d) true 1)) ?_ ?_
 ·refine aJ ?_;refine yL ?_;refine yN ?_
  refine yC ?_
  refine FW.pu C1 ?_
  clear C1
  refine an (dL) ?_;refine yS ?_;refine dN ?_
  refine y1 ?_
  exact⟨rfl,rfl,rfl,iC (by omega) _ _,rfl,jB _ _⟩
 rintro hB ⟨xB,nB,gB⟩
 clear C1 A3
 have WB:=xB.wf A7
 have LB:=xB.log.trans A6
 have Bo2:=(xB.old _ (by omega)).trans Bo
 have Bl2:=(xB.old _ (by omega)).trans A2
 have C2:=Dj hp F.f126 F.f215 (h:={hB with log:=[]}) (.of WB) d
 rw[hd]at C2
 obtain⟨z,i,hz,hi,rfl⟩:=tP hd
 have C3:=L6 hp F.f127 (h:={hB with log:=[]}) (.of WB) (z:=z) hi
 have ckd:cH 3 (bW 0 (ceL (jN z i)))=ceL (jN z i):=rfl
 have ckdl:Nat.beq (bZ (ceL (jN z i))) 3=true:=rfl
 have lz:bH (ceL (jN z i)) (0+2)=some (.int .i64 ((z:Nat):Int)):=rfl
 have e1:=lF (qg (s:=o) (i:=z) (by rw[ho.len];exact hz))
 have m1:=Ph (a:=o.getD z 0) (b:=2 ^ i) (ho.om z) (ur hi)
 have kw:=BF (o:=o) (z:=z) (v:=Nat.lor (o.getD z 0) (2 ^ i)) (by rw[ho.len];exact hz)
 rw[←Ct o hi]at kw
 have kc:(Nat.beq (bZ (cellsOf (.int .u64 ((Nat.lor (o.getD z 0) (2 ^ i):Nat):Int)))) 1&&Nat.ble (0+z*1+1) (bZ (us o))&&dR (cellsOf (.int .u64 ((Nat.lor (o.getD z 0) (2 ^ i):Nat):Int))))=true:=by
  rw[bQ (us o),aI,ho.len,ij (by omega)];rfl
 clear Bo A2 B3 g3
 refine ah ?_;refine y4 ?_;refine yN ?_
 refine yC ?_
 refine FW.pu C2 ?_
 clear C2
 refine yA ?_;refine y3 ?_;refine yX ?_;refine aH ?_;refine aV ?_;refine cV ?_;refine qF ?_
 refine qL ?_;refine qJ ?_;refine qK ?_
 refine qN ?_
 refine qC ?_
 refine FW.puD C3 (by apply aP rfl;apply aB rfl (aq rfl (bO (by exact rfl) (by assumption) (by assumption)) (by exact dZ _ _)) rfl;apply aB rfl (aq rfl (eY (by exact rfl) (by exact rfl) (by omega)) (by exact bT _)) rfl;apply aB rfl (aq rfl (bO (by exact rfl) (by assumption) (by exact rfl)) (by exact dZ _ _)) rfl;apply aB rfl (aq rfl (dz (by exact rfl)) (by exact bT _)) rfl;exact cC) ?_
 clear C3
 refine qW ?_;refine qJ ?_
 refine gP (vs:=us o) (ws:=us (sI o (jN z i))) rfl rfl rfl (by exact rfl) (by exact rfl) (by exact rfl) Bo2 kc kw (by omega) (by(repeat apply aP rfl);exact cC) ?_
 refine dy ?_;refine y1 ?_;refine ff ?_
 refine⟨⟨_,by(simp(disch:=first|omega|(simp only[z1,z2];omega))only[z3,z4,z5,z6,z7,z1,z2,gl,Bo2,Bl2,gB];exact rfl),rfl⟩,fun z hz=> ?_, .inl ⟨rfl,fun h5 hn h5e h5l=> ?_⟩⟩
 ·have key:z=q:=by
   rcases dO hz with h|hz
   ·exact h
   rw[LB]at hz;cases hz
  subst key
  exact⟨hlo,by omega⟩
 ·refine⟨(h5e q ko no).trans (Heap.bB Bo2),fun z hz hne=> ?_,hn⟩
  by_cases hl:z=l
  ·subst hl
   rw[gl];exact h5l
  ·refine(h5e z hz hl).trans ?_
   rw[z5 hne,xB.old z (by omega)]
   exact(A1 z hz hl).symm
theorem qY{s:List Nat}{n:Nat}{c:Ce}(h:c∈cw s n):inG c=true:=by
 have:=Dw h
 by_cases hc:inG c=true
 ·exact hc
 ·rw[HX hc]at this;cases this
theorem Ci{f:Ce→Ce}{s:List Nat}(hin:∀c,inG c=true→inG (f c)=true):IsS (ve f s):=JF fun c hc=>hin c (qY hc)
set_option maxHeartbeats 16000000 in
theorem Du(F:yw T){h:Heap}(hr:Rdy h)(hg:Tab h)(h2:2<h.next){s:List Nat}(hs:IsS s){gf:Nat}{cap:Value}{f:Ce→Ce}(hin:∀c,inG c=true→inG (f c)=true)
 (hto:∀H':Heap,WF H'→(∀z,z<h.next→H'.get z=h.get z)→∀c,inG c=true→Pu T gf [ceV c,cap] {H' with log:=[]} (ceV (f c))):
 Pu T 261 [sv s, .func (.func gf) #[] #[cap]] h (.tuple #[sv (ve f s), .bool true]):=by
 have hp:=F.cp.p
 have hms:=Ci (s:=s) hin
 refine .of hp F.f261 hr (by
  have h1:flat (sv (ve f s))=true:=iI _
  show iS [sv (ve f s), .bool true]=true
  simp only[iS,h1,cond_true];rfl) ?_
 have k8:=bF hs.len
 have k9:=cD hs.len
 have x0:Ext h (((((h.push (.cells (cellsOf (sv s)) true 1)).push (.cells (cellsOf (.func (.func gf) #[] #[cap])) true 1)).push (.cells (aT 8 (.int .u64 0)) true 1)).push (.cells [.bool false] true 1)).push (.cells (aT 8 (.int .u64 0)) true 1)):=(((((Ext.refl h).push _).push _).push _).push _).push _
 have gA:(((((h.push (.cells (cellsOf (sv s)) true 1)).push (.cells (cellsOf (.func (.func gf) #[] #[cap])) true 1)).push (.cells (aT 8 (.int .u64 0)) true 1)).push (.cells [.bool false] true 1)).push (.cells (aT 8 (.int .u64 0)) true 1)).get h.next=some (.cells (us s) true 1):=by(simp(disch:=first|omega|(simp only[z1,z2];omega))only[z3,z4,z5,z6,z7,z1,z2];exact rfl)
 have gB:(((((h.push (.cells (cellsOf (sv s)) true 1)).push (.cells (cellsOf (.func (.func gf) #[] #[cap])) true 1)).push (.cells (aT 8 (.int .u64 0)) true 1)).push (.cells [.bool false] true 1)).push (.cells (aT 8 (.int .u64 0)) true 1)).get (h.next+1)=some (.cells [.func (.func gf) #[] #[cap]] true 1):=by(simp(disch:=first|omega|(simp only[z1,z2];omega)|(simp only[z1,z2];done)|fail)only[z8,z4,z5,z9,z7,z1,z2,gA];exact rfl)
 have gC:(((((h.push (.cells (cellsOf (sv s)) true 1)).push (.cells (cellsOf (.func (.func gf) #[] #[cap])) true 1)).push (.cells (aT 8 (.int .u64 0)) true 1)).push (.cells [.bool false] true 1)).push (.cells (aT 8 (.int .u64 0)) true 1)).get (h.next+2)=some (.cells (us s0) true 1):=by(simp(disch:=first|omega|(simp only[z1,z2];omega)|(simp only[z1,z2];done)|fail)only[z8,z4,z5,z9,z7,z1,z2,gA,gB];exact rfl)
 have gD:(((((h.push (.cells (cellsOf (sv s)) true 1)).push (.cells (cellsOf (.func (.func gf) #[] #[cap])) true 1)).push (.cells (aT 8 (.int .u64 0)) true 1)).push (.cells [.bool false] true 1)).push (.cells (aT 8 (.int .u64 0)) true 1)).get (h.next+3)=some (.cells [.bool false] true 1):=by(simp(disch:=first|omega|(simp only[z1,z2];omega)|(simp only[z1,z2];done)|fail)only[z8,z4,z5,z9,z7,z1,z2,gA,gB,gC];done)
 have gE:(((((h.push (.cells (cellsOf (sv s)) true 1)).push (.cells (cellsOf (.func (.func gf) #[] #[cap])) true 1)).push (.cells (aT 8 (.int .u64 0)) true 1)).push (.cells [.bool false] true 1)).push (.cells (aT 8 (.int .u64 0)) true 1)).get (h.next+4)=some (.cells (us s0) true 1):=by(simp(disch:=first|omega|(simp only[z1,z2];omega)|(simp only[z1,z2];done)|fail)only[z8,z4,z5,z9,z7,z1,z2,gA,gB,gC,gD];exact rfl)
 have n0:(((((h.push (.cells (cellsOf (sv s)) true 1)).push (.cells (cellsOf (.func (.func gf) #[] #[cap])) true 1)).push (.cells (aT 8 (.int .u64 0)) true 1)).push (.cells [.bool false] true 1)).push (.cells (aT 8 (.int .u64 0)) true 1)).next=h.next+5:=rfl
 refine y4 ?_;refine yB ?_;refine yB ?_;refine an (dL) ?_;refine an (dL) ?_;refine y3 ?_;refine y4 ?_;refine an (dL) ?_
 refine y3 ?_
 generalize(((((h.push (.cells (cellsOf (sv s)) true 1)).push (.cells (cellsOf (.func (.func gf) #[] #[cap])) true 1)).push (.cells (aT 8 (.int .u64 0)) true 1)).push (.cells [.bool false] true 1)).push (.cells (aT 8 (.int .u64 0)) true 1))=H at*
 have W:=x0.wf hr.wf
 have hL:=x0.log.trans hr.log
 have C:=y5 F.cp (h:={H with log:=[]}) (.of W) hs
 refine ah ?_;refine y4 ?_;refine yV ?_
 refine yC ?_
 refine FW.al C (fun v h' m q=>q) ?_
 rintro _ H1 x1 ⟨q,rfl,gq,q2,q3⟩
 clear C
 have q2:H.next≤q:=q2
 have ey1':=x0.trans x1
 have W1:=ey1'.wf hr.wf
 have hL1:=ey1'.log.trans hr.log
 have n1:=x1.next
 have gB1:=(x1.old _ (by omega)).trans gB
 have gC1:=(x1.old _ (by omega)).trans gC
 have gD1:=(x1.old _ (by omega)).trans gD
 have gE1:=(x1.old _ (by omega)).trans gE
 have hg1:Tab H1:=hg.ext ey1' h2
 clear gA gB gC gD gE
 refine y3 ?_;refine aK ?_
 refine wB (lo:=h.next+4) (P:=PXo H1.next (h.next+4) H1 (.loop [(3, .pointer (some ⟨h.next+1,0,none⟩)),(4, .pointer (some ⟨h.next+2,0,none⟩)),(5, .pointer (some ⟨h.next+3,0,none⟩)),(6, .pointer (some ⟨h.next+4,0,none⟩)),(10,fnC q)] [11] qT qU 0 .normal) (fun d=>us (xm f d)) (cw s 512)) (S:=fun _=>False) rfl (by rfl) (by rw[F.cp.f265];rfl) (by omega) (by omega) hL1 W1 ?_ (fun H p=>⟨_,_,_,_,p.loop⟩) (fun H p=>p.elim) ?_ (fun _ _ _ _ _ _ _ p=>p.elim)
 ·have Y:EH T (h.next+4) (H1.next+1) H1.next ceV (cw s 512) (fun d H'=>PXo H1.next (h.next+4) H1 (.loop [(3, .pointer (some ⟨h.next+1,0,none⟩)),(4, .pointer (some ⟨h.next+2,0,none⟩)),(5, .pointer (some ⟨h.next+3,0,none⟩)),(6, .pointer (some ⟨h.next+4,0,none⟩)),(10,fnC q)] [11] qT qU 0 .normal) (fun d=>us (xm f d)) d H'∧IsS (xm f d)) (fun _=>False):=by
   refine⟨fun done x Hh hx hrH hN hP=> ?_,fun done Ha Hb p n e=>⟨PXo.fF (by omega) done Ha Hb p.1 n e,p.2⟩,fun _ _ h=>h,fun _ h=>h.elim⟩
   obtain⟨hP,hd⟩:=hP
   have hxG:=qY hx
   refine FW.mono' (Dt F hrH (lo:=h.next+4) (N:=H1.next+1) (S:=fun _=>False) hd (d:=f x) (hin x hxG) (Nat.le_refl _) (by omega) (by omega) (by omega) hP.loop ((hP.old _ (by omega) (by omega)).trans gB1)
    (fun H' w e=>hto H' w (fun z hz=>(e z (by omega)).trans ((hP.old z (by omega) (by omega)).trans (ey1'.old z hz))) x hxG) hP.val) ?_
   rintro r' H' ⟨r1,r2⟩
   refine⟨r1,r2.imp (fun⟨e,g,o,_⟩=>⟨e,⟨fun z hz hne=>(o z (by omega) hne).trans (hP.old z hz hne),(o _ (by omega) (by omega)).trans hP.loop,?_⟩,?_⟩) id⟩
   ·rw[vL];exact g
   ·rw[vL];exact hd.sI (hin x hxG)
  have G:=vA F.cp (.of (W1.push (.loop [(3, .pointer (some ⟨h.next+1,0,none⟩)),(4, .pointer (some ⟨h.next+2,0,none⟩)),(5, .pointer (some ⟨h.next+3,0,none⟩)),(6, .pointer (some ⟨h.next+4,0,none⟩)),(10,fnC q)] [11] qT qU 0 .normal))) (q0:=q) (l:=H1.next) (N:=H1.next+1) (lo:=h.next+4) hs (Nat.le_refl _) (by show h.next+4≤H1.next+1;omega) (Nat.lt_succ_self _) Y ((z4 (by omega)).trans gq) (fun d H' hP=>(hP.1.old 2 (by omega) (by omega)).trans hg1)
   ⟨⟨fun z hz _=>z4 hz,z3 _ _,(z4 (by omega)).trans gE1⟩,Cz⟩
  exact CW.mono G fun r h' ⟨a,v,b,c⟩=>⟨a,v,b,c.imp (fun p=>p.1) id⟩
 intro h4 h5 k1 k2 k3 k4 k5 hP
 have D:=(k5 (h.next+4) (by omega)).trans hP.val
 have D2:=(k5 (h.next+2) (by omega)).trans ((hP.old _ (by omega) (by omega)).trans gC1)
 have D3:=(k5 (h.next+3) (by omega)).trans ((hP.old _ (by omega) (by omega)).trans gD1)
 unfold ve at*
 generalize xm f (cw s 512)=z at*
 have ck:=cD hms.len
 have ckl:=bF hms.len
 have cko:=dB z
 have cks:(us z).length=8:=by rw[aI,hms.len]
 have ck0:=dB s0
 have ck0l:(us s0).length=8:=rfl
 refine ff ?_;refine aV ?_;refine y4 ?_;refine yV ?_;refine an (dg (by exact rfl) (by exact rfl) (by assumption) (by assumption) (by assumption) (by exact dB _)) ?_
 refine an (ja (by exact rfl) (by exact rfl) (by first|(simp(disch:=first|omega|(simp only[z1,z2];omega))only[z3,z4,z5,z6,z7,z1,z2,gq,gB1,gC1,gD1,gE1,D2,D3,D];exact rfl)|fail) (by exact rfl) (by exact rfl)) ?_;refine y3 ?_;refine aG ?_
 refine aD ?_ (dJ (own:=true) (s:=1) (l:=us z) rfl ?_ ck ckl (HS (own:=true) (s:=1) (ws:=[.bool true]) (v:= .bool true) rfl ?_ rfl rfl)) rfl
 ·rw[Heap.aN (by show h.next≤h.next+3;omega),Heap.aN (by show h.next≤h.next+2;omega)];exact k1
 ·(simp(disch:=first|omega|(simp only[z1,z2];omega))only[z3,z4,z5,z6,z7,z1,z2,gq,gB1,gC1,gD1,gE1,D2,D3,D];done)
 ·(simp(disch:=first|omega|(simp only[z1,z2];omega))only[z3,z4,z5,z6,z7,z1,z2,gq,gB1,gC1,gD1,gE1,D2,D3,D];exact rfl)
theorem KE(F:yw T){h:Heap}(hr:Rdy h){qt t:Nat}(ht:t<24)(g:h.get qt=some (.cells [.int .i64 (t:Nat)] true 1)){c:Ce}(hc:inG c=true):Pu T 262 [ceV c, .pointer (some ⟨qt,0,none⟩)] h (ceV (nU t c)):=by
 refine .of F.cp.p F.f262 hr rfl ?_
 have kq:=hr.wf.ef g
 have W:WF ((h.push (.cells (cellsOf (ceV c)) true 1)).push (.cells [I.O,I.O,I.O] true 1)):=(hr.wf.push _).push _
 have C:=Ep F.tu (.of W) (sQ.1 hc) ht
 have ck:cH 3 (bW 0 (ceL (nU t c)))=ceL (nU t c):=rfl
 generalize nU t c=d at*
 refine y4 ?_;refine yB ?_;refine an (dL) ?_;refine y3 ?_;refine y4 ?_
 refine yN ?_
 refine yL ?_
 refine yC ?_
 refine FW.pu C ?_
 refine yS ?_;refine y3 ?_;refine aG ?_
 refine aD ?_ (dJ (own:=true) (s:=1) rfl ?_ ck rfl rfl) rfl
 ·rw[Heap.aN (by show h.next≤h.next+1;omega)];exact hr.log
 ·(simp(disch:=first|omega|(simp only[z1,z2];omega)|(simp only[z1,z2];done)|fail)only[z8,z4,z5,z9,z7,z1,z2,g];exact rfl)
def jj(s:List Nat)(t:Nat):List Nat:=ve (nU t) s
theorem CL{t:Nat}(c:Ce)(h:inG c=true):inG (nU t c)=true:=sQ.2 ((sQ.1 h).RC t)
theorem uO(s:List Nat)(t:Nat):IsS (jj s t):=Ci CL
set_option maxHeartbeats 16000000 in
theorem KF(F:yw T){h:Heap}(hr:Rdy h)(hg:Tab h)(h2:2<h.next){s:List Nat}(hs:IsS s){t:Nat}(ht:t<24):Pu T 211 [sv s, .int .i64 (t:Nat)] h (sv (jj s t)):=by
 refine .of F.cp.p F.f211 hr (iI _) ?_
 have k8:=bF hs.len
 have k9:=cD hs.len
 have x0:Ext h (((h.push (.cells (cellsOf (sv s)) true 1)).push (.cells (cellsOf (Value.int .i64 (t:Nat))) true 1)).push (.cells (aT 8 (.int .u64 0)) true 1)):=(((Ext.refl h).push _).push _).push _
 have gA:(((h.push (.cells (cellsOf (sv s)) true 1)).push (.cells (cellsOf (Value.int .i64 (t:Nat))) true 1)).push (.cells (aT 8 (.int .u64 0)) true 1)).get h.next=some (.cells (us s) true 1):=by(simp(disch:=first|omega|(simp only[z1,z2];omega))only[z3,z4,z5,z6,z7,z1,z2];exact rfl)
 have gB:(((h.push (.cells (cellsOf (sv s)) true 1)).push (.cells (cellsOf (Value.int .i64 (t:Nat))) true 1)).push (.cells (aT 8 (.int .u64 0)) true 1)).get (h.next+1)=some (.cells [.int .i64 (t:Nat)] true 1):=by(simp(disch:=first|omega|(simp only[z1,z2];omega)|(simp only[z1,z2];done)|fail)only[z8,z4,z5,z9,z7,z1,z2,gA];exact rfl)
 have gC:(((h.push (.cells (cellsOf (sv s)) true 1)).push (.cells (cellsOf (Value.int .i64 (t:Nat))) true 1)).push (.cells (aT 8 (.int .u64 0)) true 1)).get (h.next+2)=some (.cells (us s0) true 1):=by(simp(disch:=first|omega|(simp only[z1,z2];omega)|(simp only[z1,z2];done)|fail)only[z8,z4,z5,z9,z7,z1,z2,gA,gB];exact rfl)
 have n0:(((h.push (.cells (cellsOf (sv s)) true 1)).push (.cells (cellsOf (Value.int .i64 (t:Nat))) true 1)).push (.cells (aT 8 (.int .u64 0)) true 1)).next=h.next+3:=rfl
 refine y4 ?_;refine yB ?_;refine yB ?_;refine an (dL) ?_;refine y3 ?_
 generalize(((h.push (.cells (cellsOf (sv s)) true 1)).push (.cells (cellsOf (Value.int .i64 (t:Nat))) true 1)).push (.cells (aT 8 (.int .u64 0)) true 1))=H at*
 have W:=x0.wf hr.wf
 have hL:=x0.log.trans hr.log
 have C:=Du F (h:={H with log:=[]}) (.of W) (show Tab H from hg.ext x0 h2) (by show 2<H.next;omega) hs (gf:=262) (cap:= .pointer (some ⟨h.next+1,0,none⟩)) (f:=nU t) CL
  (fun H' w e c hc=>KE F (.of w) ht ((e (h.next+1) (by show h.next+1<H.next;omega)).trans gB) hc)
 have hms:=uO s t
 unfold jj at*
 generalize ve (nU t) s=z at*
 have ck:=cD hms.len
 have ckl:=bF hms.len
 have cko:=dB z
 have cks:(us z).length=8:=by rw[aI,hms.len]
 have ck0:=dB s0
 have ck0l:(us s0).length=8:=rfl
 refine y4 ?_;refine yV ?_;refine an (gK (by exact rfl) (by exact rfl)) ?_
 refine yC ?_
 refine FW.pu C ?_
 clear C
 refine yM ?_;refine yE ?_;refine yE ?_;refine an (dL) ?_
 refine an (dg (by exact rfl) (by exact rfl) (by(simp(disch:=first|omega|(simp only[z1,z2];omega))only[z3,z4,z5,z6,z7,z1,z2,gA,gB,gC];exact rfl)) (by assumption) (by assumption) (by exact dB _)) ?_;refine yM ?_
 refine y3 ?_;refine y4 ?_
 refine an (ct (by exact rfl) (by(simp(disch:=first|omega|(simp only[z1,z2];omega))only[z3,z4,z5,z6,z7,z1,z2,gA,gB,gC];exact rfl)) (by assumption) (by assumption)) ?_
 refine an (dg (by exact rfl) (by exact rfl) (by(simp(disch:=first|omega|(simp only[z1,z2];omega))only[z3,z4,z5,z6,z7,z1,z2,gA,gB,gC];exact rfl)) (by assumption) (by assumption) (by exact dB _)) ?_;refine y3 ?_;refine aG ?_
 refine aD ?_ (dJ (own:=true) (s:=1) (l:=us z) rfl ?_ ck ckl rfl) rfl
 ·rw[Heap.aN (by show h.next≤h.next+2;omega),Heap.aN (by first|omega|(show h.next≤H.next;omega))];exact hL
 ·(simp(disch:=first|omega|(simp only[z1,z2];omega))only[z3,z4,z5,z6,z7,z1,z2,gA,gB,gC];done)
def shP(p:Nat)(k:Int):Nat:=if 0≤k then Nat.mod (Nat.shiftLeft p k.toNat) 18446744073709551616 else Nat.shiftRight p (-k).toNat
theorem Ng{p:Nat}{k:Int}(hp:p<U64):shP p k<U64:=by
 unfold shP
 split
 ·exact Nat.mod_lt _ (by decide)
 ·exact Nat.lt_of_le_of_lt (Nat.shiftRight_le _ _) hp
def kQ(s:List Nat)(a:Nat)(z k:Int):Nat→List Nat
 |0=>s0
 |n+1=>(kQ s a z k n).set (((a+n:Nat):Int)+z).toNat (shP (s.getD (a+n) 0) k)
theorem qk{s:List Nat}(hs:IsS s)(a:Nat)(z k:Int):∀n,IsS (kQ s a z k n)
 |0=>Cz
 |n+1=>by
  have ih:=qk hs a z k n
  refine⟨by unfold kQ;rw[List.length_set];exact ih.len,fun x hx=> ?_⟩
  unfold kQ at hx
  rcases List.mem_or_eq_of_mem_set hx with h|h
  ·exact ih.lt x h
  ·rw[h];exact Ng (hs.om _)
def nA(s:List Nat)(b:Bx)(x y z:Int):List Nat:=kQ s b.lo.z.toNat z (8*y+x) (b.hi.z-b.lo.z+1).toNat
theorem Pj{p n:Nat}(hn:n<64):aA .shl (.int .u64 (p:Nat)) (.int .i64 (n:Nat))=some (.int .u64 ((Nat.mod (Nat.shiftLeft p n) 18446744073709551616:Nat):Int)):=by
 have e1:((n:Nat):Int)=Int.ofNat n:=rfl
 have e2:((p:Nat):Int)=Int.ofNat p:=rfl
 rw[e1,e2]
 have:aA .shl (.int .u64 (Int.ofNat p)) (.int .i64 (Int.ofNat n))=some (.int .u64 (.ofNat (Nat.mod (Nat.shiftLeft p (Nat.min n 64)) 18446744073709551616))):=rfl
 rw[this,show Nat.min n 64=n from Nat.min_eq_left (by omega)]
 rfl
def psL(s:List Nat)(b:Bx):List Value:=us s++bxL b
def psV(s:List Nat)(b:Bx):Value:= .agg (psL s b).toArray
theorem Cs{s:List Nat}{b:Bx}(hs:IsS s)(j:Nat):bH (psL s b) (8+j)=bH (bxL b) j:=by
 rw[cM,cM]
 unfold psL
 rw[List.getElem?_append_right (by rw[aI,hs.len];omega),aI,hs.len,Nat.add_sub_cancel_left]
theorem M1{s:List Nat}{b:Bx}(hs:IsS s){i:Nat}(hi:i<8):bH (psL s b) (0+0+i*1)=some (.int .u64 ((s.getD i 0:Nat):Int)):=by
 rw[cM,show 0+0+i*1=i by omega]
 unfold psL
 rw[List.getElem?_append_left (by rw[aI,hs.len];omega)]
 unfold us
 rw[List.getElem?_map,qg (by rw[hs.len];exact hi)];rfl
structure Lq (T:Nat→Option af):Prop where
 p:bt T
 f212:T 212=some f212
set_option maxHeartbeats 16000000 in
theorem Ds(F:Lq T){h:Heap}(hr:Rdy h){s:List Nat}(hs:IsS s){b:Bx}{x y z:Int}(hx: -7≤x∧x≤7)(hy: -7≤y∧y≤7)(hz: -7≤z∧z≤7)(hlo:0≤b.lo.z∧b.lo.z≤7)(hhi:0≤b.hi.z∧b.hi.z≤7)(hl:0≤b.lo.z+z)(hh:b.hi.z+z≤7):
 Pu T 212 [psV s b, .int .i64 x, .int .i64 y, .int .i64 z] h (sv (nA s b x y z)):=by
 refine .of F.p F.f212 hr (iI _) ?_
 unfold nA
 have hb:bxL b=[.int .i64 b.lo.x, .int .i64 b.lo.y, .int .i64 b.lo.z, .int .i64 b.hi.x, .int .i64 b.hi.y, .int .i64 b.hi.z]:=rfl
 have eA:bH (psL s b) (0+8+0+2)=some (.int .i64 b.lo.z):=by rw[show 0+8+0+2=8+2 by omega,Cs hs];rfl
 have eB:bH (psL s b) (0+8+3+2)=some (.int .i64 b.hi.z):=by rw[show 0+8+3+2=8+5 by omega,Cs hs];rfl
 obtain⟨a,ha⟩:=Int.eq_ofNat_of_zero_le hlo.1
 obtain⟨c,hc⟩:=Int.eq_ofNat_of_zero_le hhi.1
 rw[ha]at eA hlo hl
 rw[hc]at eB hhi hh
 have eP:=fun i hi=>M1 (s:=s) (b:=b) hs (i:=i) hi
 have hcells:cellsOf (psV s b)=psL s b:=by show(psL s b).toArray.toList=_;simp
 have x0:Ext h (((h.push (.cells (cellsOf (psV s b)) true 1)).push (.cells (aT 8 (.int .u64 0)) true 1)).push (.cells (aT 8 (.int .u64 0)) true 1)):=(((Ext.refl h).push _).push _).push _
 have gA:(((h.push (.cells (cellsOf (psV s b)) true 1)).push (.cells (aT 8 (.int .u64 0)) true 1)).push (.cells (aT 8 (.int .u64 0)) true 1)).get h.next=some (.cells (psL s b) true 1):=by rw[hcells];(simp(disch:=first|omega|(simp only[z1,z2];omega))only[z3,z4,z5,z6,z7,z1,z2];done)
 have gB:(((h.push (.cells (cellsOf (psV s b)) true 1)).push (.cells (aT 8 (.int .u64 0)) true 1)).push (.cells (aT 8 (.int .u64 0)) true 1)).get (h.next+1)=some (.cells (us s0) true 1):=by(simp(disch:=first|omega|(simp only[z1,z2];omega)|(simp only[z1,z2];done)|fail)only[z8,z4,z5,z9,z7,z1,z2,gA];exact rfl)
 have gC:(((h.push (.cells (cellsOf (psV s b)) true 1)).push (.cells (aT 8 (.int .u64 0)) true 1)).push (.cells (aT 8 (.int .u64 0)) true 1)).get (h.next+2)=some (.cells (us s0) true 1):=by(simp(disch:=first|omega|(simp only[z1,z2];omega)|(simp only[z1,z2];done)|fail)only[z8,z4,z5,z9,z7,z1,z2,gA,gB];exact rfl)
 have n0:(((h.push (.cells (cellsOf (psV s b)) true 1)).push (.cells (aT 8 (.int .u64 0)) true 1)).push (.cells (aT 8 (.int .u64 0)) true 1)).next=h.next+3:=rfl
 refine y4 ?_;refine yB ?_;refine an (dL) ?_;refine y3 ?_;refine y4 ?_;refine an (dL) ?_;refine y3 ?_
 generalize(((h.push (.cells (cellsOf (psV s b)) true 1)).push (.cells (aT 8 (.int .u64 0)) true 1)).push (.cells (aT 8 (.int .u64 0)) true 1))=H at*
 have hL:=x0.log.trans hr.log
 rw[ha,hc]
 have m1:aA .mul (.int .i64 8) (.int .i64 y)=some (.int .i64 (8*y)):=Gc (by omega) (by omega)
 have m2:aA .add (.int .i64 (8*y)) (.int .i64 x)=some (.int .i64 (8*y+x)):=nE (cQ (by omega) (by omega))
 refine ah ?_;refine y4 ?_;refine yF ?_;refine yF ?_;refine yF ?_;refine an (bO (by exact rfl) (by assumption) (by assumption)) ?_;refine yM ?_;refine y3 ?_;refine aK ?_
 refine dG (fun m e ds h'=>∃n:Nat,(a+n≤c+1∨n=0)∧8-n=m∧e=[(1, .int .i64 x),(2, .int .i64 y),(3, .int .i64 z),(4, .pointer (some ⟨h.next,0,none⟩)),(8, .pointer (some ⟨h.next+1,0,none⟩)),(9, .pointer (some ⟨h.next+2,0,none⟩)),(10, .int .i64 ((a+n:Nat):Int))]∧ds=[]∧Ext h h'∧h'.get h.next=some (.cells (psL s b) true 1)∧h'.get (h.next+1)=some (.cells (us s0) true 1)∧h'.get (h.next+2)=some (.cells (us (kQ s a z (8*y+x) n)) true 1))
  ⟨0, .inr rfl,rfl,rfl,rfl,x0,gA,gB,gC⟩ ?_
 rintro m e ds h' ⟨n,hn,rfl,rfl,rfl,xx,g1,g2,g3⟩
 have hso:=qk hs a z (8*y+x) n
 by_cases hlt:a+n≤c
 ·have m3:aA .leq (.int .i64 ((a+n:Nat):Int)) (.int .i64 (c:Nat))=some (.bool true):=gU (by omega)
  obtain⟨w,hw⟩:=Int.eq_ofNat_of_zero_le (show 0≤((a+n:Nat):Int)+z by omega)
  have hw8:w<8:=by omega
  have m4:aA .add (.int .i64 ((a+n:Nat):Int)) (.int .i64 z)=some (.int .i64 ((w:Nat):Int)):=nE (by rw[cQ (by omega) (by omega)];omega)
  have e1:=eP (a+n) (by omega)
  have hstep:kQ s a z (8*y+x) (n+1)=(kQ s a z (8*y+x) n).set w (shP (s.getD (a+n) 0) (8*y+x)):=by
   rw[kQ,hw];rfl
  have hnx:=xx.next
  by_cases hk:0≤8*y+x
  ·obtain⟨k,hk2⟩:=Int.eq_ofNat_of_zero_le hk
   have hk3:k<64:=by omega
   rw[hk2]at m2 hstep hso g3⊢
   have m5:aA .geq (.int .i64 ((k:Nat):Int)) (.int .i64 0)=some (.bool true):=xk (by omega)
   have m6:=Pj (p:=s.getD (a+n) 0) hk3
   have hsh:shP (s.getD (a+n) 0) ((k:Nat):Int)=Nat.mod (Nat.shiftLeft (s.getD (a+n) 0) k) 18446744073709551616:=by
    unfold shP
    rw[if_pos (by omega)];rfl
   rw[←hsh]at m6
   have kw:=BF (o:=kQ s a z ((k:Nat):Int) n) (z:=w) (v:=shP (s.getD (a+n) 0) ((k:Nat):Int)) (by rw[hso.len];exact hw8)
   rw[←hstep]at kw
   have kc:(Nat.beq (bZ (cellsOf (.int .u64 ((shP (s.getD (a+n) 0) ((k:Nat):Int):Nat):Int)))) 1&&Nat.ble (0+w*1+1) (bZ (us (kQ s a z ((k:Nat):Int) n)))&&dR (cellsOf (.int .u64 ((shP (s.getD (a+n) 0) ((k:Nat):Int):Nat):Int))))=true:=by
    rw[bQ (us _),aI,hso.len,ij (by omega)];rfl
   have hn8:n<8:=by omega
   refine ah ?_;refine y4 ?_;refine yM ?_;refine yF ?_;refine yF ?_;refine yF ?_;refine an (bO (by exact rfl) (by assumption) (by assumption)) ?_;refine yW ?_
   refine y3 ?_;refine yY ?_;refine aH ?_;refine aV ?_;refine ah ?_;refine aK ?_;refine y4 ?_;refine yM ?_
   refine yW ?_;refine yM ?_;refine yW ?_;refine yM ?_;refine y3 ?_
   refine y4 ?_;refine yM ?_;refine yW ?_;refine y3 ?_;refine yY ?_;refine aJ ?_;refine yM ?_
   refine yM ?_;refine yW ?_;refine yM ?_;refine yF ?_;refine an (eY (by exact rfl) (by exact rfl) (by omega)) ?_;refine an (bO (by exact rfl) (by assumption) (by assumption)) ?_;refine yM ?_
   refine yW ?_;refine an (eY (by exact rfl) (by exact rfl) (by omega)) ?_
   refine an (ja (by exact rfl) (by exact rfl) g3 kc kw) ?_
   refine dN ?_;refine y1 ?_;refine ff ?_;refine aV ?_;refine aJ ?_;refine yM ?_;refine ia ?_;refine yM ?_;refine y3 ?_
   exact⟨8-(n+1),by omega,n+1, .inl (by omega),rfl,rfl,rfl,⟨xx.next,(Heap.aN (by omega)).trans xx.log,fun b hb=>(z5 (by omega)).trans (xx.old b hb),fun w=>(xx.wf w).as (AS.wr h.next _ _ _)⟩,(z5 (by omega)).trans g1,(z5 (by omega)).trans g2,Heap.bB g3⟩
  ·obtain⟨k,hk2⟩:=Int.eq_ofNat_of_zero_le (show 0≤ -(8*y+x)by omega)
   have hk3:k<64:=by omega
   have m5:aA .geq (.int .i64 (8*y+x)) (.int .i64 0)=some (.bool false):=AQ (by omega)
   have m7:uR .neg (.int .i64 (8*y+x))=some (.int .i64 ((k:Nat):Int)):=by
    show some (Value.int .i64 (fM .i64 (0-(8*y+x))))=_
    rw[cQ (by omega) (by omega)]
    congr 2;omega
   have m6:aA .shr (.int .u64 ((s.getD (a+n) 0:Nat):Int)) (.int .i64 ((k:Nat):Int))=_:=rZ (a:=s.getD (a+n) 0) (n:=k) (by omega)
   have hsh:shP (s.getD (a+n) 0) (8*y+x)=Nat.shiftRight (s.getD (a+n) 0) k:=by
    unfold shP
    rw[if_neg hk,show(-(8*y+x)).toNat=k by omega]
   rw[←hsh]at m6
   have kw:=BF (o:=kQ s a z (8*y+x) n) (z:=w) (v:=shP (s.getD (a+n) 0) (8*y+x)) (by rw[hso.len];exact hw8)
   rw[←hstep]at kw
   have kc:(Nat.beq (bZ (cellsOf (.int .u64 ((shP (s.getD (a+n) 0) (8*y+x):Nat):Int)))) 1&&Nat.ble (0+w*1+1) (bZ (us (kQ s a z (8*y+x) n)))&&dR (cellsOf (.int .u64 ((shP (s.getD (a+n) 0) (8*y+x):Nat):Int))))=true:=by
    rw[bQ (us _),aI,hso.len,ij (by omega)];rfl
   have hn8:n<8:=by omega
   refine ah ?_;refine y4 ?_;refine yM ?_;refine yF ?_;refine yF ?_;refine yF ?_;refine an (bO (by exact rfl) (by assumption) (by assumption)) ?_;refine yW ?_
   refine y3 ?_;refine yY ?_;refine aH ?_;refine aV ?_;refine ah ?_;refine aK ?_;refine y4 ?_;refine yM ?_
   refine yW ?_;refine yM ?_;refine yW ?_;refine yM ?_;refine y3 ?_
   refine y4 ?_;refine yM ?_;refine yW ?_;refine y3 ?_;refine yX ?_;refine aJ ?_;refine yM ?_
   refine yM ?_;refine yW ?_;refine yM ?_;refine yF ?_;refine an (eY (by exact rfl) (by exact rfl) (by omega)) ?_;refine an (bO (by exact rfl) (by assumption) (by assumption)) ?_;refine yM ?_
   refine an (NW (by exact rfl) (by assumption)) ?_;refine yW ?_;refine an (eY (by exact rfl) (by exact rfl) (by omega)) ?_
   refine an (ja (by exact rfl) (by exact rfl) g3 kc kw) ?_
   refine dN ?_;refine y1 ?_;refine ff ?_;refine aV ?_;refine aJ ?_;refine yM ?_;refine ia ?_;refine yM ?_;refine y3 ?_
   exact⟨8-(n+1),by omega,n+1, .inl (by omega),rfl,rfl,rfl,⟨xx.next,(Heap.aN (by omega)).trans xx.log,fun b hb=>(z5 (by omega)).trans (xx.old b hb),fun w=>(xx.wf w).as (AS.wr h.next _ _ _)⟩,(z5 (by omega)).trans g1,(z5 (by omega)).trans g2,Heap.bB g3⟩
 ·have m3:aA .leq (.int .i64 ((a+n:Nat):Int)) (.int .i64 (c:Nat))=some (.bool false):=fO (by omega)
  rw[show((a:Nat):Int).toNat=a by omega,show(((c:Nat):Int)-((a:Nat):Int)+1).toNat=n by omega]
  generalize kQ s a z (8*y+x) n=o at*
  have ck:=cD hso.len
  have ckl:=bF hso.len
  have cko:=dB o
  have cks:(us o).length=8:=by rw[aI,hso.len]
  have ck0l:(us s0).length=8:=rfl
  refine ah ?_;refine y4 ?_;refine yM ?_;refine yF ?_;refine yF ?_;refine yF ?_;refine an (bO (by exact rfl) (by assumption) (by assumption)) ?_;refine yW ?_
  refine y3 ?_;refine yX ?_;refine dw ?_;refine dQ ?_;refine dQ ?_;refine iN ?_;refine aV ?_;refine y4 ?_;refine yV ?_
  refine an (dg (by exact rfl) (by exact rfl) (by assumption) (by assumption) (by assumption) (by exact dB _)) ?_;refine y3 ?_;refine aG ?_
  refine aD ?_ (dJ (own:=true) (s:=1) (l:=us o) rfl ?_ ck ckl rfl) rfl
  ·rw[Heap.aN (by show h.next≤h.next+1;omega)];exact xx.log.trans hr.log
  ·(simp(disch:=first|omega|(simp only[z1,z2];omega))only[z3,z4,z5,z6,z7,z1,z2,gA,gB,gC,g1,g2,g3];done)
structure Li (T:Nat→Option af):Prop where
 p:bt T
 f188:T 188=some f188
 f254:T 254=some f254
def jw(s:List Nat):Nat:=(cw s 512).length
set_option maxHeartbeats 4000000 in
theorem qc(F:Li T){h:Heap}(hr:Rdy h){s:List Nat}(hs:IsS s):Pu T 188 [sv s] h (.int .i64 ((jw s:Nat):Int)):=by
 refine .of F.p F.f188 hr rfl ?_
 have k8:=bF hs.len
 have k9:=cD hs.len
 have W:=hr.wf.push (.cells (cellsOf (sv s)) true 1)
 have hl5:=kz s 512
 unfold jw
 refine y4 ?_;refine yB ?_;refine yM ?_;refine y3 ?_;refine y4 ?_;refine yM ?_;refine y3 ?_;refine ah ?_;refine y4 ?_
 refine an (ct (by exact rfl) (by(simp(disch:=first|omega|(simp only[z1,z2];omega))only[z3,z4,z5,z6,z7,z1,z2];exact rfl)) (by assumption) (by assumption)) ?_;refine yM ?_;refine y3 ?_;refine aK ?_
 refine dG (fun m e ds h'=>∃z:Nat,z≤8∧8-z=m∧e=[(3, .int .i64 (((cw s (z*64)).length:Nat):Int)),(6,sv s),(7, .int .i64 (z:Nat))]∧ds=[]∧h.push (.cells (cellsOf (sv s)) true 1)=h')
  ⟨0,by omega,rfl,rfl,rfl,rfl⟩ ?_
 rintro m e ds h' ⟨z,hz8,rfl,rfl,rfl,rfl⟩
 by_cases hz:z<8
 ·have e1:bH (us s).toArray.toList (z*1)=some (.int .u64 ((s.getD z 0:Nat):Int)):=by
   rw[List.toList_toArray,Nat.mul_one,cM]
   unfold us
   rw[List.getElem?_map,qg (by rw[hs.len];exact hz)];rfl
  have C:=J1 F.p F.f254 (.of W) (hs.om z)
  have hplane:=kZ s hz
  have hle:=kz s (z*64)
  have hpl:(pE s z).length=(bitsOf (s.getD z 0)).length:=by unfold pE;rw[List.length_map]
  have hb64:(bitsOf (s.getD z 0)).length≤64:=by
   unfold bitsOf
   exact Nat.le_trans (List.length_filter_le ..) (by simp)
  have m1:aA .add (.int .i64 (((cw s (z*64)).length:Nat):Int)) (.int .i64 (((bitsOf (s.getD z 0)).length:Nat):Int))=some (.int .i64 (((cw s ((z+1)*64)).length:Nat):Int)):=by
   rw[hplane,List.length_append,hpl]
   exact nE (by rw[cQ (by omega) (by omega)];omega)
  generalize(bitsOf (s.getD z 0)).length=c3 at*
  refine y4 ?_;refine yt ?_;refine y3 ?_;refine ah ?_;refine yY ?_;refine aH ?_;refine aV ?_;refine ah ?_;refine aK ?_;refine y4 ?_;refine an (EI (by exact rfl) (by exact rfl) (by omega) (by assumption)) ?_;refine yM ?_;refine y3 ?_;refine aJ ?_;refine yM ?_;refine yM ?_
  refine yC ?_
  refine FW.pu C ?_
  clear C
  refine yW ?_;refine yM ?_;refine dN ?_;refine y1 ?_;refine ff ?_;refine aV ?_;refine aJ ?_;refine ia ?_
  refine yM ?_;refine y3 ?_
  exact⟨8-(z+1),by omega,z+1,by omega,rfl,rfl,rfl,rfl⟩
 ·obtain rfl:z=8:=by omega
  rw[show 8*64=512 from rfl]
  generalize(cw s 512).length=c at*
  refine y4 ?_;refine yf ?_;refine y3 ?_;refine ah ?_;refine yX ?_;refine dw ?_;refine dQ ?_;refine dQ ?_;refine iN ?_;refine aV ?_
  refine y4 ?_;refine yM ?_;refine yM ?_;refine y3 ?_;refine aG ?_
  exact aD hr.log rfl rfl
structure Fi where
 t:Nat
 x:Int
 y:Int
 z:Int
 s:List Nat
def moV(t x y z:Int):Value:= .agg #[.int .i64 t, .int .i64 x, .int .i64 y, .int .i64 z]
def fiV(f:Fi):List Value:=[moV f.t f.x f.y f.z,sv f.s]
def zrN(lo:Int)(n:Nat):List Int:=(List.range n).map fun i=>lo+(i:Nat)
theorem I7(lo:Int)(n:Nat):zrN lo (n+1)=zrN lo n++[lo+(n:Nat)]:=by unfold zrN;rw[List.range_succ,List.map_append];rfl
def zr(lo hi:Int):List Int:=zrN lo (hi-lo+1).toNat
def vh(a p:List Nat)(bp:Bx)(t:Nat)(z y x:Int):List Fi:=if sIn (nA p bp x y z) a then [⟨t,x,y,z,nA p bp x y z⟩]else []
def tL(a p:List Nat)(ra bp:Bx)(t:Nat)(z y:Int):List Fi:=(zr (ra.lo.x-bp.lo.x) (ra.hi.x-bp.hi.x)).flatMap (vh a p bp t z y)
def wN(a p:List Nat)(ra bp:Bx)(t:Nat)(z:Int):List Fi:=(zr (ra.lo.y-bp.lo.y) (ra.hi.y-bp.hi.y)).flatMap (tL a p ra bp t z)
def Jt(a p:List Nat)(ra bp:Bx)(t:Nat):List Fi:=(zr (ra.lo.z-bp.lo.z) (ra.hi.z-bp.hi.z)).flatMap (wN a p ra bp t)
def oU(a b:List Nat)(t:Nat):List Fi:=Jt a (jj b t) (jm a).1 (jm (jj b t)).1 t
def jP(a b:List Nat):List Fi:=if a=s0∨jw a<jw b then []else(List.range 24).flatMap (oU a b)
structure As (b:Bx):Prop where
 lo:InB b.lo
 hi:InB b.hi
theorem Gh{a b:Int}(ha:0≤a∧a≤7)(hb:0≤b∧b≤7):0≤mi a b∧mi a b≤7:=by unfold mi;split<;>assumption
theorem Gk{a b:Int}(ha:0≤a∧a≤7)(hb:0≤b∧b≤7):0≤mx a b∧mx a b≤7:=by unfold mx;split<;>assumption
theorem As.up{b:Bx}(h:As b){c:Ce}(hc:InB c):As (CX b c):=
 ⟨⟨Gh h.lo.x hc.x,Gh h.lo.y hc.y,Gh h.lo.z hc.z⟩,⟨Gk h.hi.x hc.x,Gk h.hi.y hc.y,Gk h.hi.z hc.z⟩⟩
theorem L8:∀{l:List Ce},(∀c∈l,InB c)→As (bxS l):=by
 intro l
 have:∀(l:List Ce) (b:Bx),As b→(∀c∈l,InB c)→As (l.foldl CX b):=by
  intro l
  induction l with
  |nil=>intro b hb _;exact hb
  |cons c l ih=>intro b hb hl;exact ih _ (hb.up (hl c List.mem_cons_self)) fun x hx=>hl x (List.mem_cons_of_mem _ hx)
 exact fun hl=>this l bx0 ⟨⟨by decide,by decide,by decide⟩,⟨by decide,by decide,by decide⟩⟩ hl
theorem sK(s:List Nat):As (jm s).1:=by
 unfold jm
 split
 ·exact⟨⟨by decide,by decide,by decide⟩,⟨by decide,by decide,by decide⟩⟩
 ·exact L8 fun c hc=>sQ.1 (qY hc)
structure Lm (T:Nat→Option af):Prop where
 mp:yw T
 bd:Lh T
 li:Lq T
 co:Li T
 f35:T 35=some f35
 f121:T 121=some f121
 f209:T 209=some f209
def sG:Bx:=⟨c0,c0⟩
theorem Jq{h:Heap}{e:Env}{x:Operand}{s:List Nat}(hs:IsS s)(hx:ev h e x=some (sv s)):iF h e [.int .u64 0, .int .u64 0, .int .u64 0, .int .u64 0, .int .u64 0, .int .u64 0, .int .u64 0, .int .u64 0,I.O,I.O,I.O,I.O,I.O,I.O] [(0,8,x)]=some (psL s sG):=by
 have e1:cellsOf (sv s)=us s:=by show(us s).toArray.toList=_;simp
 have h0:psL s0 sG=[.int .u64 0, .int .u64 0, .int .u64 0, .int .u64 0, .int .u64 0, .int .u64 0, .int .u64 0, .int .u64 0,I.O,I.O,I.O,I.O,I.O,I.O]:=rfl
 have e2:cO (psL s0 sG) 0 (us s)=psL s sG:=by
  rw[eX (by rw[aI,hs.len];decide),aI,hs.len,List.take_zero]
  rfl
 have e3:bZ (us s)=8:=by rw[bQ,aI,hs.len]
 rw[←h0]
 have e4:(Nat.beq 8 8&&Nat.ble (0+8) (bZ (psL s0 sG)))=true:=rfl
 simp only[iF,hx,e1,e2,e3];rfl
theorem xI{s:List Nat}{b:Bx}(hs:IsS s):(psL s b).length=14:=by
 unfold psL
 rw[List.length_append,aI,hs.len];rfl
theorem Kh{s:List Nat}{b:Bx}(hs:IsS s):cH 14 (bW 0 (psL s b))=psL s b:=by rw[cG,bD,List.drop_zero,List.take_of_length_le (by rw[xI hs];omega)]
theorem Hu{s:List Nat}{b:Bx}(hs:IsS s):Nat.beq (bZ (psL s b)) 14=true:=by rw[bQ,xI hs];rfl
theorem Hv{s:List Nat}{b:Bx}:dR (psL s b)=true:=kH (dB _) rfl
theorem Px{s:List Nat}{b:Bx}(hs:IsS s):cH 8 (bW (0+0) (psL s b))=us s:=by
 rw[cG,bD,Nat.zero_add,List.drop_zero]
 unfold psL
 rw[List.take_append_of_le_length (by rw[aI,hs.len];omega),List.take_of_length_le (by rw[aI,hs.len];omega)]
theorem M3{s:List Nat}{b b':Bx}(hs:IsS s):cO (psL s b) (0+8) (cellsOf (bxV b'))=psL s b':=by
 show cO (psL s b) 8 (bxL b')=_
 unfold psL
 rw[eX (by rw[List.length_append,aI,hs.len];exact Nat.le_refl _),List.take_append_of_le_length (by rw[aI,hs.len];omega),List.take_of_length_le (by rw[aI,hs.len];omega),List.drop_of_length_le (by rw[List.length_append,aI,hs.len];exact Nat.le_refl _)]
 simp
theorem M0{s:List Nat}{b:Bx}(hs:IsS s):cH 3 (bW (0+8+0) (psL s b))=ceL b.lo:=by
 rw[cG,bD]
 unfold psL
 rw[show 0+8+0=(us s).length by rw[aI,hs.len],List.drop_left];rfl
theorem MZ{s:List Nat}{b:Bx}(hs:IsS s):cH 3 (bW (0+8+3) (psL s b))=ceL b.hi:=by
 rw[cG,bD]
 unfold psL
 rw[List.drop_append,aI,hs.len,List.drop_of_length_le (by rw[aI,hs.len];omega)];rfl
structure FxK (P:List Fi→Heap→Prop) (lo:Nat) (h0:Heap) (q:Nat) (rm bp:Bx) (p:List Nat) (D:List Fi) (g:Heap):Prop where
 k:Lk lo h0 g
 pd:P D g
 nx:q+2<g.next
 g4:g.get h0.next=some (.cells (bxL rm) true 1)
 g7:g.get q=some (.cells (psL p bp) true 1)
 g8:g.get (q+1)=some (.cells (ceL bp.lo) true 1)
 g9:g.get (q+2)=some (.cells (ceL bp.hi) true 1)
theorem BL{lo hi z:Int}{n:Nat}(h:z=lo+(n:Nat))(hz:z≤hi):z∈zr lo hi:=List.mem_map.2 ⟨n,List.mem_range.2 (by omega),h.symm⟩
theorem uY{α:Type}(lo:Int)(n:Nat)(f:Int→List α){z:Int}(h:z=lo+(n:Nat)):(zrN lo (n+1)).flatMap f=(zrN lo n).flatMap f++f z:=by
 rw[I7,List.flatMap_append,h];simp
theorem xV{lo hi:Int}{n:Nat}(h1:n=0∨lo+(n:Nat)≤hi+1)(h2:hi<lo+(n:Nat)):n=(hi-lo+1).toNat:=by omega
end Go.A.Pk
end
section
set_option maxRecDepth 100000
namespace Go.A.Pk
variable {T:Nat→Option af}
structure FxL (P:List Fi→Heap→Prop) (W:Heap→Nat→Prop) (lo:Nat) (h0:Heap) (q0 q:Nat) (rm bp:Bx) (p:List Nat) (D:List Fi) (g:Heap):Prop where
 k:Lk lo h0 g
 pd:P D g
 dm:((∀x,x<h0.next→g.get x=h0.get x)∧P D h0)∨q0∈g.log∧kj g q0
 nx:q+2<g.next
 g4:g.get h0.next=some (.cells (bxL rm) true 1)
 g7:g.get q=some (.cells (psL p bp) true 1)
 g8:g.get (q+1)=some (.cells (ceL bp.lo) true 1)
 g9:g.get (q+2)=some (.cells (ceL bp.hi) true 1)
 w4:¬W g h0.next
 w7:¬W g q
 w8:¬W g (q+1)
 w9:¬W g (q+2)
theorem Fp{P:List Fi→Heap→Prop}{h0:Heap}{q0:Nat}{D:List Fi}{g g':Heap}(hq0:q0<h0.next)(hn:h0.next≤g.next)(dm:((∀x,x<h0.next→g.get x=h0.get x)∧P D h0)∨q0∈g.log∧kj g q0)(x:Ext g g'):((∀x,x<h0.next→g'.get x=h0.get x)∧P D h0)∨q0∈g'.log∧kj g' q0:=by
 rcases dm with⟨a,b⟩|⟨a,vs,own,t,b,c⟩
 ·exact .inl ⟨fun z hz=>(x.old z (by omega)).trans (a z hz),b⟩
 ·exact .inr ⟨by rw[x.log];exact a,vs,own,t,(x.old _ (by omega)).trans b,c⟩
section
variable {lo N l q0:Nat} {all:List Fi} {P:List Fi→Heap→Prop} {W:Heap→Nat→Prop} {h0:Heap} {q:Nat} {rm bp:Bx} {p:List Nat} {D D':List Fi} {g g':Heap}
theorem FxL.ext(Y:CR T lo N l q0 fiV all P W)(f:FxL P W lo h0 q0 q rm bp p D g)(x:Ext g g')(hlo:lo≤g.next)(hq0:q0<h0.next)(hq:h0.next<q):FxL P W lo h0 q0 q rm bp p D g':=by
 have h1:=x.next
 have h2:=f.nx
 have hw:∀z,¬W g z→¬W g' z:=fun z hz q=>hz (Y.wst _ _ _ f.pd h1 x.old z q)
 exact⟨f.k.trans (x.lk hlo),Y.fF _ _ _ f.pd h1 x.old,Fp hq0 f.k.next f.dm x,by omega,(x.old _ (by omega)).trans f.g4,(x.old _ (by omega)).trans f.g7,(x.old _ (by omega)).trans f.g8,(x.old _ (by omega)).trans f.g9,hw _ f.w4,hw _ f.w7,hw _ f.w8,hw _ f.w9⟩
theorem FxL.step(f:FxL P W lo h0 q0 q rm bp p D g)(x:Lk lo g g')(hd:q0∈g'.log∧kj g' q0)(hP:P D' g')(hk:∀z,z<g.next→¬W g z→g'.get z=g.get z)(hw:∀z,W g' z→W g z∨g.next≤z)(hq:h0.next<q):FxL P W lo h0 q0 q rm bp p D' g':=by
 have h1:=x.next
 have h2:=f.nx
 have hw':∀z,z<g.next→¬W g z→¬W g' z:=fun z hz hn q=>(hw z q).elim hn fun q=>by omega
 exact⟨f.k.trans x,hP, .inr hd,by omega,(hk _ (by omega) f.w4).trans f.g4,(hk _ (by omega) f.w7).trans f.g7,(hk _ (by omega) f.w8).trans f.g8,(hk _ (by omega) f.w9).trans f.g9,hw' _ (by omega) f.w4,hw' _ (by omega) f.w7,hw' _ (by omega) f.w8,hw' _ (by omega) f.w9⟩
end
theorem Dc{α:Type}{D:List Fi}{L:List α}{n:Nat}(h:D.length≤n){f:Fi}:(D++[f]).length≤n+1:=by rw[List.length_append];exact Nat.succ_le_succ h
set_option maxHeartbeats 32000000 in
theorem FA(F:Lm T){h:Heap}(hr:Rdy h){qa qb l q0 N lo:Nat}{a b:List Nat}(ha:IsS a)(hb:IsS b){P:List Fi→Heap→Prop}{W:Heap→Nat→Prop}(hN:N≤h.next)(hlo:lo≤h.next)(h2N:2<N)
 (Y:CR T lo N l q0 fiV (jP a b) P W)
 (ga:∀d H,P d H→H.get qa=some (.cells (us a) true 1))(gb:∀d H,P d H→H.get qb=some (.cells (us b) true 1))(htab:∀d H,P d H→Tab H)(h0:P [] h):
 Gr T 209 [.func (.yield l) #[] #[], .pointer (some ⟨qa,0,none⟩), .pointer (some ⟨qb,0,none⟩)] h lo fun v h'=>v= .tuple #[]∧P (jP a b) h':=by
 have hp:=F.li.p
 have ka8:=bF ha.len
 have ka9:=cD ha.len
 have kb8:=bF hb.len
 have kb9:=cD hb.len
 have hq0:q0<h.next:=Nat.lt_of_lt_of_le Y.hq hN
 refine Gr.ofK hp F.f209 hlo (fun v h1 hA p=>FQ Y hq0 hA p) ?_
 have C0:=vw F.bd (h:={h with log:=[]}) (.of hr.wf) (show Tab h from htab _ _ h0) (by show 2<h.next;omega) ha
 have gA:=ga _ _ h0
 unfold L7 at C0
 have hsome:(jm a).2= !decide (a=s0):=by
  unfold jm
  by_cases he:a=s0
  ·rw[if_pos he,decide_eq_true he];rfl
  ·rw[if_neg he,decide_eq_false he];rfl
 have hrm:=sK a
 have hft:∀t,oU a b t=Jt a (jj b t) (jm a).1 (jm (jj b t)).1 t:=fun _=>rfl
 rw[hsome]at C0
 generalize(jm a).1=rm at*
 refine fB (E0:=[(0, .func (.yield l) #[] #[]),(1, .pointer (some ⟨qa,0,none⟩)),(2, .pointer (some ⟨qb,0,none⟩)),(4, .pointer (some ⟨h.next,0,none⟩)),(5, .bool (!decide (a=s0)))]) (P:=fun h'=>Ext h h'∧h'.next=h.next+1∧h'.get h.next=some (.cells (bxL rm) true 1)) ?_ ?_
 ·refine aJ ?_;refine yV ?_
  refine yC ?_
  refine FW.pu C0 ?_
  refine yM ?_;refine yE ?_;refine yE ?_;refine an (dL) ?_
  refine yS ?_;refine yM ?_;refine dN ?_
  refine y1 ?_
  exact⟨rfl,rfl,rfl,iC (by omega) _ _,rfl,jB _ _⟩
 clear C0
 rintro H1 ⟨x1,n1,q1⟩
 have W1:=x1.wf hr.wf
 have hL1:=x1.log.trans hr.log
 have hk1:Lk lo h H1:=⟨x1.next,fun hh=>by rw[hL1];exact eF.nil _,fun z hz=>x1.old z (by omega),x1.wf⟩
 have hP1:P [] H1:=Y.fF _ _ _ h0 x1.next x1.old
 have hdm1:((∀x,x<h.next→H1.get x=h.get x)∧P [] h)∨q0∈H1.log∧kj H1 q0:= .inl ⟨x1.old,h0⟩
 have hw1:¬W H1 h.next:=fun q=>Nat.lt_irrefl _ (Y.wlt _ _ _ h0 (Y.wst _ _ _ h0 x1.next x1.old _ q))
 have gA1:=ga _ _ hP1
 have gB1:=gb _ _ hP1
 clear gA
 by_cases he:a=s0
 ·have hf:jP a b=[]:=if_pos (.inl he)
  rw[hf,decide_eq_true he]
  refine ah ?_;refine ah ?_;refine cV ?_;refine qM ?_;refine aM rfl rfl rfl (by exact rfl) (by exact rfl) (by exact rfl) (BU (by exact rfl)) ?_;refine qM ?_;refine qO ?_
  refine qO ?_;refine qO ?_;refine qO ?_;refine qO ?_;refine aM rfl rfl rfl (by exact rfl) (by exact rfl) (by exact rfl) (pX (by exact rfl) (by exact rfl)) ?_;refine dy ?_
  refine y1 ?_;refine aV ?_;refine yY ?_;refine aG ?_;refine eW ?_
  exact zb (hk1.log (by rw[hr.log];exact eF.nil _)) rfl ⟨rfl,hP1,hdm1⟩
 rw[decide_eq_false he]
 have C1:=qc F.co (h:={H1 with log:=[]}) (.of W1) hb
 have C2:=qc F.co (h:={H1 with log:=[]}) (.of W1) ha
 by_cases hcn:jw a<jw b
 ·have hf:jP a b=[]:=if_pos (.inr hcn)
  rw[hf]
  have m1:aA .gtr (.int .i64 ((jw b:Nat):Int)) (.int .i64 ((jw a:Nat):Int))=some (.bool true):=gX (by omega)
  refine ah ?_;refine ah ?_;refine cV ?_;refine qM ?_;refine aM rfl rfl rfl (by exact rfl) (by exact rfl) (by exact rfl) (BU (by exact rfl)) ?_;refine qM ?_
  refine qV ?_;refine qV ?_
  refine qC ?_
  refine FW.puD C1 (by apply aB rfl (aq rfl (ct (by exact rfl) (by assumption) (by assumption) (by assumption)) (by exact qA _)) rfl;(repeat apply aP rfl);exact cC) ?_
  skip
  refine qC ?_
  refine FW.puD C2 (by apply aP rfl;exact cC) ?_
  refine qW ?_;refine aM rfl rfl rfl (by exact rfl) (by exact rfl) (by exact rfl) (nY (by exact rfl) (by exact rfl)) ?_;refine dy ?_;refine y1 ?_;refine aV ?_
  refine yY ?_;refine aG ?_;refine eW ?_
  exact zb (hk1.log (by rw[hr.log];exact eF.nil _)) rfl ⟨rfl,hP1,hdm1⟩
 have hf:jP a b=(List.range 24).flatMap (oU a b):=if_neg (fun q=>q.elim he hcn)
 have m1:aA .gtr (.int .i64 ((jw b:Nat):Int)) (.int .i64 ((jw a:Nat):Int))=some (.bool false):=jV (by omega)
 refine ah ?_;refine ah ?_;refine cV ?_;refine qM ?_;refine aM rfl rfl rfl (by exact rfl) (by exact rfl) (by exact rfl) (BU (by exact rfl)) ?_;refine qM ?_
 refine qV ?_;refine qV ?_
 refine qC ?_
 refine FW.puD C1 (by apply aB rfl (aq rfl (ct (by exact rfl) (by assumption) (by assumption) (by assumption)) (by exact qA _)) rfl;(repeat apply aP rfl);exact cC) ?_
 skip
 refine qC ?_
 refine FW.puD C2 (by apply aP rfl;exact cC) ?_
 clear C1 C2
 refine qW ?_;refine aM rfl rfl rfl (by exact rfl) (by exact rfl) (by exact rfl) (nY (by exact rfl) (by exact rfl)) ?_;refine dy ?_;refine y1 ?_;refine aV ?_
 refine yX ?_;refine aH ?_;refine aV ?_;refine y4 ?_;refine yM ?_;refine y3 ?_;refine aK ?_
 refine dG (fun k e ds h'=>∃t:Nat,t≤24∧24-t=k∧e=[(0, .func (.yield l) #[] #[]),(1, .pointer (some ⟨qa,0,none⟩)),(2, .pointer (some ⟨qb,0,none⟩)),(4, .pointer (some ⟨h.next,0,none⟩)),(28, .int .i64 (t:Nat))]∧ds=[]∧Lk lo h h'∧P ((List.range t).flatMap (oU a b)) h'∧h.next<h'.next∧h'.get h.next=some (.cells (bxL rm) true 1)∧(((∀x,x<h.next→h'.get x=h.get x)∧P ((List.range t).flatMap (oU a b)) h)∨q0∈h'.log∧kj h' q0)∧¬W h' h.next∧((List.range t).flatMap (oU a b)).length≤t*4096)
  ⟨0,Nat.zero_le _,rfl,rfl,rfl,hk1,hP1,by omega,q1,hdm1,hw1,Nat.zero_le _⟩ ?_
 clear hP1 gA1 gB1 q1 hk1 W1 hL1 x1 n1 hdm1 hw1
 rintro k e ds G ⟨t,ht24,rfl,rfl,rfl,hk,hP,hnx,g4,hdm,hwG,hln⟩
 have WG:=hk.wf hr.wf
 by_cases ht:t<24
 ·have hps:=uO b t
  have hbp:=sK (jj b t)
  have D1:=KF F.mp (h:={G with log:=[]}) (.of WG) (show Tab G from htab _ _ hP) (by show 2<G.next;omega) hb ht
  have gB:=gb _ _ hP
  have hT:(List.range (t+1)).flatMap (oU a b)=(List.range t).flatMap (oU a b)++oU a b t:=by rw[List.range_succ,List.flatMap_append];simp
  have hmem:∀f∈oU a b t,f∈jP a b:=fun f hf'=>by
   rw[hf];exact List.mem_flatMap.2 ⟨t,List.mem_range.2 ht,hf'⟩
  rw[hft t]at hT hmem
  generalize(List.range t).flatMap (oU a b)=D at*
  generalize hbb:jm (jj b t)=bb at*
  generalize jj b t=p at*
  obtain⟨bp,some'⟩:=bb
  dsimp only at hbp hT hmem
  have kp8:=bF hps.len
  have lo14:=xI (b:=sG) hps
  have lo14o:=Hv (s:=p) (b:=sG)
  refine y4 ?_;refine yt ?_;refine y3 ?_;refine ah ?_;refine yY ?_;refine aH ?_;refine aV ?_;refine ah ?_;refine aK ?_;refine y4 ?_;refine yM ?_;refine yM ?_;refine y3 ?_
  refine fB (E0:=[(0, .func (.yield l) #[] #[]),(1, .pointer (some ⟨qa,0,none⟩)),(2, .pointer (some ⟨qb,0,none⟩)),(4, .pointer (some ⟨h.next,0,none⟩)),(6, .int .i64 (t:Nat)),(7, .pointer (some ⟨G.next,0,none⟩)),(28, .int .i64 (t:Nat))]) (P:=fun h'=>Ext G h'∧h'.next=G.next+1∧h'.get G.next=some (.cells (psL p sG) true 1)) ?_ ?_
  ·refine aJ ?_;refine yV ?_;refine yM ?_
   refine yC ?_
   refine FW.pu D1 ?_
   skip
   refine an (ez (Jq hps (by exact rfl))) ?_
   refine an (dL) ?_;refine an (dg (by exact rfl) (by exact rfl) (by(simp(disch:=first|omega|(simp only[z1,z2];omega))only[z3,z4,z5,z6,z7,z1,z2,g4,gB];exact rfl)) (by assumption) (by exact rfl) (by assumption)) ?_;refine dN ?_
   refine y1 ?_
   exact⟨rfl,rfl,rfl,iC (by omega) _ _,rfl,jB _ _⟩
  clear D1
  rintro G1 ⟨x1,n1,q1⟩
  have WG1:=x1.wf WG
  have hP1:P D G1:=Y.fF _ _ _ hP x1.next x1.old
  have D2:=vw F.bd (h:={G1 with log:=[]}) (.of WG1) (show Tab G1 from htab _ _ hP1) (by show 2<G1.next;omega) hps
  rw[hbb]at D2
  unfold L7 at D2
  dsimp only at D2
  have ks:=Px (b:=sG) hps
  have ku:=M3 (b:=sG) (b':=bp) hps
  have kuc:(Nat.beq (bZ (cellsOf (bxV bp))) 6&&Nat.ble (0+8+6) (bZ (psL p sG))&&dR (cellsOf (bxV bp)))=true:=by
   rw[bQ (psL p sG),lo14];rfl
  refine fB (E0:=[(0, .func (.yield l) #[] #[]),(1, .pointer (some ⟨qa,0,none⟩)),(2, .pointer (some ⟨qb,0,none⟩)),(4, .pointer (some ⟨h.next,0,none⟩)),(6, .int .i64 (t:Nat)),(7, .pointer (some ⟨G.next,0,none⟩)),(28, .int .i64 (t:Nat))]) (P:=fun h'=>Ext G h'∧h'.next=G.next+1∧h'.get G.next=some (.cells (psL p bp) true 1)) ?_ ?_
  ·refine aJ ?_;refine yF ?_;refine yV ?_
   refine yC ?_
   refine FW.pu D2 ?_
   refine yM ?_;refine yE ?_;refine yE ?_;refine yF ?_
   refine an (ja (by exact rfl) (by exact rfl) q1 kuc ku) ?_
   refine dN ?_;refine y1 ?_
   exact⟨rfl,rfl,rfl,⟨x1.next,(Heap.aN (by omega)).trans x1.log,fun b hb=>(z5 (by omega)).trans (x1.old b hb),fun w=>(x1.wf w).as (AS.wr h.next _ _ _)⟩,n1,Heap.bB q1⟩
  clear D2 q1 hP1 WG1 n1 x1
  rintro G2 ⟨x2,n2,q2⟩
  have kl:=M0 (b:=bp) hps
  have kh:=MZ (b:=bp) hps
  have cl:Nat.beq (bZ (ceL bp.lo)) 3=true:=rfl
  have ch:Nat.beq (bZ (ceL bp.hi)) 3=true:=rfl
  refine fB (E0:=[(0, .func (.yield l) #[] #[]),(1, .pointer (some ⟨qa,0,none⟩)),(2, .pointer (some ⟨qb,0,none⟩)),(4, .pointer (some ⟨h.next,0,none⟩)),(6, .int .i64 (t:Nat)),(7, .pointer (some ⟨G.next,0,none⟩)),(8, .pointer (some ⟨G2.next,0,none⟩)),(9, .pointer (some ⟨G2.next+1,0,none⟩)),(28, .int .i64 (t:Nat))]) (P:=fun h'=>Ext G h'∧h'.next=G2.next+2∧h'.get G.next=some (.cells (psL p bp) true 1)∧h'.get G2.next=some (.cells (ceL bp.lo) true 1)∧h'.get (G2.next+1)=some (.cells (ceL bp.hi) true 1)) ?_ ?_
  ·refine cV ?_;refine qF ?_;refine qF ?_;refine aM rfl rfl rfl (by exact rfl) (by exact rfl) (by exact rfl) (ct (by exact rfl) (by assumption) (by assumption) (by exact rfl)) ?_
   refine qF ?_;refine qF ?_;refine aM rfl rfl rfl (by exact rfl) (by exact rfl) (by exact rfl) (ct (by exact rfl) (by assumption) (by assumption) (by exact rfl)) ?_
   refine pN rfl rfl rfl (by exact rfl) (by exact rfl) (by exact rfl) dL (by refine dA (aq rfl (ct (by exact rfl) (by(simp(disch:=first|omega|(simp only[z1,z2];omega))only[z3,z4,z5,z6,z7,z1,z2,g4,gB,q2];exact rfl)) (by assumption) (by exact rfl)) (by refine mL ?_;refine eT (gG _ _) ?_;refine eT (gG _ _) ?_;exact eT (gG _ _) (by assumption))) ?_;refine dA (aq rfl (dz (by exact rfl)) (by exact bT _)) ?_;refine dA (aq rfl (dz (by exact rfl)) (by exact bT _)) ?_;refine dA (aq rfl (ct (by exact rfl) (by(simp(disch:=first|omega|(simp only[z1,z2];omega))only[z3,z4,z5,z6,z7,z1,z2,g4,gB,q2];exact rfl)) (by assumption) (by exact rfl)) (by refine mL ?_;refine eT (gG _ _) ?_;refine eT (gG _ _) ?_;exact eT (gG _ _) (by assumption))) ?_;refine dA (aq rfl (dz (by exact rfl)) (by exact bT _)) ?_;refine dA (aq rfl (dz (by exact rfl)) (by exact bT _)) ?_;exact pI) ?_
   refine pN rfl rfl rfl (by exact rfl) (by exact rfl) (by exact rfl) dL (by refine dA (qx rfl) ?_;refine dA (aq rfl (ct (by exact rfl) (by(simp(disch:=first|omega|(simp only[z1,z2];omega))only[z3,z4,z5,z6,z7,z1,z2,g4,gB,q2];exact rfl)) (by assumption) (by exact rfl)) (by refine mL ?_;refine eT (gG _ _) ?_;refine eT (gG _ _) ?_;exact eT (gG _ _) (by assumption))) ?_;refine dA (aq rfl (dz (by exact rfl)) (by exact bT _)) ?_;refine dA (aq rfl (dz (by exact rfl)) (by exact bT _)) ?_;refine dA (aq rfl (ct (by exact rfl) (by(simp(disch:=first|omega|(simp only[z1,z2];omega))only[z3,z4,z5,z6,z7,z1,z2,g4,gB,q2];exact rfl)) (by assumption) (by exact rfl)) (by refine mL ?_;refine eT (gG _ _) ?_;refine eT (gG _ _) ?_;exact eT (gG _ _) (by assumption))) ?_;refine dA (aq rfl (dz (by exact rfl)) (by exact bT _)) ?_;refine dA (aq rfl (dz (by exact rfl)) (by exact bT _)) ?_;exact pI) ?_
   refine uU rfl rfl rfl (by exact rfl) (by exact rfl) (by exact rfl) (by(simp(disch:=first|omega|(simp only[z1,z2];omega))only[z3,z4,z5,z6,z7,z1,z2,g4,gB,q2];exact rfl)) (by exact rfl) (by exact rfl) (by(simp only[z1,z2];omega)) (by omega) (by(repeat apply aP rfl);apply aB rfl (aq rfl (ct (by exact rfl) (by(simp(disch:=first|omega|(simp only[z1,z2];omega))only[z3,z4,z5,z6,z7,z1,z2,g4,gB,q2];exact rfl)) (by assumption) (by exact rfl)) (by refine mL ?_;refine eT (gG _ _) ?_;refine eT (gG _ _) ?_;exact eT (gG _ _) (by assumption))) rfl;apply aB rfl (aq rfl (dz (by exact rfl)) (by exact bT _)) rfl;apply aB rfl (aq rfl (dz (by exact rfl)) (by exact bT _)) rfl;(repeat apply aP rfl);exact cC) ?_
   refine uU rfl rfl rfl (by exact rfl) (by exact rfl) (by exact rfl) (by(simp(disch:=first|omega|(simp only[z1,z2];omega)|(simp only[z1,z2];done)|fail)only[z8,z4,z5,z9,z7,z1,z2,g4,gB,q2];exact rfl)) (by exact rfl) (by exact rfl) (by(simp only[z1,z2];omega)) (by(simp only[z1,z2];omega)) (by(repeat apply aP rfl);exact cC) ?_
   refine dy ?_;refine y1 ?_
   refine⟨rfl,rfl,rfl,⟨by show G.next≤G2.next+2;omega,by rw[Heap.aN (by show h.next≤G2.next+1;omega),Heap.aN (by omega)];exact x2.log,fun b hb=>by
    rw[z5 (by show b≠G2.next+1;omega),z5 (by omega),z4 (by show b<G2.next+1;omega),z4 (by omega)];exact x2.old b hb,fun w=>((((x2.wf w).push _).push _).as (AS.wr _ _ _ _)).as (AS.wr _ _ _ _)⟩,rfl,?_,?_,?_⟩
   ·(simp(disch:=first|omega|(simp only[z1,z2];omega))only[z3,z4,z5,z6,z7,z1,z2,g4,gB,q2];done)
   ·(simp(disch:=first|omega|(simp only[z1,z2];omega))only[z3,z4,z5,z6,z7,z1,z2,g4,gB,q2];exact rfl)
   ·(simp(disch:=first|omega|(simp only[z1,z2];omega)|(simp only[z1,z2];done)|fail)only[z8,z4,z5,z9,z7,z1,z2,g4,gB,q2];exact rfl)
  rintro G3 ⟨x3,n3,q3,q8,q9⟩
  rw[n2]at n3 q8 q9⊢
  have hk3:Lk lo h G3:=hk.trans (x3.lk (by have:=hk.next;omega))
  have hP3:P D G3:=Y.fF _ _ _ hP x3.next x3.old
  have hw3:∀z,W G3 z→W G z:=Y.wst _ _ _ hP x3.next x3.old
  have hw4:∀z,W G z→z<G.next:=fun z=>Y.wlt _ _ z hP
  have FX:FxL P W lo h q0 G.next rm bp p D G3:=⟨hk3,hP3,Fp hq0 hk.next hdm x3,by omega,(x3.old _ hnx).trans g4,q3,q8,q9,fun q=>hwG (hw3 _ q),fun q=>absurd (hw4 _ (hw3 _ q)) (by omega),fun q=>absurd (hw4 _ (hw3 _ q)) (by omega),fun q=>absurd (hw4 _ (hw3 _ q)) (by omega)⟩
  have hqN:N≤G.next:=by have:=hk.next;omega
  have hqh:h.next<G.next:=hnx
  clear q2 x2 n2 q3 q8 q9 hk3 hP3 x3 n3 g4 hnx hP hk gB hw3 hw4 hwG hdm ks ku kuc kp8 lo14 lo14o kl kh cl ch WG
  generalize G.next=q at*
  have hx1:=hrm.lo.x
  have hx2:=hrm.hi.x
  have hy1:=hrm.lo.y
  have hy2:=hrm.hi.y
  have hz1:=hrm.lo.z
  have hz2:=hrm.hi.z
  have px1:=hbp.lo.x
  have px2:=hbp.hi.x
  have py1:=hbp.lo.y
  have py2:=hbp.hi.y
  have pz1:=hbp.lo.z
  have pz2:=hbp.hi.z
  have sz1:aA .sub (.int .i64 rm.lo.z) (.int .i64 bp.lo.z)=some (.int .i64 (rm.lo.z-bp.lo.z)):=nF (cQ (by omega) (by omega))
  have sz2:aA .sub (.int .i64 rm.hi.z) (.int .i64 bp.hi.z)=some (.int .i64 (rm.hi.z-bp.hi.z)):=nF (cQ (by omega) (by omega))
  have sy1:aA .sub (.int .i64 rm.lo.y) (.int .i64 bp.lo.y)=some (.int .i64 (rm.lo.y-bp.lo.y)):=nF (cQ (by omega) (by omega))
  have sy2:aA .sub (.int .i64 rm.hi.y) (.int .i64 bp.hi.y)=some (.int .i64 (rm.hi.y-bp.hi.y)):=nF (cQ (by omega) (by omega))
  have sx1:aA .sub (.int .i64 rm.lo.x) (.int .i64 bp.lo.x)=some (.int .i64 (rm.lo.x-bp.lo.x)):=nF (cQ (by omega) (by omega))
  have sx2:aA .sub (.int .i64 rm.hi.x) (.int .i64 bp.hi.x)=some (.int .i64 (rm.hi.x-bp.hi.x)):=nF (cQ (by omega) (by omega))
  have q4:=FX.g4
  have q8:=FX.g8
  refine y4 ?_;refine yF ?_;refine yF ?_;refine yL ?_;refine yF ?_;refine yL ?_;refine yW ?_
  refine yM ?_;refine y3 ?_;refine aK ?_
  refine dG (fun k e ds h'=>∃(n:Nat) (z:Int),z=rm.lo.z-bp.lo.z+(n:Nat)∧(n=0∨z≤rm.hi.z-bp.hi.z+1)∧16-n=k∧e=[(0, .func (.yield l) #[] #[]),(1, .pointer (some ⟨qa,0,none⟩)),(2, .pointer (some ⟨qb,0,none⟩)),(4, .pointer (some ⟨h.next,0,none⟩)),(6, .int .i64 (t:Nat)),(7, .pointer (some ⟨q,0,none⟩)),(8, .pointer (some ⟨q+1,0,none⟩)),(9, .pointer (some ⟨q+1+1,0,none⟩)),(10, .int .i64 z),(28, .int .i64 (t:Nat))]∧ds=[]∧FxL P W lo h q0 q rm bp p (D++(zrN (rm.lo.z-bp.lo.z) n).flatMap (wN a p rm bp t)) h'∧(D++(zrN (rm.lo.z-bp.lo.z) n).flatMap (wN a p rm bp t)).length≤t*4096+n*256)
   ⟨0,_,by simp, .inl rfl,rfl,rfl,rfl,by rw[show zrN (rm.lo.z-bp.lo.z) 0=[]from rfl,List.flatMap_nil,List.append_nil];exact FX,by rw[show zrN (rm.lo.z-bp.lo.z) 0=[]from rfl,List.flatMap_nil,List.append_nil];exact Nat.le_trans hln (by omega)⟩ ?_
  clear FX q4 q8
  rintro k e ds G ⟨n,z,hz,hn,rfl,rfl,rfl,FX,hlz⟩
  have hn16:n<16:=by omega
  by_cases hle:z≤rm.hi.z-bp.hi.z
  ·have lz:aA .leq (.int .i64 z) (.int .i64 (rm.hi.z-bp.hi.z))=some (.bool true):=gU hle
   have az:aA .add (.int .i64 z) (.int .i64 1)=some (.int .i64 (z+1)):=nE (cQ (by omega) (by omega))
   have mz:=BL hz hle
   have fz:=uY (rm.lo.z-bp.lo.z) n (wN a p rm bp t) hz
   have hfy:wN a p rm bp t z=(zr (rm.lo.y-bp.lo.y) (rm.hi.y-bp.hi.y)).flatMap (tL a p rm bp t z):=rfl
   have q4:=FX.g4
   have q8:=FX.g8
   have q9:=FX.g9
   generalize hDz:D++(zrN (rm.lo.z-bp.lo.z) n).flatMap (wN a p rm bp t)=Dz at*
   refine ah ?_;refine y4 ?_;refine yM ?_;refine yF ?_;refine yF ?_;refine yL ?_;refine yF ?_;refine yL ?_
   refine yW ?_;refine yW ?_;refine y3 ?_;refine yY ?_;refine aH ?_;refine aV ?_;refine ah ?_
   refine aK ?_;refine y4 ?_;refine yF ?_;refine yF ?_;refine yL ?_;refine yF ?_;refine yL ?_
   refine yW ?_;refine yM ?_;refine y3 ?_;refine aK ?_
   refine dG (fun k e ds h'=>∃(j:Nat) (y:Int),y=rm.lo.y-bp.lo.y+(j:Nat)∧(j=0∨y≤rm.hi.y-bp.hi.y+1)∧16-j=k∧e=[(0, .func (.yield l) #[] #[]),(1, .pointer (some ⟨qa,0,none⟩)),(2, .pointer (some ⟨qb,0,none⟩)),(4, .pointer (some ⟨h.next,0,none⟩)),(6, .int .i64 (t:Nat)),(7, .pointer (some ⟨q,0,none⟩)),(8, .pointer (some ⟨q+1,0,none⟩)),(9, .pointer (some ⟨q+1+1,0,none⟩)),(10, .int .i64 z),(11, .int .i64 y),(28, .int .i64 (t:Nat))]∧ds=[]∧FxL P W lo h q0 q rm bp p (Dz++(zrN (rm.lo.y-bp.lo.y) j).flatMap (tL a p rm bp t z)) h'∧(Dz++(zrN (rm.lo.y-bp.lo.y) j).flatMap (tL a p rm bp t z)).length≤t*4096+n*256+j*16)
    ⟨0,_,by simp, .inl rfl,rfl,rfl,rfl,by rw[show zrN (rm.lo.y-bp.lo.y) 0=[]from rfl,List.flatMap_nil,List.append_nil];exact FX,by rw[show zrN (rm.lo.y-bp.lo.y) 0=[]from rfl,List.flatMap_nil,List.append_nil];exact Nat.le_trans hlz (by omega)⟩ ?_
   clear FX q4 q8 q9
   rintro k e ds G ⟨j,y,hy,hj,rfl,rfl,rfl,FX,hly⟩
   have hj16:j<16:=by omega
   have q4:=FX.g4
   have q8:=FX.g8
   have q9:=FX.g9
   by_cases hley:y≤rm.hi.y-bp.hi.y
   ·have ly:aA .leq (.int .i64 y) (.int .i64 (rm.hi.y-bp.hi.y))=some (.bool true):=gU hley
    have ay:aA .add (.int .i64 y) (.int .i64 1)=some (.int .i64 (y+1)):=nE (cQ (by omega) (by omega))
    have my:=BL hy hley
    have fy:=uY (rm.lo.y-bp.lo.y) j (tL a p rm bp t z) hy
    have hfx:tL a p rm bp t z y=(zr (rm.lo.x-bp.lo.x) (rm.hi.x-bp.hi.x)).flatMap (vh a p bp t z y):=rfl
    generalize hDy:Dz++(zrN (rm.lo.y-bp.lo.y) j).flatMap (tL a p rm bp t z)=Dy at*
    refine ah ?_;refine y4 ?_;refine yM ?_;refine yF ?_;refine yF ?_;refine yL ?_;refine yF ?_;refine yL ?_
    refine yW ?_;refine yW ?_;refine y3 ?_;refine yY ?_;refine aH ?_;refine aV ?_;refine ah ?_
    refine aK ?_;refine y4 ?_;refine yF ?_;refine yF ?_;refine yL ?_;refine yF ?_;refine yL ?_
    refine yW ?_;refine yM ?_;refine y3 ?_;refine aK ?_
    refine dG (fun k e ds h'=>∃(i:Nat) (x:Int),x=rm.lo.x-bp.lo.x+(i:Nat)∧(i=0∨x≤rm.hi.x-bp.hi.x+1)∧16-i=k∧e=[(0, .func (.yield l) #[] #[]),(1, .pointer (some ⟨qa,0,none⟩)),(2, .pointer (some ⟨qb,0,none⟩)),(4, .pointer (some ⟨h.next,0,none⟩)),(6, .int .i64 (t:Nat)),(7, .pointer (some ⟨q,0,none⟩)),(8, .pointer (some ⟨q+1,0,none⟩)),(9, .pointer (some ⟨q+1+1,0,none⟩)),(10, .int .i64 z),(11, .int .i64 y),(12, .int .i64 x),(28, .int .i64 (t:Nat))]∧ds=[]∧FxL P W lo h q0 q rm bp p (Dy++(zrN (rm.lo.x-bp.lo.x) i).flatMap (vh a p bp t z y)) h'∧(Dy++(zrN (rm.lo.x-bp.lo.x) i).flatMap (vh a p bp t z y)).length≤t*4096+n*256+j*16+i)
     ⟨0,_,by simp, .inl rfl,rfl,rfl,rfl,by rw[show zrN (rm.lo.x-bp.lo.x) 0=[]from rfl,List.flatMap_nil,List.append_nil];exact FX,by rw[show zrN (rm.lo.x-bp.lo.x) 0=[]from rfl,List.flatMap_nil,List.append_nil];exact Nat.le_trans hly (by omega)⟩ ?_
    clear FX q4 q8 q9
    rintro k e ds G ⟨i,x,hx,hi,rfl,rfl,rfl,FX,hlx⟩
    have hi16:i<16:=by omega
    have q4:=FX.g4
    have q9:=FX.g9
    by_cases hlex:x≤rm.hi.x-bp.hi.x
    ·have lx:aA .leq (.int .i64 x) (.int .i64 (rm.hi.x-bp.hi.x))=some (.bool true):=gU hlex
     have ax:aA .add (.int .i64 x) (.int .i64 1)=some (.int .i64 (x+1)):=nE (cQ (by omega) (by omega))
     have mx':=BL hx hlex
     have fx:=uY (rm.lo.x-bp.lo.x) i (vh a p bp t z y) hx
     have WG:=FX.k.wf hr.wf
     have hnG:=FX.k.next
     have hnq:=FX.nx
     have q7:=FX.g7
     have ka:=Kh (b:=bp) hps
     have kl:=Hu (b:=bp) hps
     have C3:=Ds F.li (h:={G with log:=[]}) (.of WG) hps (b:=bp) (x:=x) (y:=y) (z:=z) (by omega) (by omega) (by omega) pz1 pz2 (by omega) (by omega)
     have hls:IsS (nA p bp x y z):=qk hps _ _ _ _
     have htry:vh a p bp t z y x=if sIn (nA p bp x y z) a then [⟨t,x,y,z,nA p bp x y z⟩]else []:=rfl
     have hmm:sIn (nA p bp x y z) a=true→(⟨t,x,y,z,nA p bp x y z⟩:Fi)∈jP a b:=fun hin=>by
      refine hmem _ (List.mem_flatMap.2 ⟨z,mz,List.mem_flatMap.2 ⟨y,my,List.mem_flatMap.2 ⟨x,mx',?_⟩⟩⟩)
      rw[htry,if_pos hin];exact List.mem_singleton.2 rfl
     generalize hDx:Dy++(zrN (rm.lo.x-bp.lo.x) i).flatMap (vh a p bp t z y)=Dx at*
     generalize nA p bp x y z=ls at*
     have kls:=cD hls.len
     have kll:=bF hls.len
     have klo:=dB ls
     have klen:(us ls).length=8:=by rw[aI,hls.len]
     refine ah ?_;refine y4 ?_;refine yM ?_;refine yF ?_;refine yF ?_;refine yL ?_;refine yF ?_;refine yL ?_
     refine yW ?_;refine yW ?_;refine y3 ?_;refine yY ?_;refine aH ?_;refine aV ?_;refine ah ?_
     refine aK ?_
     refine fB (E0:=[(0, .func (.yield l) #[] #[]),(1, .pointer (some ⟨qa,0,none⟩)),(2, .pointer (some ⟨qb,0,none⟩)),(4, .pointer (some ⟨h.next,0,none⟩)),(6, .int .i64 (t:Nat)),(7, .pointer (some ⟨q,0,none⟩)),(8, .pointer (some ⟨q+1,0,none⟩)),(9, .pointer (some ⟨q+1+1,0,none⟩)),(10, .int .i64 z),(11, .int .i64 y),(12, .int .i64 x),(13, .pointer (some ⟨G.next,0,none⟩)),(28, .int .i64 (t:Nat))]) (P:=fun h'=>Ext G h'∧h'.next=G.next+1∧h'.get G.next=some (.cells (us ls) true 1)) ?_ ?_
     ·refine aJ ?_;refine yV ?_;refine yM ?_;refine yM ?_;refine yM ?_
      refine yC ?_
      refine FW.pu C3 ?_
      refine an (dL) ?_;refine an (dg (by exact rfl) (by exact rfl) (by(simp(disch:=first|omega|(simp only[z1,z2];omega))only[z3,z4,z5,z6,z7,z1,z2,q4,q9,q7];exact rfl)) (by assumption) (by exact rfl) (by exact dB _)) ?_;refine dN ?_
      refine y1 ?_
      exact⟨rfl,rfl,rfl,iC (by omega) _ _,rfl,jB _ _⟩
     clear C3 q4 q9 q7
     rintro G' ⟨x',n',g13⟩
     have FX':=FX.ext Y x' (by omega) hq0 hqh
     have hP':=FX'.pd
     have WG':=x'.wf WG
     have gA:=ga _ _ hP'
     have C4:=AK hp F.f35 F.f121 (h:={G' with log:=[]}) (.of WG') hls ha
     refine y4 ?_;refine yV ?_;refine yV ?_
     refine yC ?_
     refine FW.pu C4 ?_
     clear C4
     cases hin:sIn ls a with
     |false=>
      rw[hin,if_neg (by simp)]at htry
      refine yM ?_;refine yP ?_;refine yP ?_;refine yP ?_;refine yP ?_;refine yP ?_;refine yP ?_;refine yP ?_
      refine yP ?_;refine yP ?_;refine yU ?_;refine y3 ?_;refine yX ?_;refine aH ?_;refine ff ?_;refine aV ?_;refine aJ ?_
      refine yM ?_;refine yW ?_;refine yM ?_;refine y3 ?_
      refine⟨16-(i+1),by omega,i+1,x+1,by omega, .inr (by omega),rfl,rfl,rfl,?_,?_⟩
      ·rw[fx,htry,List.append_nil,hDx];exact FX'
      ·rw[fx,htry,List.append_nil,hDx];omega
     |true=>
      rw[hin,if_pos rfl]at htry
      refine yM ?_;refine yO ?_;refine yM ?_;refine yO ?_;refine yM ?_;refine yO ?_;refine yM ?_;refine yO ?_;refine yM ?_;refine yO ?_
      refine yM ?_;refine yO ?_;refine an (ez (by exact rfl)) ?_;refine yO ?_;refine yV ?_;refine yO ?_
      refine mM (fn:= .yield l) (args:=fiV ⟨t,x,y,z,ls⟩) (by rfl) ?_
      refine Y.call hp (hmm hin) (by omega) WG' (by omega) (by omega) hq0 hP' ?_
      intro h2 hk2 hd2 hP2 hkp hwr
      refine yO ?_;refine yA ?_;refine yT ?_;refine y3 ?_;refine yX ?_;refine aH ?_;refine ff ?_;refine aV ?_;refine aJ ?_
      refine yM ?_;refine yW ?_;refine yM ?_;refine y3 ?_
      refine⟨16-(i+1),by omega,i+1,x+1,by omega, .inr (by omega),rfl,rfl,rfl,?_,?_⟩
      ·rw[fx,htry,←List.append_assoc,hDx]
       exact FX'.step hk2 hd2 hP2 hkp hwr hqh
      ·rw[fx,htry,←List.append_assoc,hDx]
       have:=Dc (L:=([]:List Nat)) hlx (f:=⟨t,x,y,z,ls⟩)
       omega
    ·have lx:aA .leq (.int .i64 x) (.int .i64 (rm.hi.x-bp.hi.x))=some (.bool false):=fO (by omega)
     have hie:=xV (lo:=rm.lo.x-bp.lo.x) (hi:=rm.hi.x-bp.hi.x) (n:=i) (by omega) (by omega)
     have e:(zrN (rm.lo.x-bp.lo.x) i).flatMap (vh a p bp t z y)=tL a p rm bp t z y:=by rw[hie];rfl
     rw[e]at FX hlx
     refine ah ?_;refine y4 ?_;refine yM ?_;refine yF ?_;refine yF ?_;refine yL ?_;refine yF ?_;refine yL ?_
     refine yW ?_;refine yW ?_;refine y3 ?_;refine yX ?_;refine dw ?_;refine dQ ?_;refine dQ ?_
     refine iN ?_;refine ff ?_;refine aV ?_;refine aJ ?_;refine yM ?_;refine yW ?_;refine yM ?_;refine y3 ?_
     refine⟨16-(j+1),by omega,j+1,y+1,by omega, .inr (by omega),rfl,rfl,rfl,?_,?_⟩
     ·rw[fy,←List.append_assoc,hDy];exact FX
     ·rw[fy,←List.append_assoc,hDy];omega
   ·have ly:aA .leq (.int .i64 y) (.int .i64 (rm.hi.y-bp.hi.y))=some (.bool false):=fO (by omega)
    have hje:=xV (lo:=rm.lo.y-bp.lo.y) (hi:=rm.hi.y-bp.hi.y) (n:=j) (by omega) (by omega)
    refine ah ?_;refine y4 ?_;refine yM ?_;refine yF ?_;refine yF ?_;refine yL ?_;refine yF ?_;refine yL ?_
    refine yW ?_;refine yW ?_;refine y3 ?_;refine yX ?_;refine dw ?_;refine dQ ?_;refine dQ ?_
    refine iN ?_;refine ff ?_;refine aV ?_;refine aJ ?_;refine yM ?_;refine yW ?_;refine yM ?_;refine y3 ?_
    refine⟨16-(n+1),by omega,n+1,z+1,by omega, .inr (by omega),rfl,rfl,rfl,?_⟩
    rw[fz,←List.append_assoc]
    have e:(zrN (rm.lo.y-bp.lo.y) j).flatMap (tL a p rm bp t z)=wN a p rm bp t z:=by rw[hje];rfl
    rw[e]at FX hly
    rw[hDz];exact⟨FX,by omega⟩
  ·have lz:aA .leq (.int .i64 z) (.int .i64 (rm.hi.z-bp.hi.z))=some (.bool false):=fO (by omega)
   have hne:=xV (lo:=rm.lo.z-bp.lo.z) (hi:=rm.hi.z-bp.hi.z) (n:=n) (by omega) (by omega)
   have q4:=FX.g4
   have q9:=FX.g9
   refine ah ?_;refine y4 ?_;refine yM ?_;refine yF ?_;refine yF ?_;refine yL ?_;refine yF ?_;refine yL ?_
   refine yW ?_;refine yW ?_;refine y3 ?_;refine yX ?_;refine dw ?_;refine dQ ?_;refine dQ ?_
   refine iN ?_;refine ff ?_;refine aV ?_;refine aJ ?_;refine ia ?_;refine yM ?_;refine y3 ?_
   rw[hne]at FX hlz
   have FXT:FxL P W lo h q0 q rm bp p ((List.range (t+1)).flatMap (oU a b)) G:=by rw[hT];exact FX
   have hlT:((List.range (t+1)).flatMap (oU a b)).length≤(t+1)*4096:=by
    rw[hT]
    exact Nat.le_trans hlz (by omega)
   exact⟨24-(t+1),by omega,t+1,by omega,rfl,rfl,rfl,FXT.k,FXT.pd,by have:=FXT.nx;omega,FXT.g4,FXT.dm,FXT.w4,hlT⟩
 ·obtain rfl:t=24:=by omega
  rw[←hf]at hP hdm
  refine y4 ?_;refine yf ?_;refine y3 ?_;refine ah ?_;refine yX ?_;refine dw ?_;refine dQ ?_;refine dQ ?_;refine iN ?_
  exact Fq (hk.log (by rw[hr.log];exact eF.nil _)) rfl ⟨rfl,hP,hdm⟩
def wG(a b:Nat):Int:=if a<b then -1 else if b<a then 1 else 0
def cmpL:List Nat→List Nat→Int
 |a::l,b::m=>if a<b then -1 else if b<a then 1 else cmpL l m
 |_,_=>0
theorem qZ:∀l:List Nat,cmpL l l=0
 |[]=>rfl
 |a::l=>by
  unfold cmpL
  rw[if_neg (Nat.lt_irrefl a),if_neg (Nat.lt_irrefl a)];exact qZ l
theorem B0:∀{l m:List Nat} {j x y:Nat},l.take j=m.take j→l[j]? =some x→m[j]? =some y→x≠y→cmpL l m=wG x y
 |[],_,j,x,y,_,h,_,_=>by simp at h
 |_::_,[],j,x,y,_,_,h,_=>by simp at h
 |a::l,b::m,0,x,y,_,h1,h2,h=>by
  simp at h1 h2
  subst h1;subst h2
  unfold cmpL wG
  by_cases q:a<b
  ·rw[if_pos q,if_pos q]
  ·rw[if_neg q,if_neg q,if_pos (by omega),if_pos (by omega)]
 |a::l,b::m,j+1,x,y,ht,h1,h2,h=>by
  simp only[List.take_succ_cons,List.cons.injEq]at ht
  obtain⟨rfl,ht⟩:=ht
  unfold cmpL
  rw[if_neg (Nat.lt_irrefl a),if_neg (Nat.lt_irrefl a)]
  exact B0 ht (by simpa using h1) (by simpa using h2) h
structure vj (T:Nat→Option af):Prop where
 p:bt T
 f191:T 191=some f191
 f256:T 256=some f256
 f315:T 315=some f315
theorem GF(F:vj T){h:Heap}(hr:Rdy h)(x:Nat):Pu T 315 [.int .u64 (x:Nat)] h (.bool false):=by
 refine .of F.p F.f315 hr rfl ?_
 have m1:aA .neq (.int .u64 (x:Nat)) (.int .u64 (x:Nat))=some (.bool false):=by rw[Ch];simp
 refine y4 ?_;refine yM ?_;refine y3 ?_;refine y4 ?_;refine yM ?_;refine yM ?_
 refine yW ?_;refine yM ?_;refine y3 ?_;refine aG ?_
 exact aD hr.log rfl rfl
theorem Ma(F:vj T){h:Heap}(hr:Rdy h)(a b:Nat):Pu T 256 [.int .u64 (a:Nat), .int .u64 (b:Nat)] h (.int .i64 (wG a b)):=by
 refine .of F.p F.f256 hr rfl ?_
 have C1:=GF F (h:={h with log:=[]}) (.of hr.wf) a
 have C2:=GF F (h:={h with log:=[]}) (.of hr.wf) b
 have hL:=hr.log
 unfold wG
 by_cases h1:a<b
 ·rw[if_pos h1]
  have m1:aA .lss (.int .u64 (a:Nat)) (.int .u64 (b:Nat))=some (.bool true):=jg (by omega)
  refine y4 ?_;refine yM ?_;refine y3 ?_;refine y4 ?_;refine yM ?_
  refine yC ?_
  refine FW.pu C1 ?_
  refine yM ?_;refine y3 ?_;refine y4 ?_;refine yM ?_
  refine yC ?_
  refine FW.pu C2 ?_
  refine yM ?_;refine y3 ?_;refine ah ?_;refine y4 ?_;refine yM ?_;refine y3 ?_;refine yX ?_;refine aH ?_;refine aV ?_;refine ah ?_;refine y4 ?_;refine yM ?_;refine y3 ?_;refine yX ?_;refine aH ?_;refine aV ?_
  refine ah ?_;refine y4 ?_;refine yM ?_;refine yM ?_;refine yW ?_;refine y3 ?_;refine yY ?_
  refine y4 ?_;refine yM ?_;refine y3 ?_;refine aG ?_;refine eW ?_
  exact aD hL rfl rfl
 ·rw[if_neg h1]
  have m1:aA .lss (.int .u64 (a:Nat)) (.int .u64 (b:Nat))=some (.bool false):=jD (by omega)
  by_cases h2:b<a
  ·rw[if_pos h2]
   have m2:aA .gtr (.int .u64 (a:Nat)) (.int .u64 (b:Nat))=some (.bool true):=gX (by omega)
   refine y4 ?_;refine yM ?_;refine y3 ?_;refine y4 ?_;refine yM ?_
   refine yC ?_
   refine FW.pu C1 ?_
   refine yM ?_;refine y3 ?_;refine y4 ?_;refine yM ?_
   refine yC ?_
   refine FW.pu C2 ?_
   refine yM ?_;refine y3 ?_;refine ah ?_;refine y4 ?_;refine yM ?_;refine y3 ?_;refine yX ?_;refine aH ?_;refine aV ?_;refine ah ?_;refine y4 ?_;refine yM ?_;refine y3 ?_;refine yX ?_;refine aH ?_;refine aV ?_
   refine ah ?_;refine y4 ?_;refine yM ?_;refine yM ?_;refine yW ?_;refine y3 ?_;refine yX ?_
   refine aH ?_;refine aV ?_;refine ah ?_;refine y4 ?_;refine yM ?_;refine yM ?_;refine yW ?_;refine y3 ?_
   refine yY ?_;refine y4 ?_;refine yM ?_;refine y3 ?_;refine aG ?_;refine eW ?_
   exact aD hL rfl rfl
  ·rw[if_neg h2]
   have m2:aA .gtr (.int .u64 (a:Nat)) (.int .u64 (b:Nat))=some (.bool false):=jV (by omega)
   refine y4 ?_;refine yM ?_;refine y3 ?_;refine y4 ?_;refine yM ?_
   refine yC ?_
   refine FW.pu C1 ?_
   refine yM ?_;refine y3 ?_;refine y4 ?_;refine yM ?_
   refine yC ?_
   refine FW.pu C2 ?_
   refine yM ?_;refine y3 ?_;refine ah ?_;refine y4 ?_;refine yM ?_;refine y3 ?_;refine yX ?_;refine aH ?_;refine aV ?_;refine ah ?_;refine y4 ?_;refine yM ?_;refine y3 ?_;refine yX ?_;refine aH ?_;refine aV ?_
   refine ah ?_;refine y4 ?_;refine yM ?_;refine yM ?_;refine yW ?_;refine y3 ?_;refine yX ?_
   refine aH ?_;refine aV ?_;refine ah ?_;refine y4 ?_;refine yM ?_;refine yM ?_;refine yW ?_;refine y3 ?_
   refine yX ?_;refine aH ?_;refine aV ?_;refine y4 ?_;refine yM ?_;refine y3 ?_;refine aG ?_
   exact aD hL rfl rfl
set_option maxHeartbeats 4000000 in
theorem tE(F:vj T){h:Heap}(hr:Rdy h){p q c c2:Nat}{a b:List Nat}(ha:IsS a)(hb:IsS b)(ga:h.get p=some (.cells (us a) true 1))(gb:h.get q=some (.cells (us b) true 1)):
 Pu T 191 [.slice (some ⟨p,0,none⟩) 8 c, .slice (some ⟨q,0,none⟩) 8 c2] h (.int .i64 (cmpL a b)):=by
 refine .of F.p F.f191 hr rfl ?_
 have hL:=hr.log
 refine y4 ?_;refine yM ?_;refine y3 ?_;refine ah ?_;refine y4 ?_;refine yM ?_;refine yD ?_;refine yM ?_
 refine y3 ?_;refine aK ?_
 refine dG (fun m e ds h'=>∃j:Nat,j≤8∧8-j=m∧e=[(0, .slice (some ⟨p,0,none⟩) 8 c),(1, .slice (some ⟨q,0,none⟩) 8 c2),(9, .slice (some ⟨p,0,none⟩) 8 c),(10, .int .i64 8),(11, .int .i64 (j:Nat))]∧ds=[]∧h=h'∧a.take j=b.take j)
  ⟨0,Nat.zero_le _,rfl,rfl,rfl,rfl,rfl⟩ ?_
 rintro m e ds h' ⟨j,hj,rfl,rfl,rfl,rfl,heq⟩
 by_cases hlt:j<8
 ·obtain⟨x,hx⟩:∃x,a[j]? =some x:=⟨a[j]'(by rw[ha.len];exact hlt),List.getElem?_eq_getElem _⟩
  obtain⟨y,hy⟩:∃x,b[j]? =some x:=⟨b[j]'(by rw[hb.len];exact hlt),List.getElem?_eq_getElem _⟩
  have e1:=lF hx
  have e2:=lF hy
  have C:=Ma F (h:={h with log:=[]}) (.of hr.wf) x y
  have m1:aA .lss (.int .i64 (j:Nat)) (.int .i64 8)=some (.bool true):=jg (by omega)
  have m2:aA .geq (.int .i64 (j:Nat)) (.int .i64 8)=some (.bool false):=AQ (by omega)
  by_cases hxy:x=y
  ·have e3:wG x y=0:=by subst hxy;unfold wG;rw[if_neg (Nat.lt_irrefl x),if_neg (Nat.lt_irrefl x)]
   rw[e3]at C
   have m3:aA .neq (.int .i64 0) (.int .i64 0)=some (.bool false):=rfl
   refine y4 ?_;refine yW ?_;refine y3 ?_;refine ah ?_;refine yY ?_;refine aH ?_;refine aV ?_;refine ah ?_;refine aK ?_
   refine y4 ?_;refine yM ?_;refine yI ?_;refine an (bO (by exact rfl) (by assumption) (by assumption)) ?_;refine yM ?_;refine yM ?_;refine y3 ?_;refine ah ?_;refine y4 ?_;refine yM ?_;refine yM ?_;refine yD ?_;refine yf ?_;refine y3 ?_;refine yX ?_;refine aH ?_;refine aV ?_;refine y4 ?_;refine yM ?_;refine yM ?_;refine yI ?_
   refine an (bO (by exact rfl) (by assumption) (by assumption)) ?_;refine yM ?_;refine y3 ?_;refine y4 ?_;refine yM ?_;refine yM ?_
   refine yC ?_
   refine FW.pu C ?_
   refine yM ?_;refine y3 ?_;refine y4 ?_;refine yM ?_;refine yW ?_;refine y3 ?_;refine yX ?_;refine aH ?_;refine ff ?_;refine aV ?_;refine aJ ?_;refine ia ?_;refine yM ?_;refine y3 ?_
   refine⟨8-(j+1),by omega,j+1,by omega,rfl,rfl,rfl,rfl,?_⟩
   rw[List.take_add_one,List.take_add_one,heq,hx,hy,hxy]
  ·have e3:wG x y≠0:=by
    unfold wG
    split
    ·decide
    ·rw[if_pos (by omega)];decide
   have e4:=B0 heq hx hy hxy
   have m3:aA .neq (.int .i64 (wG x y)) (.int .i64 0)=some (.bool true):=mE e3
   rw[e4]
   refine y4 ?_;refine yW ?_;refine y3 ?_;refine ah ?_;refine yY ?_;refine aH ?_;refine aV ?_;refine ah ?_;refine aK ?_
   refine y4 ?_;refine yM ?_;refine yI ?_;refine an (bO (by exact rfl) (by assumption) (by assumption)) ?_;refine yM ?_;refine yM ?_;refine y3 ?_;refine ah ?_;refine y4 ?_;refine yM ?_;refine yM ?_;refine yD ?_;refine yf ?_;refine y3 ?_;refine yX ?_;refine aH ?_;refine aV ?_;refine y4 ?_;refine yM ?_;refine yM ?_;refine yI ?_
   refine an (bO (by exact rfl) (by assumption) (by assumption)) ?_;refine yM ?_;refine y3 ?_;refine y4 ?_;refine yM ?_;refine yM ?_
   refine yC ?_
   refine FW.pu C ?_
   refine yM ?_;refine y3 ?_;refine y4 ?_;refine yM ?_;refine yW ?_;refine y3 ?_;refine yY ?_;refine y4 ?_;refine yM ?_;refine yM ?_;refine y3 ?_;refine aG ?_;refine mU ?_;refine eW ?_;refine eW ?_;refine mU ?_;refine eW ?_
   exact aD hL rfl rfl
 ·obtain rfl:j=8:=by omega
  have hab:a=b:=by
   rw[List.take_of_length_le (by rw[ha.len];omega),List.take_of_length_le (by rw[hb.len];omega)]at heq
   exact heq
  rw[hab,qZ]
  have m1:aA .lss (.int .i64 ((8:Nat):Int)) (.int .i64 8)=some (.bool false):=rfl
  refine y4 ?_;refine yW ?_;refine y3 ?_;refine ah ?_;refine yX ?_;refine dw ?_;refine dQ ?_;refine dQ ?_;refine iN ?_;refine aV ?_
  refine ah ?_;refine y4 ?_;refine yM ?_;refine yD ?_;refine yM ?_;refine yD ?_;refine yf ?_;refine y3 ?_;refine yX ?_;refine aH ?_;refine aV ?_;refine y4 ?_;refine yM ?_;refine y3 ?_
  refine aG ?_
  exact aD hL rfl rfl
theorem JB(F:vj T)(hf:T 168=some f168){h:Heap}(hr:Rdy h){a b:List Nat}(ha:IsS a)(hb:IsS b):Pu T 168 [sv a,sv b] h (.int .i64 (cmpL a b)):=by
 refine .of F.p hf hr rfl ?_
 have x0:Ext h ((h.push (.cells (cellsOf (sv a)) true 1)).push (.cells (cellsOf (sv b)) true 1)):=((Ext.refl h).push _).push _
 have g0:((h.push (.cells (cellsOf (sv a)) true 1)).push (.cells (cellsOf (sv b)) true 1)).get h.next=some (.cells (us a) true 1):=by(simp(disch:=first|omega|(simp only[z1,z2];omega))only[z3,z4,z5,z6,z7,z1,z2];exact rfl)
 have g1:((h.push (.cells (cellsOf (sv a)) true 1)).push (.cells (cellsOf (sv b)) true 1)).get (h.next+1)=some (.cells (us b) true 1):=by(simp(disch:=first|omega|(simp only[z1,z2];omega)|(simp only[z1,z2];done)|fail)only[z8,z4,z5,z9,z7,z1,z2,g0];exact rfl)
 refine y4 ?_;refine yB ?_;refine yB ?_;refine yM ?_;refine y3 ?_
 generalize((h.push (.cells (cellsOf (sv a)) true 1)).push (.cells (cellsOf (sv b)) true 1))=H at*
 have W:=x0.wf hr.wf
 have hL:=x0.log.trans hr.log
 have C:=fun c c2=>tE F (h:={H with log:=[]}) (.of W) (c:=c) (c2:=c2) ha hb g0 g1
 refine ah ?_;refine cV ?_
 refine aM rfl rfl rfl (by exact rfl) (by exact rfl) (by exact rfl) (mh (i:=0) (j:=8) (by exact rfl) (by exact rfl) (by exact rfl) (by omega) (by omega) (by omega) (by omega)) ?_
 refine aM rfl rfl rfl (by exact rfl) (by exact rfl) (by exact rfl) (mh (i:=0) (j:=8) (by exact rfl) (by exact rfl) (by exact rfl) (by omega) (by omega) (by omega) (by omega)) ?_
 skip
 refine qC ?_
 refine FW.puD (C _ _) (by(repeat apply aP rfl);exact cC) ?_
 refine qM ?_;refine dy ?_;refine y1 ?_;refine aV ?_;refine aG ?_
 exact aD hL rfl rfl
theorem JC(F:vj T)(hf:T 190=some f190){h:Heap}(hr:Rdy h){a b:List Nat}(ha:IsS a)(hb:IsS b):Pu T 190 [sv a,sv b] h (.int .i64 (cmpL a b)):=by
 refine .of F.p hf hr rfl ?_
 have x0:Ext h ((h.push (.cells (cellsOf (sv a)) true 1)).push (.cells (cellsOf (sv b)) true 1)):=((Ext.refl h).push _).push _
 have g0:((h.push (.cells (cellsOf (sv a)) true 1)).push (.cells (cellsOf (sv b)) true 1)).get h.next=some (.cells (us a) true 1):=by(simp(disch:=first|omega|(simp only[z1,z2];omega))only[z3,z4,z5,z6,z7,z1,z2];exact rfl)
 have g1:((h.push (.cells (cellsOf (sv a)) true 1)).push (.cells (cellsOf (sv b)) true 1)).get (h.next+1)=some (.cells (us b) true 1):=by(simp(disch:=first|omega|(simp only[z1,z2];omega)|(simp only[z1,z2];done)|fail)only[z8,z4,z5,z9,z7,z1,z2,g0];exact rfl)
 refine y4 ?_;refine yB ?_;refine yB ?_;refine yM ?_;refine y3 ?_
 generalize((h.push (.cells (cellsOf (sv a)) true 1)).push (.cells (cellsOf (sv b)) true 1))=H at*
 have W:=x0.wf hr.wf
 have hL:=x0.log.trans hr.log
 have C:=fun c c2=>tE F (h:={H with log:=[]}) (.of W) (c:=c) (c2:=c2) ha hb g0 g1
 refine ah ?_;refine cV ?_
 refine aM rfl rfl rfl (by exact rfl) (by exact rfl) (by exact rfl) (mh (i:=0) (j:=8) (by exact rfl) (by exact rfl) (by exact rfl) (by omega) (by omega) (by omega) (by omega)) ?_
 refine aM rfl rfl rfl (by exact rfl) (by exact rfl) (by exact rfl) (mh (i:=0) (j:=8) (by exact rfl) (by exact rfl) (by exact rfl) (by omega) (by omega) (by omega) (by omega)) ?_
 skip
 refine qC ?_
 refine FW.puD (C _ _) (by(repeat apply aP rfl);exact cC) ?_
 refine qM ?_;refine dy ?_;refine y1 ?_;refine aV ?_;refine aG ?_
 exact aD hL rfl rfl
end Go.A.Pk
end
section
set_option maxRecDepth 100000
namespace Go.A.Pk
variable {T:Nat→Option af}
def fnF(p q:Nat):Value:= .func (.func 209) #[] #[.pointer (some ⟨p,0,none⟩), .pointer (some ⟨q,0,none⟩)]
structure Ll (T:Nat→Option af):Prop where
 ft:Lm T
 f34:T 34=some f34
 f120:T 120=some f120
theorem Ju(F:Ll T){h:Heap}(hr:Rdy h){a b:List Nat}(ha:IsS a)(hb:IsS b):
 Al T 120 [sv a,sv b] h fun v h'=>∃p q,v=fnF p q∧h'.get p=some (.cells (us a) true 1)∧h'.get q=some (.cells (us b) true 1)∧p<h'.next∧q<h'.next∧h.next≤p∧h.next≤q:=by
 refine .of F.ft.li.p F.f120 hr ?_ ?_
 ·rintro v h1 hv ⟨p,q,rfl,_⟩
  cases hv
 refine y4 ?_;refine yB ?_;refine yB ?_;refine yM ?_;refine y3 ?_;refine y4 ?_
 refine an (gK (by exact rfl) (by exact rfl)) ?_;refine yM ?_;refine y3 ?_;refine aG ?_
 exact ej hr.log rfl ⟨h.next,h.next+1,rfl,by(simp(disch:=first|omega|(simp only[z1,z2];omega))only[z3,z4,z5,z6,z7,z1,z2];exact rfl),by(simp(disch:=first|omega|(simp only[z1,z2];omega)|(simp only[z1,z2];done)|fail)only[z8,z4,z5,z9,z7,z1,z2];exact rfl),by show h.next<h.next+2;omega,by show h.next+1<h.next+2;omega,Nat.le_refl _,Nat.le_succ _⟩
section
open I
end
end Go.A.Pk
end
