/- Walks of functions, plain laws, the table. -/
import Derived.Test.YtgffeapobcfigaaGreatDoorQU0
import Derived.Test.YtgffeapobcfigaaGreatDoorQD
set_option linter.all false
section
set_option maxRecDepth 100000
namespace Go.A.Pk
variable {T:Nat→Option AFunc}
def ints(l:List Int):List Value:=l.map fun x=> .int .i64 x
end Go.A.Pk
end
section
set_option maxRecDepth 100000
namespace Go.A.Pk
variable {T:Nat→Option AFunc}
structure FnsHr (T:Nat→Option AFunc):Prop where
 p:primAS T
 f171:T 171=some f171
 f225:T 225=some f225
set_option maxHeartbeats 4000000 in
theorem has171(F:FnsHr T){h:Heap}(hr:Rdy h){s:List Nat}(hs:IsS s)(c:Ce):Pu T 171 [sv s,ceV c] h (.bool (sHas s c)):=by
 refine .of F.p F.f171 hr rfl ?_
 have W:=(hr.wf.push (.cells (cellsOf (sv s)) true 1)).push (.cells (cellsOf (ceV c)) true 1)
 have C:=inGrid225 F.p F.f225 (.of W) c
 by_cases hc:inG c=true
 ·obtain⟨z,i,hz,hi,rfl⟩:=inG_form hc
  rw[hc]at C
  rw[sHas_of hz hi,←land_ne]
  have e1:=us_get (getD_at (s:=s) (i:=z) (by rw[hs.len];exact hz))
  have k1:=m_and (hs.getD_lt z) (pow_lt64 hi)
  have k2:numOp .neq (.int .u64 ((Nat.land (s.getD z 0) (2 ^ i):Nat):Int)) (.int .u64 0)=some (.bool (decide (Nat.land (s.getD z 0) (2 ^ i)≠0))):=by
   rw[m_neq]
   by_cases q:Nat.land (s.getD z 0) (2 ^ i)=0
   ·rw[q];rfl
   ·rw[decide_eq_true q]
    have:((Nat.land (s.getD z 0) (2 ^ i):Nat):Int)≠0:=by omega
    simp only[bne,beq_eq_false_iff_ne.2 this];rfl
  have k4:numOp .mul (.int .i64 8) (.int .i64 (ceOf z i).y)=some (.int .i64 (8*((i / 8:Nat):Int))):=m_mul (b:=((i / 8:Nat):Int)) (by omega) (by omega)
  have k5:numOp .add (.int .i64 (8*((i / 8:Nat):Int))) (.int .i64 (ceOf z i).x)=some (.int .i64 ((i:Nat):Int)):=m_add (b:=((i % 8:Nat):Int)) (by rw[wrapA_i64]<;>omega)
  have k6:=m_shl1 (k:= .u64) hi
  have k7:wrapA .u64 ((i:Nat):Int)=((i:Nat):Int):=wrapA_u64 (by omega)
  refine y4 ?_;refine yB ?_;refine yB ?_;refine yM ?_;refine y3 ?_;refine wE_seq ?_;refine wE_draw ?_
  refine qN ?_
  refine qC ?_
  refine FW.puD C (by apply ra_dropC rfl;exact ra_nil) ?_
  clear C
  refine qM ?_;refine qF ?_
  refine qL ?_
  refine wD_quiet rfl rfl rfl (by exact rfl) (by exact rfl) (by exact rfl) (a_iaddrA (by exact rfl) (by exact rfl) (by omega)) ?_
  refine wD_quiet rfl rfl rfl (by exact rfl) (by exact rfl) (by exact rfl) (a_load (by exact rfl) (by(simp(disch:=first|omega|(simp only[z1,z2];omega))only[z3,z4,z5,z6,z7,z1,z2];exact rfl)) (by assumption)) ?_
  refine qF ?_
  refine qL ?_
  refine wD_quiet rfl rfl rfl (by exact rfl) (by exact rfl) (by exact rfl) (a_num (by exact rfl) (by exact rfl) (by with_reducible assumption)) ?_;refine qF ?_
  refine qL ?_
  refine wD_quiet rfl rfl rfl (by exact rfl) (by exact rfl) (by exact rfl) (a_num (by exact rfl) (by exact rfl) (by with_reducible assumption)) ?_;refine wD_quiet rfl rfl rfl (by exact rfl) (by exact rfl) (by exact rfl) (a_conv (by exact rfl) (by assumption)) ?_
  refine wD_quiet rfl rfl rfl (by exact rfl) (by exact rfl) (by exact rfl) (a_num (by exact rfl) (by exact rfl) (by with_reducible assumption)) ?_;refine wD_quiet rfl rfl rfl (by exact rfl) (by exact rfl) (by exact rfl) (a_num (by exact rfl) (by exact rfl) (by with_reducible assumption)) ?_
  refine wD_quiet rfl rfl rfl (by exact rfl) (by exact rfl) (by exact rfl) (a_num (by exact rfl) (by exact rfl) (by with_reducible assumption)) ?_;refine wD_quiet rfl rfl rfl (by exact rfl) (by exact rfl) (by exact rfl) (a_pickT (by exact rfl) (by exact rfl)) ?_;refine qM ?_;refine wD_nil ?_
  refine y1 ?_;refine kS_n ?_;refine wE_ret ?_
  exact endP_ret hr.log rfl rfl
 ·have hc:inG c=false:=by simpa using hc
  rw[hc]at C
  rw[show sHas s c=false by unfold sHas;rw[hc];rfl]
  refine y4 ?_;refine yB ?_;refine yB ?_;refine yM ?_;refine y3 ?_;refine wE_seq ?_;refine wE_draw ?_
  refine qN ?_
  refine qC ?_
  refine FW.puD C (by apply ra_dropC rfl;exact ra_nil) ?_
  clear C
  refine qM ?_;refine wD_off rfl rfl rfl (by exact rfl) ?_;refine wD_off rfl rfl rfl (by exact rfl) ?_;refine wD_off rfl rfl rfl (by exact rfl) ?_;refine wD_off rfl rfl rfl (by exact rfl) ?_;refine wD_off rfl rfl rfl (by exact rfl) ?_;refine wD_off rfl rfl rfl (by exact rfl) ?_
  refine wD_off rfl rfl rfl (by exact rfl) ?_;refine wD_off rfl rfl rfl (by exact rfl) ?_;refine wD_off rfl rfl rfl (by exact rfl) ?_;refine wD_off rfl rfl rfl (by exact rfl) ?_;refine wD_off rfl rfl rfl (by exact rfl) ?_;refine wD_off rfl rfl rfl (by exact rfl) ?_;refine wD_off rfl rfl rfl (by exact rfl) ?_;refine wD_off rfl rfl rfl (by exact rfl) ?_
  refine wD_quiet rfl rfl rfl (by exact rfl) (by exact rfl) (by exact rfl) (a_pickF (by exact rfl) (by exact rfl)) ?_;refine qM ?_;refine wD_nil ?_;refine y1 ?_;refine kS_n ?_;refine wE_ret ?_
  exact endP_ret hr.log rfl rfl
end Go.A.Pk
end
section
set_option maxRecDepth 100000
namespace Go.A.Pk
variable {T:Nat→Option AFunc}
abbrev InS(h:Heap)(v:Value)(l:List Int):Prop:=SliceOf h 1 v l.length (ints l)
theorem InS.elem{h:Heap}{a:Option Addr}{n c:Nat}{l:List Int}(s:InS h (.slice a n c) l){i:Nat}{x:Int}(hi:l[i]? =some x):
 ∃b o vs own t,a=some ⟨b,o,none⟩∧h.get b=some (.cells vs own t)∧lget vs (o+i*1)=some (.int .i64 x):=by
 have hlt:=(List.getElem?_eq_some_iff.1 hi).1
 rcases SliceOf.inv s with⟨_,_,h0,_⟩|⟨b,o,cap,hv,s1,hc⟩
 ·omega
 ·cases hv
  obtain⟨vs,own,t,g1,g2⟩:=s1.obj
  refine⟨b,o,vs,own,t,rfl,g1,?_⟩
  rw[lget_eq]
  have e:(ints l)[i]? =some (.int .i64 x):=by simp[ints,hi]
  rw[←g2,ltake_eq,ldrop_eq,List.getElem?_take_of_lt (by omega),List.getElem?_drop]at e
  rw[Nat.mul_one];exact e
theorem InS.len{h:Heap}{a:Option Addr}{n c:Nat}{l:List Int}(s:InS h (.slice a n c) l):n=l.length:=by
 rcases SliceOf.inv s with⟨_,hv,h0,_⟩|⟨b,o,cap,hv,s1,hc⟩
 ·cases hv;exact h0.symm
 ·cases hv;rfl
end Go.A.Pk
end
section
set_option maxRecDepth 100000
namespace Go.A.Pk
variable {T:Nat→Option AFunc}
def ceN(n:Nat):Ce:=⟨(n % 8:Nat),(n / 8 % 8:Nat),(n / 64:Nat)⟩
def ceS(l:List Ce):List Value:=l.flatMap ceL
theorem ceS_app(a b:List Ce):ceS (a++b)=ceS a++ceS b:=by simp[ceS]
def cellsTo(s:List Nat)(n:Nat):List Ce:=((List.range n).map ceN).filter (sHas s)
theorem cellsTo_step(s:List Nat)(n:Nat):cellsTo s (n+1)=cellsTo s n++(if sHas s (ceN n)then [ceN n]else []):=by
 unfold cellsTo
 rw[List.range_succ,List.map_append,List.filter_append]
 congr 1
 simp only[List.map_cons,List.map_nil,List.filter_cons,List.filter_nil]
theorem cellsTo_le(s:List Nat)(n:Nat):(cellsTo s n).length≤n:=by
 unfold cellsTo
 exact Nat.le_trans (List.length_filter_le ..) (by simp)
structure FnsCr (T:Nat→Option AFunc):Prop where
 hr:FnsHr T
 f170:T 170=some f170
set_option maxHeartbeats 8000000 in
theorem cells170(F:FnsCr T){h:Heap}(hr:Rdy h){s:List Nat}(hs:IsS s):Al T 170 [sv s] h fun v h'=>Own h.next h' 3 v (cellsTo s 512).length (ceS (cellsTo s 512)):=by
 refine .of F.hr.p F.f170 hr ?_ ?_
 ·intro v h1 hv q
  generalize(cellsTo s 512).length=m at q⊢
  generalize ceS (cellsTo s 512)=cs at q⊢
  cases q with
  |nil=>exact .nil
  |full=>cases hv
 have k8:=us_llen hs.len
 have k9:=us_take8 hs.len
 have g0:(h.push (.cells (cellsOf (sv s)) true 1)).get h.next=some (.cells (us s) true 1):=z3 h _
 have x0:Ext h (h.push (.cells (cellsOf (sv s)) true 1)):=(Ext.refl h).push _
 have n0:(h.push (.cells (cellsOf (sv s)) true 1)).next=h.next+1:=rfl
 refine y4 ?_;refine yB ?_;refine yM ?_;refine y3 ?_
 generalize(h.push (.cells (cellsOf (sv s)) true 1))=H at*
 refine y4 ?_;refine yM ?_;refine y3 ?_;refine wE_seq ?_;refine y4 ?_;refine yM ?_;refine y3 ?_;refine wE_block ?_
 let J:=fun(n:Nat) (v:Value) (h':Heap)=>Ext h h'∧h.next<h'.next∧h'.get h.next=some (.cells (us s) true 1)∧Own (h.next+1) h' 3 v (cellsTo s n).length (ceS (cellsTo s n))
 refine wE_loop (fun m e ds h'=>∃(z:Nat) (v:Value),z≤8∧m=8-z∧e=[(1, .pointer (some ⟨h.next,0,none⟩)),(3,v),(4, .int .i64 (z:Nat))]∧ds=[]∧J (z*64) v h')
  ⟨0,_,by omega,rfl,rfl,rfl,x0,by omega,g0, .nil⟩ ?_
 rintro m e ds H1 ⟨z,v,hz8,rfl,rfl,rfl,j1⟩
 by_cases hz:z<8
 ·refine wE_seq ?_;refine y4 ?_;refine yM ?_;refine yt ?_;refine y3 ?_;refine yY ?_;refine wE_skip ?_;refine kS_n ?_
  refine wE_seq ?_;refine wE_block ?_;refine y4 ?_;refine yM ?_;refine y3 ?_;refine wE_block ?_
  refine wE_loop (fun m e ds h'=>∃(y:Nat) (v:Value),y≤8∧m=8-y∧e=[(1, .pointer (some ⟨h.next,0,none⟩)),(3,v),(4, .int .i64 (z:Nat)),(5, .int .i64 (y:Nat))]∧ds=[]∧J (z*64+y*8) v h')
   ⟨0,v,by omega,rfl,rfl,rfl,j1⟩ ?_
  rintro m e ds H2 ⟨y,v,hy8,rfl,rfl,rfl,j2⟩
  clear j1
  by_cases hy:y<8
  ·refine wE_seq ?_;refine y4 ?_;refine yM ?_;refine yt ?_;refine y3 ?_;refine yY ?_;refine wE_skip ?_;refine kS_n ?_
   refine wE_seq ?_;refine wE_block ?_;refine y4 ?_;refine yM ?_;refine y3 ?_;refine wE_block ?_
   refine wE_loop (fun m e ds h'=>∃(x:Nat) (v:Value),x≤8∧m=8-x∧e=[(1, .pointer (some ⟨h.next,0,none⟩)),(3,v),(4, .int .i64 (z:Nat)),(5, .int .i64 (y:Nat)),(6, .int .i64 (x:Nat))]∧ds=[]∧J (z*64+y*8+x) v h')
    ⟨0,v,by omega,rfl,rfl,rfl,j2⟩ ?_
   rintro m e ds H3 ⟨x,v,hx8,rfl,rfl,rfl,j3⟩
   clear j2
   by_cases hx:x<8
   ·obtain⟨x3,n3,g3,ow⟩:=j3
    refine wE_seq ?_;refine y4 ?_;refine yM ?_;refine yt ?_;refine y3 ?_;refine yY ?_;refine wE_skip ?_;refine kS_n ?_
    refine wE_seq ?_;refine wE_block ?_
    refine wE_cutP (E0:=[(1, .pointer (some ⟨h.next,0,none⟩)),(3,v),(4, .int .i64 (z:Nat)),(5, .int .i64 (y:Nat)),(6, .int .i64 (x:Nat)),(7, .pointer (some ⟨H3.next,0,none⟩))]) (P:=fun h'=>Ext H3 h'∧h'.next=H3.next+1∧h'.get H3.next=some (.cells (ceL ⟨(x:Nat),(y:Nat),(z:Nat)⟩) true 1)) ?_ ?_
    ·refine wE_region ?_;refine yM ?_;refine yM ?_;refine yM ?_;refine wO_val (a_build (by exact rfl)) ?_;refine wO_val (a_new) ?_
     refine yS ?_;refine wO_nil ?_
     refine y1 ?_
     exact⟨rfl,rfl,rfl,ext_pw (by omega) _ _,rfl,get_pw _ _⟩
    rintro H4 ⟨x4,n4,g4⟩
    have hce:ceN (z*64+y*8+x)=⟨(x:Nat),(y:Nat),(z:Nat)⟩:=by
     unfold ceN
     rw[show(z*64+y*8+x) % 8=x by omega,show(z*64+y*8+x) / 8 % 8=y by omega,show(z*64+y*8+x) / 64=z by omega]
    have hst:=cellsTo_step s (z*64+y*8+x)
    rw[hce]at hst
    have hle:=cellsTo_le s (z*64+y*8+x)
    have ey0':=x3.trans x4
    have W4:=ey0'.wf hr.wf
    have g5:=(x4.old _ n3).trans g3
    have ow5:=ow.ext x4
    generalize hce2:(⟨(x:Nat),(y:Nat),(z:Nat)⟩:Ce)=ce at*
    have C:=has171 F.hr (.of W4) hs ce
    have ck:ltake 3 (ldrop 0 (ceL ce))=ceL ce:=rfl
    have ckl:Nat.beq (llen (ceL ce)) 3=true:=rfl
    clear g3 ow
    refine y4 ?_;refine wO_val (a_loadN (by exact rfl) (by assumption) (by assumption) (by assumption)) ?_;refine yN ?_
    refine yC ?_
    refine FW.pu C ?_
    clear C
    cases hb:sHas s ce with
    |false=>
     rw[hb,if_neg (by simp),List.append_nil]at hst
     refine y3 ?_;refine yX ?_;refine wE_skip ?_;refine kB_n ?_;refine kS_n ?_;refine wE_region ?_;refine yM ?_;refine yinc ?_
     refine yM ?_;refine y3 ?_
     refine⟨8-(x+1),by omega,x+1,v,by omega,rfl,rfl,rfl,ey0',by omega,g5,?_⟩
     show Own _ _ _ _ (cellsTo s (z*64+y*8+x+1)).length (ceS (cellsTo s (z*64+y*8+x+1)))
     rw[hst];exact ow5
    |true=>
     rw[hb,if_pos rfl]at hst
     refine y3 ?_;refine yY ?_;refine wE_region ?_;refine yM ?_;refine yN ?_;refine wO_val (a_bslice (by exact rfl) (by exact rfl)) ?_
     refine wO_app1 (lo:=h.next+1) (sz:=3) (v:=v) (c1:=ceL ce) (ow5.ext ((Ext.refl H4).push _)) (by omega) (by omega) (by omega) (by show h.next+1≤H4.next+1;omega) (by omega) (by exact rfl) (by exact rfl) (src_slice (cs:=ceL ce) (by(simp(disch:=first|omega|(simp only[z1,z2];omega))only[z3,z4,z5,z6,z7,z1,z2,g0,g5,g4];exact rfl)) rfl rfl) rfl rfl ?_
     intro v' h5 o5 x5
     have ey5:Lx (h.next+1) H4 h5:=((Lx.refl (h.next+1) H4).push (by omega) _).trans x5
     have n5:=ey5.next
     refine yM ?_;refine wO_nil ?_;refine y1 ?_;refine kB_n ?_;refine kS_n ?_;refine wE_region ?_;refine yM ?_;refine yinc ?_;refine yM ?_;refine y3 ?_
     refine⟨8-(x+1),by omega,x+1,v',by omega,rfl,rfl,rfl,⟨Nat.le_trans ey0'.next n5,ey5.log.trans ey0'.log,fun b hb=>(ey5.old b (by omega)).trans (ey0'.old b hb),fun w=>ey5.wf (ey0'.wf w)⟩,by omega,(ey5.old _ (by omega)).trans g5,?_⟩
     show Own _ _ _ _ (cellsTo s (z*64+y*8+x+1)).length (ceS (cellsTo s (z*64+y*8+x+1)))
     rw[hst,List.length_append,ceS_app]
     have e:ceS [ce]=ceL ce:=by simp[ceS]
     rw[e];exact o5
   ·obtain rfl:x=8:=by omega
    refine wE_seq ?_;refine y4 ?_;refine yM ?_;refine yf ?_;refine y3 ?_;refine yX ?_;refine wE_exit ?_;refine kS_e ?_
    refine kS_e ?_;refine kB_e ?_;refine kB_n ?_;refine kS_n ?_;refine wE_region ?_;refine yM ?_;refine yinc ?_;refine yM ?_;refine y3 ?_
    refine⟨8-(y+1),by omega,y+1,v,by omega,rfl,rfl,rfl,?_⟩
    rw[show z*64+(y+1)*8=z*64+y*8+8 by omega];exact j3
  ·obtain rfl:y=8:=by omega
   refine wE_seq ?_;refine y4 ?_;refine yM ?_;refine yf ?_;refine y3 ?_;refine yX ?_;refine wE_exit ?_;refine kS_e ?_
   refine kS_e ?_;refine kB_e ?_;refine kB_n ?_;refine kS_n ?_;refine wE_region ?_;refine yM ?_;refine yinc ?_;refine yM ?_;refine y3 ?_
   refine⟨8-(z+1),by omega,z+1,v,by omega,rfl,rfl,rfl,?_⟩
   rw[show(z+1)*64=z*64+8*8 by omega];exact j2
 ·obtain rfl:z=8:=by omega
  obtain⟨x1,n1,g1,ow⟩:=j1
  refine wE_seq ?_;refine y4 ?_;refine yM ?_;refine yf ?_;refine y3 ?_;refine yX ?_;refine wE_exit ?_;refine kS_e ?_
  refine kS_e ?_;refine kB_e ?_;refine kS_n ?_;refine y4 ?_;refine yM ?_;refine yM ?_;refine y3 ?_;refine wE_ret ?_
  exact endA_ret (x1.log.trans hr.log) rfl (ow.low (Nat.le_succ _))
end Go.A.Pk
end
section
set_option maxRecDepth 100000
namespace Go.A.Pk
def planeC(s:List Nat)(z:Nat):List Ce:=(bitsOf (s.getD z 0)).map (ceOf z)
theorem ceN_of{z i:Nat}(hi:i<64):ceN (z*64+i)=ceOf z i:=by
 unfold ceN ceOf
 rw[show(z*64+i) % 8=i % 8 by omega,show(z*64+i) / 8 % 8=i / 8 by omega,show(z*64+i) / 64=z by omega]
theorem cellsTo_plane(s:List Nat){z:Nat}(hz:z<8):cellsTo s ((z+1)*64)=cellsTo s (z*64)++planeC s z:=by
 unfold cellsTo planeC bitsOf
 rw[show(z+1)*64=z*64+64 by omega,List.range_add,List.map_append,List.filter_append]
 congr 1
 rw[List.map_map,List.filter_map]
 have e1:(List.range 64).filter (sHas s ∘ (ceN ∘ fun x=>z*64+x))=(List.range 64).filter (Nat.testBit (s.getD z 0)):=by
  apply List.filter_congr
  intro i hi
  have hi:=List.mem_range.1 hi
  show sHas s (ceN (z*64+i))=_
  rw[ceN_of hi,sHas_of hz hi]
 rw[e1]
 apply List.map_congr_left
 intro i hi
 have hi:=List.mem_range.1 (List.mem_filter.1 hi).1
 exact ceN_of hi
end Go.A.Pk
end
section
set_option maxRecDepth 100000
namespace Go.A.Pk
theorem getD_zip{f:Nat→Nat→Nat}{a b:List Nat}(ha:IsS a)(hb:IsS b){z:Nat}(hz:z<8):(List.zipWith f a b).getD z 0=f (a.getD z 0) (b.getD z 0):=by
 have e1:=getD_at (s:=a) (i:=z) (by rw[ha.len];exact hz)
 have e2:=getD_at (s:=b) (i:=z) (by rw[hb.len];exact hz)
 rw[List.getD_eq_getElem?_getD,List.getElem?_zipWith,e1,e2];rfl
theorem sHas_out{s:List Nat}{c:Ce}(hc:¬inG c=true):sHas s c=false:=by
 unfold sHas
 rw[Bool.not_eq_true]at hc
 rw[hc];rfl
theorem sHas_s0(c:Ce):sHas s0 c=false:=by
 by_cases hc:inG c=true
 ·obtain⟨z,i,hz,hi,rfl⟩:=inG_form hc
  rw[sHas_of hz hi]
  have:∀z:Fin 8,s0.getD z.val 0=0:=by decide
  rw[this ⟨z,hz⟩]
  exact Nat.zero_testBit i
 ·exact sHas_out hc
theorem mem_cells{s:List Nat}{n:Nat}{c:Ce}(h:c∈cellsTo s n):sHas s c=true:=(List.mem_filter.1 h).2
structure Dou where
 c:Ce
 ids:List Int
 is:Bool
 e:Int
def c0:Ce:=⟨0,0,0⟩
def DouQ(p:Dou)(v:Value)(h:Heap):Prop:=∃u,v= .tuple #[ceV p.c,u, .bool p.is, .int .i64 p.e]∧InS h u p.ids
theorem DouQ.flat{p:Dou}{v:Value}{h h':Heap}(hv:noRef v=true)(q:DouQ p v h):DouQ p v h':=by
 obtain⟨u,rfl,s⟩:=q
 refine⟨u,rfl,?_⟩
 rcases SliceOf.inv s with⟨c',rfl,h0,e1⟩|⟨b,o,cap',rfl,s1,hc⟩
 ·show SliceOf _ _ _ _ _
  rw[h0,e1];exact .nil
 ·simp[noRef,flatL,scalL,ceV,flat]at hv
  cases hv.2.1
theorem InS.nil{h:Heap}{c:Nat}:InS h (.slice none 0 c) []:=SliceOf.nil
theorem DouQ.none{h:Heap}(p:Dou)(hi:p.ids=[]){c:Nat}:DouQ p (.tuple #[ceV p.c, .slice none 0 c, .bool p.is, .int .i64 p.e]) h:=⟨_,rfl,by rw[hi];exact .nil⟩
end Go.A.Pk
end
section
set_option maxRecDepth 100000
namespace Go.A.Pk
variable {T:Nat→Option AFunc}
section
open I
end
theorem WE.genC{base:Nat}{rnd:Option Nat}{c:ACode}{Q:XQ}{e:Env}{ds:Dfs}{h:Heap}(hK:∀hA,hA=h→WE T base rnd c Q e ds hA):WE T base rnd c Q e ds h:=hK h rfl
theorem cells_pre(s:List Nat){n:Nat}:∀m,∃r,cellsTo s (n+m)=cellsTo s n++r
 |0=>⟨[],by simp⟩
 |m+1=>by
  obtain⟨r,e⟩:=cells_pre s (n:=n) m
  exact⟨r++(if sHas s (ceN (n+m))then [ceN (n+m)]else []),by rw[←Nat.add_assoc,cellsTo_step,e,List.append_assoc]⟩
structure FnsCp (T:Nat→Option AFunc):Prop where
 p:primAS T
 f123:T 123=some f123
 f213:T 213=some f213
 f214:T 214=some f214
 f264:T 264=some f264
 f265:T 265=some f265
 f266:T 266=some f266
structure PCe (l q:Nat) (H0:Heap) (L:AObj) (done:List Ce) (H:Heap):Prop where
 old:∀z,z<q→H.get z=H0.get z
 loop:H.get l=some L
 nx:l<H.next
 val:∃v,H.get q=some (.cells [v] true 1)∧Own (l+1) H 3 v done.length (ceS done)
theorem PCe.stable{l q:Nat}{H0:Heap}{L:AObj}(hq:q<l)(done:List Ce)(H H':Heap)(p:PCe l q H0 L done H)(hn:H.next≤H'.next)(h:∀x,x<H.next→H'.get x=H.get x):PCe l q H0 L done H':=by
 obtain⟨p1,p2,p3,v,p4,p5⟩:=p
 exact⟨fun z hz=>(h z (by omega)).trans (p1 z hz),(h l p3).trans p2,by omega,v,(h q (by omega)).trans p4,p5.keep hn fun z _ hz=>h z hz⟩
def fnC(q0:Nat):Value:= .func (.func 265) #[] #[.pointer (some ⟨q0,0,none⟩)]
theorem Own.flat{lo lo' sz n:Nat}{h h':Heap}{v:Value}{cs:List Value}(hv:noRef v=true)(s:Own lo h sz v n cs):Own lo' h' sz v n cs:=by
 cases s with
 |nil=>exact .nil
 |full=>cases hv
theorem cells214(F:FnsCp T){h:Heap}(hr:Rdy h){s:List Nat}(hs:IsS s):
 Al T 214 [sv s] h fun v h'=>∃q,v=fnC q∧h'.get q=some (.cells (us s) true 1)∧h.next≤q∧q<h'.next:=by
 refine .of F.p F.f214 hr ?_ ?_
 ·rintro v h1 hv ⟨q,rfl,_⟩
  cases hv
 refine y4 ?_;refine yB ?_;refine yM ?_;refine y3 ?_;refine y4 ?_;refine wO_val (a_mkFunc (by exact rfl) (by exact rfl)) ?_
 refine yM ?_;refine y3 ?_;refine wE_ret ?_
 exact endA_ret hr.log rfl ⟨h.next,rfl,z3 _ _,Nat.le_refl _,Nat.lt_succ_self _⟩
end Go.A.Pk
end
section
set_option maxRecDepth 100000
namespace Go.A.Pk
variable {T:Nat→Option AFunc}
set_option maxHeartbeats 8000000 in
theorem cells265X(F:FnsCp T){h:Heap}(hr:Rdy h){q0 l N lo:Nat}{s:List Nat}(hs:IsS s){P:List Ce→Heap→Prop}{S:Heap→Prop}(hN:N≤h.next)(hlo:lo≤h.next)(hlN:l<N)(Y:YldX T lo N l ceV (cellsTo s 512) P S)
 (g0:h.get q0=some (.cells (us s) true 1))(htab:∀d H,P d H→Tab H)(h0:P [] h):
 GrX T 265 [.func (.yield l) #[] #[], .pointer (some ⟨q0,0,none⟩)] h lo (P (cellsTo s 512)) S:=by
 have hlb:l<h.next:=by omega
 have hp:=F.p
 have k8:=us_llen hs.len
 have k9:=us_take8 hs.len
 refine GrX.of (l:=l) hp F.f265 hlo hlb (fun h1 h2 hn ha q=>Y.stable _ _ _ q (Nat.le_trans hN hn) fun x hx=>ha x (by omega)) Y.sloop ?_
 refine y4 ?_;refine wO_val (a_loadN (by exact rfl) (by assumption) (by assumption) (by assumption)) ?_;refine yM ?_;refine y3 ?_;refine wE_block ?_
 refine wE_loop (fun k e ds h'=>∃z:Nat,z≤8∧8-z=k∧e=[(0, .func (.yield l) #[] #[]),(6,sv s),(7, .int .i64 (z:Nat))]∧ds=[]∧Lk lo h h'∧P (cellsTo s (z*64)) h')
  ⟨0,by omega,rfl,rfl,rfl, .refl _ _,h0⟩ ?_
 rintro k e ds h' ⟨z,hz8,rfl,rfl,rfl,hk,hP⟩
 by_cases hz:z<8
 ·have e1:lget (us s).toArray.toList (z*1)=some (.int .u64 ((s.getD z 0:Nat):Int)):=by
   rw[List.toList_toArray,Nat.mul_one,lget_eq]
   unfold us
   rw[List.getElem?_map,getD_at (by rw[hs.len];exact hz)];rfl
  have hx0:=hs.getD_lt z
  obtain⟨rest,hrest⟩:∃r,cellsTo s 512=cellsTo s (z*64)++planeC s z++r:=by
   obtain⟨r,e⟩:=cells_pre s (n:=(z+1)*64) (512-(z+1)*64)
   rw[show(z+1)*64+(512-(z+1)*64)=512 by omega,cellsTo_plane s hz]at e
   exact⟨r,e⟩
  have hplane:=cellsTo_plane s hz
  have hpl:planeC s z=(bitsOf (s.getD z 0)).map (ceOf z):=rfl
  generalize hx:s.getD z 0=x0 at*
  generalize planeC s z=pl at*
  refine y4 ?_;refine yt ?_;refine y3 ?_;refine wE_seq ?_;refine yY ?_;refine wE_skip ?_;refine kS_n ?_;refine wE_seq ?_;refine wE_block ?_;refine y4 ?_;refine yM ?_;refine wO_val (a_idxA (by exact rfl) (by exact rfl) (by omega) (by assumption)) ?_;refine yM ?_;refine yM ?_;refine y3 ?_;refine wE_block ?_
  refine wE_loop (fun k e ds h''=>∃(x:Nat) (d:List Ce),x<U64∧d++(bitsOf x).map (ceOf z)=pl∧(bitsOf x).length=k∧e=[(0, .func (.yield l) #[] #[]),(3, .int .i64 (z:Nat)),(4, .int .u64 (x:Nat)),(6,sv s),(7, .int .i64 (z:Nat))]∧ds=[]∧Lk lo h h''∧P (cellsTo s (z*64)++d) h'')
   ⟨x0,[],hx0,by rw[hpl];rfl,rfl,rfl,rfl,hk,by rw[List.append_nil];exact hP⟩ ?_
  clear hP hk h'
  rintro k e ds h' ⟨x,d,hxl,hd,rfl,rfl,rfl,hk,hP⟩
  by_cases hx:x=0
  ·subst hx
   rw[bitsOf_zero]at hd
   have hd:d=pl:=by simpa using hd
   subst hd
   rw[←hplane]at hP
   refine wE_seq ?_;refine y4 ?_;refine yM ?_;refine yf ?_;refine y3 ?_;refine yX ?_;refine wE_exit ?_;refine kS_e ?_
   refine kS_e ?_;refine kB_e ?_;refine kB_n ?_;refine kS_n ?_;refine wE_region ?_;refine yinc ?_;refine yM ?_;refine y3 ?_
   exact⟨8-(z+1),by omega,z+1,by omega,rfl,rfl,rfl,hk,hP⟩
  ·obtain⟨b,m,hform⟩:=odd_form x hx
   have hb64:=(low_and hform hxl).1
   have hstep:=bitsOf_step hform hxl
   have m1:numOp .neq (.int .u64 (x:Nat)) (.int .u64 0)=some (.bool true):=m_neqT (by omega)
   have C:=tz266 F.p F.f266 (h:={h' with log:=[]}) (.of (hk.wf hr.wf)) (show Tab h' from htab _ _ hP) hxl hform
   have m2:numOp .rem (.int .i64 (b:Nat)) (.int .i64 8)=some (.int .i64 ((b % 8:Nat):Int)):=m_rem8
   have m3:numOp .quo (.int .i64 (b:Nat)) (.int .i64 8)=some (.int .i64 ((b / 8:Nat):Int)):=m_quo8 (by omega)
   have m4:numOp .sub (.int .u64 (x:Nat)) (.int .u64 1)=some (.int .u64 ((x-1:Nat):Int)):=m_sub (by rw[show(x:Int)-1=((x-1:Nat):Int)by omega];exact wrapA_u64 (by unfold U64 at hxl;omega))
   have m5:=m_and (a:=x) (b:=x-1) hxl (Nat.lt_of_le_of_lt (Nat.sub_le x 1) hxl)
   rw[hstep]at hd⊢
   have hlt:Nat.land x (x-1)<U64:=land_lt hxl
   generalize Nat.land x (x-1)=x' at*
   rw[List.map_cons]at hd
   have hsp:cellsTo s 512=(cellsTo s (z*64)++d)++ceOf z b::((bitsOf x').map (ceOf z)++rest):=by
    rw[hrest,←hd];simp
   refine wE_seq ?_;refine y4 ?_;refine yM ?_;refine wO_val (a_num (by exact rfl) (by exact rfl) (by with_reducible assumption)) ?_;refine y3 ?_;refine yY ?_;refine wE_skip ?_;refine kS_n ?_
   refine wE_seq ?_;refine wE_block ?_;refine y4 ?_;refine yM ?_
   refine yC ?_
   refine FW.pu C ?_
   clear C
   refine yM ?_;refine y3 ?_;refine y4 ?_;refine yM ?_;refine yM ?_;refine wO_val (a_num (by exact rfl) (by exact rfl) (by with_reducible assumption)) ?_
   refine yM ?_;refine wO_val (a_num (by exact rfl) (by exact rfl) (by with_reducible assumption)) ?_;refine yM ?_;refine wO_val (a_build (by exact rfl)) ?_
   refine wO_call (fn:= .yield l) (args:=[ceV (ceOf z b)]) (by rfl) ?_
   refine Y.call hp (by rw[hsp];simp) (hk.wf hr.wf) (Nat.le_trans hlo hk.next) (Nat.le_trans hN hk.next) hlb hP ?_ ?_
   rotate_left
   ·intro h9 hk9 hm9 hS9
    refine yA ?_;refine y3 ?_;refine yY ?_;refine wE_ret ?_;refine kB_r ?_;refine kS_r ?_;refine kS_r ?_;refine kB_r ?_;refine kB_r ?_;refine kS_r ?_;refine kS_r ?_;refine kB_r ?_
    exact endX_ret ((hk.trans hk9).log (by rw[hr.log];exact LogGe.nil _)) rfl hm9 hS9
   intro h2 hk2 _ hP2
   refine yA ?_;refine y3 ?_;refine yX ?_;refine wE_skip ?_;refine kB_n ?_;refine kS_n ?_;refine wE_region ?_;refine yM ?_;refine yM ?_
   refine wO_val (a_num (by exact rfl) (by exact rfl) (by with_reducible assumption)) ?_;refine wO_val (a_num (by exact rfl) (by exact rfl) (by with_reducible assumption)) ?_;refine yM ?_;refine y3 ?_
   exact⟨(bitsOf x').length,by simp,x',d++[ceOf z b],hlt,by rw[←hd];simp,rfl,rfl,rfl,hk.trans hk2,by rw[←List.append_assoc];exact hP2⟩
 ·obtain rfl:z=8:=by omega
  refine y4 ?_;refine yf ?_;refine y3 ?_;refine wE_seq ?_;refine yX ?_;refine wE_exit ?_;refine kS_e ?_;refine kS_e ?_;refine kB_e ?_
  exact endX_end (hk.log (by rw[hr.log];exact LogGe.nil _)) rfl hP
end Go.A.Pk
end
section
set_option maxRecDepth 100000
namespace Go.A.Pk
variable {T:Nat→Option AFunc}
structure Bx where
 lo:Ce
 hi:Ce
 deriving DecidableEq
def bxL(b:Bx):List Value:=ceL b.lo++ceL b.hi
def bxV(b:Bx):Value:= .agg (bxL b).toArray
def bxUp(b:Bx)(c:Ce):Bx:=⟨⟨mi b.lo.x c.x,mi b.lo.y c.y,mi b.lo.z c.z⟩,⟨mx b.hi.x c.x,mx b.hi.y c.y,mx b.hi.z c.z⟩⟩
def bx0:Bx:=⟨⟨7,7,7⟩,⟨0,0,0⟩⟩
def bxS(l:List Ce):Bx:=l.foldl bxUp bx0
theorem bxS_snoc(l:List Ce)(c:Ce):bxS (l++[c])=bxUp (bxS l) c:=by unfold bxS;rw[List.foldl_append];rfl
section
open I
def asg210:ACode:=I.R [g 5 (.new [O,O,O]),S 3 5 16] [4,5]
def bod210:ACode:=(.block 1 (Q (I.R [A 17 0 4,A 18 3 4,M 6 17,M 7 18] [5,6,7]) (Q (.draw [M 19 6,M 20 6,M 21 6,M 22 6,g 23 (.nilchk (t 22)),A 24 0 23,L 25 24,A 26 0 5,L 27 26,g 28 (.minmax false [(t 25),(t 27)]),M 29 6,g 30 (.nilchk (t 29)),A 31 1 30,L 32 31,A 33 1 5,L 34 33,g 35 (.minmax false [(t 32),(t 34)]),M 36 6,g 37 (.nilchk (t 36)),A 38 2 37,L 39 38,A 40 2 5,L 41 40,g 42 (.minmax false [(t 39),(t 41)]),g 43 (.nilchk (t 19)),A 44 0 43,S 1 44 28,g 45 (.nilchk (t 20)),A 46 1 45,S 1 46 35,g 47 (.nilchk (t 21)),A 48 2 47,S 1 48 42] [0,1,2,3,4,5,6,7,8,9,10,11,12,13,14,15,16,17,18,19,20,21,22,23,24,25,26,27,28,29,30,31,32] [0,0,0,0,8,24,56,0,128,504,0,1024,3072,7168,0,16384,64512,0,131072,393216,917504,0,2097152,8257536,1982457,18759673,52314105,119537659,253755387,522190843,1073741823,2147483647,4294967295] [5,7])
 (.draw [M 49 7,M 50 7,M 51 7,M 52 7,g 53 (.nilchk (t 52)),A 54 0 53,L 55 54,A 56 0 5,L 57 56,g 58 (.minmax true [(t 55),(t 57)]),M 59 7,g 60 (.nilchk (t 59)),A 61 1 60,L 62 61,A 63 1 5,L 64 63,g 65 (.minmax true [(t 62),(t 64)]),M 66 7,g 67 (.nilchk (t 66)),A 68 2 67,L 69 68,A 70 2 5,L 71 70,g 72 (.minmax true [(t 69),(t 71)]),g 73 (.nilchk (t 49)),A 74 0 73,S 1 74 58,g 75 (.nilchk (t 50)),A 76 1 75,S 1 76 65,g 77 (.nilchk (t 51)),A 78 2 77,S 1 78 72] [0,1,2,3,4,5,6,7,8,9,10,11,12,13,14,15,16,17,18,19,20,21,22,23,24,25,26,27,28,29,30,31,32] [0,0,0,0,8,24,56,0,128,504,0,1024,3072,7168,0,16384,64512,0,131072,393216,917504,0,2097152,8257536,1982457,18759673,52314105,119537659,253755387,522190843,1073741823,2147483647,4294967295] []))))
end
set_option maxHeartbeats 16000000 in
theorem bx_round(hp:primAS T){H:Heap}(hr:Rdy H){q l lo N:Nat}{fv fv2:Value}{b:Bx}{c:Ce}(hlo:lo≤q)(hql:q<l)(hlN:l<N)
 (gl:H.get l=some (.loop [(2,fv2),(4, .pointer (some ⟨q,0,none⟩)),(15,fv)] [16] asg210 bod210 0 .normal))
 (go:H.get q=some (.cells (bxL b) true 1)){S:Heap→Prop}:
 FW T (.yield l) [ceV c] H fun r H'=>(∀z∈H'.log,lo≤z∧z<N)∧(r= .ret (.bool true)∧(H'.get q=some (.cells (bxL (bxUp b c)) true 1)∧(∀z,z<H.next→z≠q→H'.get z=H.get z)∧H.next≤H'.next)∨r= .ret (.bool false)∧l∈H'.log∧S H'):=by
 have no:q≠l:=by omega
 have ko:=hr.wf.get_lt go
 have kl:=hr.wf.get_lt gl
 refine FW.yieldX hp (R:=fun H'=>H'.get q=some (.cells (bxL (bxUp b c)) true 1)∧(∀z,z<H.next→z≠q→H'.get z=H.get z)∧H.next≤H'.next) gl rfl kl ⟨by omega,hlN⟩ ?_
 unfold asg210
 refine wE_region ?_;refine wO_val (a_new) ?_;refine yS ?_;refine wO_nil ?_
 refine y1 ?_
 refine⟨rfl,by(simp(disch:=first|omega|(simp only[z1,z2];omega))only[z3,z4,z5,z6,z7,z1,z2,gl,go];exact rfl),?_⟩
 unfold bod210
 refine wE_block ?_
 refine WE.genC ?_
 intro hA hAe
 have A1:∀z,z<H.next→z≠l→H.get z=hA.get z:=fun z hz hne=>by rw[hAe];symm;simp(disch:=first|omega|(simp only[z1,z2];omega))only[z5,z4]
 have A3:hA.get H.next=some (.cells (ceL c) true 1):=by rw[hAe];(simp(disch:=first|omega|(simp only[z1,z2];omega))only[z3,z4,z5,z6,z7,z1,z2,gl,go];exact rfl)
 have A2:hA.get l=some (.loop [(2,fv2),(4, .pointer (some ⟨q,0,none⟩)),(15,fv)] [16] asg210 bod210 1 .normal):=by rw[hAe];(simp(disch:=first|omega|(simp only[z1,z2];omega))only[z3,z4,z5,z6,z7,z1,z2,gl,go,A3];exact rfl)
 have A5:hA.next=H.next+1:=by rw[hAe];rfl
 have A6:hA.log=[]:=by rw[hAe];simp(disch:=first|omega|(simp only[z1,z2];omega))only[Heap.log_wr_new,Heap.log_push];exact hr.log
 have A7:WF hA:=by rw[hAe];exact(((hr.wf.push _).as (AS.wr _ _ _ _)).as (AS.wr _ _ _ _))
 clear hAe
 have Bo:=(A1 q ko no).symm.trans go
 obtain⟨⟨x1,y1',z1'⟩,⟨x2,y2',z2'⟩⟩:=b
 obtain⟨cx,cy,cz⟩:=c
 unfold bxL ceL at Bo
 dsimp only[List.cons_append,List.nil_append]at Bo
 unfold ceL at A3
 dsimp only at A3
 clear go
 refine y4 ?_;refine yF ?_;refine yF ?_;refine yM ?_;refine yM ?_;refine y3 ?_;refine wE_seq ?_;refine wE_draw ?_
 refine qM ?_;refine qM ?_;refine qM ?_;refine qM ?_
 refine wD_quiet rfl rfl rfl (by exact rfl) (by exact rfl) (by exact rfl) (a_nilchk (by exact rfl)) ?_;refine qF ?_;refine qL ?_
 refine qF ?_;refine qL ?_;refine wD_quiet rfl rfl rfl (by exact rfl) (by exact rfl) (by exact rfl) (a_minI (by exact rfl) (by exact rfl)) ?_
 refine qM ?_;refine wD_quiet rfl rfl rfl (by exact rfl) (by exact rfl) (by exact rfl) (a_nilchk (by exact rfl)) ?_;refine qF ?_
 refine qL ?_;refine qF ?_;refine qL ?_
 refine wD_quiet rfl rfl rfl (by exact rfl) (by exact rfl) (by exact rfl) (a_minI (by exact rfl) (by exact rfl)) ?_;refine qM ?_;refine wD_quiet rfl rfl rfl (by exact rfl) (by exact rfl) (by exact rfl) (a_nilchk (by exact rfl)) ?_
 refine qF ?_;refine qL ?_;refine qF ?_
 refine qL ?_;refine wD_quiet rfl rfl rfl (by exact rfl) (by exact rfl) (by exact rfl) (a_minI (by exact rfl) (by exact rfl)) ?_;refine wD_quiet rfl rfl rfl (by exact rfl) (by exact rfl) (by exact rfl) (a_nilchk (by exact rfl)) ?_
 refine qF ?_
 refine wD_storeA (vs:=[.int .i64 x1, .int .i64 y1', .int .i64 z1', .int .i64 x2, .int .i64 y2', .int .i64 z2']) (ws:=[.int .i64 (mi x1 cx), .int .i64 y1', .int .i64 z1', .int .i64 x2, .int .i64 y2', .int .i64 z2']) rfl rfl rfl (by exact rfl) (by exact rfl) (by exact rfl) (Bo) (by exact rfl) (by exact rfl) (by show q<hA.next;omega) (by apply ra_dropC rfl;apply ra_dropC rfl;apply ra_keepC rfl (rq_quiet rfl (a_minI (by exact rfl) (by exact rfl)) (by exact sv_int _ _)) rfl;apply ra_keepC rfl (rq_quiet rfl (a_load (by exact rfl) (by(simp(disch:=first|omega|(simp only[z1,z2];omega))only[z3,z4,z5,z6,z7,z1,z2,gl,A2,Bo,A3];exact rfl)) (by exact rfl)) (by exact sv_int _ _)) rfl;apply ra_keepC rfl (rq_quiet rfl (a_faddr (by exact rfl)) (by exact sv_ptr _)) rfl;apply ra_dropC rfl;apply ra_dropC rfl;apply ra_dropC rfl;apply ra_dropC rfl;apply ra_keepC rfl (rq_quiet rfl (a_minI (by exact rfl) (by exact rfl)) (by exact sv_int _ _)) rfl;apply ra_keepC rfl (rq_quiet rfl (a_load (by exact rfl) (by(simp(disch:=first|omega|(simp only[z1,z2];omega))only[z3,z4,z5,z6,z7,z1,z2,gl,A2,Bo,A3];exact rfl)) (by exact rfl)) (by exact sv_int _ _)) rfl;apply ra_keepC rfl (rq_quiet rfl (a_faddr (by exact rfl)) (by exact sv_ptr _)) rfl;apply ra_dropC rfl;apply ra_dropC rfl;apply ra_dropC rfl;apply ra_dropC rfl;apply ra_dropC rfl;apply ra_dropC rfl;apply ra_dropC rfl;apply ra_dropC rfl;apply ra_dropC rfl;apply ra_dropC rfl;apply ra_dropC rfl;apply ra_keepC rfl (rq_quiet rfl (a_mov (by exact rfl)) (by exact sv_ptr _)) rfl;apply ra_keepC rfl (rq_quiet rfl (a_mov (by exact rfl)) (by exact sv_ptr _)) rfl;apply ra_dropC rfl;exact ra_nil) ?_
 refine wD_quiet rfl rfl rfl (by exact rfl) (by exact rfl) (by exact rfl) (a_nilchk (by exact rfl)) ?_;refine qF ?_
 refine wD_storeA (vs:=[.int .i64 (mi x1 cx), .int .i64 y1', .int .i64 z1', .int .i64 x2, .int .i64 y2', .int .i64 z2']) (ws:=[.int .i64 (mi x1 cx), .int .i64 (mi y1' cy), .int .i64 z1', .int .i64 x2, .int .i64 y2', .int .i64 z2']) rfl rfl rfl (by exact rfl) (by exact rfl) (by exact rfl) (Heap.get_wr_new (Bo)) (by exact rfl) (by exact rfl) (by show q<hA.next;omega) (by apply ra_dropC rfl;apply ra_dropC rfl;apply ra_keepC rfl (rq_quiet rfl (a_minI (by exact rfl) (by exact rfl)) (by exact sv_int _ _)) rfl;apply ra_keepC rfl (rq_quiet rfl (a_load (by exact rfl) (by(simp(disch:=first|omega|(simp only[z1,z2];omega))only[z3,z4,z5,z6,z7,z1,z2,gl,A2,Bo,A3];exact rfl)) (by exact rfl)) (by exact sv_int _ _)) rfl;apply ra_keepC rfl (rq_quiet rfl (a_faddr (by exact rfl)) (by exact sv_ptr _)) rfl;apply ra_dropC rfl;apply ra_dropC rfl;apply ra_dropC rfl;apply ra_keepC rfl (rq_quiet rfl (a_mov (by exact rfl)) (by exact sv_ptr _)) rfl;apply ra_dropC rfl;exact ra_nil) ?_
 refine wD_quiet rfl rfl rfl (by exact rfl) (by exact rfl) (by exact rfl) (a_nilchk (by exact rfl)) ?_;refine qF ?_
 refine wD_storeA (vs:=[.int .i64 (mi x1 cx), .int .i64 (mi y1' cy), .int .i64 z1', .int .i64 x2, .int .i64 y2', .int .i64 z2']) (ws:=[.int .i64 (mi x1 cx), .int .i64 (mi y1' cy), .int .i64 (mi z1' cz), .int .i64 x2, .int .i64 y2', .int .i64 z2']) rfl rfl rfl (by exact rfl) (by exact rfl) (by exact rfl) (Heap.get_wr_new (Heap.get_wr_new (Bo))) (by exact rfl) (by exact rfl) (by show q<hA.next;omega) (by apply ra_dropC rfl;apply ra_dropC rfl;apply ra_dropC rfl;apply ra_dropC rfl;apply ra_dropC rfl;apply ra_dropC rfl;exact ra_nil) ?_
 refine wD_nil ?_;refine y1 ?_;refine kS_n ?_;refine wE_draw ?_;refine qM ?_;refine qM ?_
 refine qM ?_;refine qM ?_;refine wD_quiet rfl rfl rfl (by exact rfl) (by exact rfl) (by exact rfl) (a_nilchk (by exact rfl)) ?_
 refine qF ?_
 refine qL ?_
 refine qF ?_
 refine qL ?_
 refine wD_quiet rfl rfl rfl (by exact rfl) (by exact rfl) (by exact rfl) (a_max (by exact rfl) (by exact rfl)) ?_;refine qM ?_;refine wD_quiet rfl rfl rfl (by exact rfl) (by exact rfl) (by exact rfl) (a_nilchk (by exact rfl)) ?_
 refine qF ?_
 refine qL ?_
 refine qF ?_
 refine qL ?_
 refine wD_quiet rfl rfl rfl (by exact rfl) (by exact rfl) (by exact rfl) (a_max (by exact rfl) (by exact rfl)) ?_;refine qM ?_;refine wD_quiet rfl rfl rfl (by exact rfl) (by exact rfl) (by exact rfl) (a_nilchk (by exact rfl)) ?_
 refine qF ?_
 refine qL ?_
 refine qF ?_
 refine qL ?_
 refine wD_quiet rfl rfl rfl (by exact rfl) (by exact rfl) (by exact rfl) (a_max (by exact rfl) (by exact rfl)) ?_;refine wD_quiet rfl rfl rfl (by exact rfl) (by exact rfl) (by exact rfl) (a_nilchk (by exact rfl)) ?_;refine qF ?_
 refine wD_storeA (vs:=[.int .i64 (mi x1 cx), .int .i64 (mi y1' cy), .int .i64 (mi z1' cz), .int .i64 x2, .int .i64 y2', .int .i64 z2']) (ws:=[.int .i64 (mi x1 cx), .int .i64 (mi y1' cy), .int .i64 (mi z1' cz), .int .i64 (mx x2 cx), .int .i64 y2', .int .i64 z2']) rfl rfl rfl (by exact rfl) (by exact rfl) (by exact rfl) (Heap.get_wr_new (Heap.get_wr_new (Heap.get_wr_new (Bo)))) (by exact rfl) (by exact rfl) (by show q<hA.next;omega) (by apply ra_dropC rfl;apply ra_dropC rfl;apply ra_keepC rfl (rq_quiet rfl (a_max (by exact rfl) (by exact rfl)) (by exact sv_int _ _)) rfl;apply ra_keepC rfl (rq_quiet rfl (a_load (by exact rfl) (by(simp(disch:=first|omega|(simp only[z1,z2];omega))only[z3,z4,z5,z6,z7,z1,z2,gl,A2,Bo,A3];exact rfl)) (by exact rfl)) (by exact sv_int _ _)) rfl;apply ra_keepC rfl (rq_quiet rfl (a_faddr (by exact rfl)) (by exact sv_ptr _)) rfl;apply ra_dropC rfl;apply ra_dropC rfl;apply ra_dropC rfl;apply ra_dropC rfl;apply ra_keepC rfl (rq_quiet rfl (a_max (by exact rfl) (by exact rfl)) (by exact sv_int _ _)) rfl;apply ra_keepC rfl (rq_quiet rfl (a_load (by exact rfl) (by(simp(disch:=first|omega|(simp only[z1,z2];omega))only[z3,z4,z5,z6,z7,z1,z2,gl,A2,Bo,A3];exact rfl)) (by exact rfl)) (by exact sv_int _ _)) rfl;apply ra_keepC rfl (rq_quiet rfl (a_faddr (by exact rfl)) (by exact sv_ptr _)) rfl;apply ra_dropC rfl;apply ra_dropC rfl;apply ra_dropC rfl;apply ra_dropC rfl;apply ra_dropC rfl;apply ra_dropC rfl;apply ra_dropC rfl;apply ra_dropC rfl;apply ra_dropC rfl;apply ra_dropC rfl;apply ra_dropC rfl;apply ra_keepC rfl (rq_quiet rfl (a_mov (by exact rfl)) (by exact sv_ptr _)) rfl;apply ra_keepC rfl (rq_quiet rfl (a_mov (by exact rfl)) (by exact sv_ptr _)) rfl;apply ra_dropC rfl;exact ra_nil) ?_
 refine wD_quiet rfl rfl rfl (by exact rfl) (by exact rfl) (by exact rfl) (a_nilchk (by exact rfl)) ?_;refine qF ?_
 refine wD_storeA (vs:=[.int .i64 (mi x1 cx), .int .i64 (mi y1' cy), .int .i64 (mi z1' cz), .int .i64 (mx x2 cx), .int .i64 y2', .int .i64 z2']) (ws:=[.int .i64 (mi x1 cx), .int .i64 (mi y1' cy), .int .i64 (mi z1' cz), .int .i64 (mx x2 cx), .int .i64 (mx y2' cy), .int .i64 z2']) rfl rfl rfl (by exact rfl) (by exact rfl) (by exact rfl) (Heap.get_wr_new (Heap.get_wr_new (Heap.get_wr_new (Heap.get_wr_new (Bo))))) (by exact rfl) (by exact rfl) (by show q<hA.next;omega) (by apply ra_dropC rfl;apply ra_dropC rfl;apply ra_keepC rfl (rq_quiet rfl (a_max (by exact rfl) (by exact rfl)) (by exact sv_int _ _)) rfl;apply ra_keepC rfl (rq_quiet rfl (a_load (by exact rfl) (by(simp(disch:=first|omega|(simp only[z1,z2];omega))only[z3,z4,z5,z6,z7,z1,z2,gl,A2,Bo,A3];exact rfl)) (by exact rfl)) (by exact sv_int _ _)) rfl;apply ra_keepC rfl (rq_quiet rfl (a_faddr (by exact rfl)) (by exact sv_ptr _)) rfl;apply ra_dropC rfl;apply ra_dropC rfl;apply ra_dropC rfl;apply ra_keepC rfl (rq_quiet rfl (a_mov (by exact rfl)) (by exact sv_ptr _)) rfl;apply ra_dropC rfl;exact ra_nil) ?_
 refine wD_quiet rfl rfl rfl (by exact rfl) (by exact rfl) (by exact rfl) (a_nilchk (by exact rfl)) ?_;refine qF ?_
 refine wD_storeA (vs:=[.int .i64 (mi x1 cx), .int .i64 (mi y1' cy), .int .i64 (mi z1' cz), .int .i64 (mx x2 cx), .int .i64 (mx y2' cy), .int .i64 z2']) (ws:=[.int .i64 (mi x1 cx), .int .i64 (mi y1' cy), .int .i64 (mi z1' cz), .int .i64 (mx x2 cx), .int .i64 (mx y2' cy), .int .i64 (mx z2' cz)]) rfl rfl rfl (by exact rfl) (by exact rfl) (by exact rfl) (Heap.get_wr_new (Heap.get_wr_new (Heap.get_wr_new (Heap.get_wr_new (Heap.get_wr_new (Bo)))))) (by exact rfl) (by exact rfl) (by show q<hA.next;omega) (by apply ra_dropC rfl;apply ra_dropC rfl;apply ra_dropC rfl;apply ra_dropC rfl;apply ra_dropC rfl;apply ra_dropC rfl;exact ra_nil) ?_
 refine wD_nil ?_;refine y1 ?_;refine kB_n ?_
 refine⟨⟨_,by(simp(disch:=first|omega|(simp only[z1,z2];omega))only[z3,z4,z5,z6,z7,z1,z2,gl,A2,Bo,A3];exact rfl),rfl⟩,fun z hz=> ?_, .inl ⟨rfl,fun h5 hn h5e h5l=> ?_⟩⟩
 ·have key:z=q:=by
   rcases wr_log_old hz with h|hz
   ·exact h
   rcases wr_log_old hz with h|hz
   ·exact h
   rcases wr_log_old hz with h|hz
   ·exact h
   rcases wr_log_old hz with h|hz
   ·exact h
   rcases wr_log_old hz with h|hz
   ·exact h
   rcases wr_log_old hz with h|hz
   ·exact h
   rw[A6]at hz;cases hz
  subst key
  exact⟨hlo,by omega⟩
 ·refine⟨(h5e q ko no).trans (Heap.get_wr_new (Heap.get_wr_new (Heap.get_wr_new (Heap.get_wr_new (Heap.get_wr_new (Heap.get_wr_new (Bo))))))),fun z hz hne=> ?_,hn⟩
  by_cases hl:z=l
  ·subst hl
   rw[gl];exact h5l
  ·refine(h5e z hz hl).trans ?_
   refine Eq.trans ?_ (A1 z hz hl).symm
   simp only[z5 hne]
structure PXo (l q:Nat) (H0:Heap) (L:AObj) (f:List Ce→List Value) (done:List Ce) (H:Heap):Prop where
 old:∀z,z<l→z≠q→H.get z=H0.get z
 loop:H.get l=some L
 val:H.get q=some (.cells (f done) true 1)
theorem PXo.stable{l q:Nat}{H0:Heap}{L:AObj}{f:List Ce→List Value}(hq:q<l)(done:List Ce)(H H':Heap)(p:PXo l q H0 L f done H)(_:l+1≤H'.next)(h:∀x,x<l+1→H'.get x=H.get x):PXo l q H0 L f done H':=
 ⟨fun z hz hne=>(h z (by omega)).trans (p.old z hz hne),(h l (by omega)).trans p.loop,(h q (by omega)).trans p.val⟩
def bndS(s:List Nat):Bx×Bool:=if s=s0 then(⟨c0,c0⟩,false)else(bxS (cellsTo s 512),true)
def bndV(p:Bx×Bool):Value:= .tuple #[bxV p.1, .bool p.2]
structure FnsBd (T:Nat→Option AFunc):Prop where
 cp:FnsCp T
 f210:T 210=some f210
set_option maxHeartbeats 16000000 in
theorem bounds210(F:FnsBd T){h:Heap}(hr:Rdy h)(hg:Tab h)(h2:2<h.next){s:List Nat}(hs:IsS s):Pu T 210 [sv s] h (bndV (bndS s)):=by
 have hp:=F.cp.p
 refine .of hp F.f210 hr rfl ?_
 have k8:=us_llen hs.len
 have k9:=us_take8 hs.len
 have x0:Ext h ((h.push (.cells (cellsOf (sv s)) true 1)).push (.cells [I.O,I.O,I.O,I.O,I.O,I.O] true 1)):=((Ext.refl h).push _).push _
 have g0:((h.push (.cells (cellsOf (sv s)) true 1)).push (.cells [I.O,I.O,I.O,I.O,I.O,I.O] true 1)).get h.next=some (.cells (us s) true 1):=(z4 (Nat.lt_succ_self _)).trans (z3 h _)
 have g1:((h.push (.cells (cellsOf (sv s)) true 1)).push (.cells [I.O,I.O,I.O,I.O,I.O,I.O] true 1)).get (h.next+1)=some (.cells [I.O,I.O,I.O,I.O,I.O,I.O] true 1):=z3 _ _
 have n0:((h.push (.cells (cellsOf (sv s)) true 1)).push (.cells [I.O,I.O,I.O,I.O,I.O,I.O] true 1)).next=h.next+2:=rfl
 refine y4 ?_;refine yB ?_;refine wO_val (a_new) ?_;refine yM ?_;refine y3 ?_
 generalize((h.push (.cells (cellsOf (sv s)) true 1)).push (.cells [I.O,I.O,I.O,I.O,I.O,I.O] true 1))=H at*
 have W:=x0.wf hr.wf
 have hL:=x0.log.trans hr.log
 unfold bndS
 by_cases he:s=s0
 ·rw[if_pos he]
  have ck0:ltake 6 (ldrop 0 (bxL ⟨c0,c0⟩))=bxL ⟨c0,c0⟩:=rfl
  refine wE_seq ?_;refine y4 ?_;refine wO_val (a_loadN (by exact rfl) (by assumption) (by assumption) (by assumption)) ?_;refine wO_val (a_build (by exact rfl)) ?_
  refine wO_val (a_eqS (b:=s0) (by exact rfl) (by exact rfl) hs.len rfl) ?_
  rw[decide_eq_true he]
  refine y3 ?_;refine yY ?_;refine y4 ?_;refine wO_val (a_build (by exact rfl)) ?_;refine yS ?_;refine yM ?_
  refine y3 ?_;refine wE_ret ?_;refine kS_r ?_
  refine endP_ret ?_ (res_cells (own:=true) (s:=1) (l:=bxL ⟨c0,c0⟩) rfl ?_ ck0 rfl rfl) rfl
  ·rw[Heap.log_wr_new (by show h.next≤h.next+1;omega)];exact hL
  ·(simp(disch:=first|omega|(simp only[z1,z2];omega))only[z3,z4,z5,z6,z7,z1,z2,g0,g1];exact rfl)
 ·rw[if_neg he]
  have x1:=ext_pw (h:=H) (base:=h.next) (by omega) (.cells [I.O,I.O,I.O,I.O,I.O,I.O] true 1) (.cells (bxL bx0) true 1)
  have q1:=get_pw (h:=H) (base:=h.next) [I.O,I.O,I.O,I.O,I.O,I.O] (bxL bx0)
  refine wE_seq ?_;refine y4 ?_;refine wO_val (a_loadN (by exact rfl) (by assumption) (by assumption) (by assumption)) ?_;refine wO_val (a_build (by exact rfl)) ?_
  refine wO_val (a_eqS (b:=s0) (by exact rfl) (by exact rfl) hs.len rfl) ?_
  rw[decide_eq_false he]
  refine y3 ?_;refine yX ?_;refine wE_skip ?_;refine kS_n ?_
  refine wE_cutP (E0:=[(1, .pointer (some ⟨h.next,0,none⟩)),(2, .pointer (some ⟨h.next+1,0,none⟩)),(4, .pointer (some ⟨H.next,0,none⟩))]) (P:=fun h'=>Ext H h'∧h'.next=H.next+1∧h'.get H.next=some (.cells (bxL bx0) true 1)) ?_ ?_
  ·refine wE_region ?_;refine wO_val (a_build (by exact rfl)) ?_;refine wO_val (a_build (by exact rfl)) ?_;refine wO_val (a_new) ?_
   refine yS ?_;refine wO_nil ?_
   refine y1 ?_
   exact⟨rfl,rfl,rfl,ext_pw (by omega) _ _,rfl,get_pw _ _⟩
  rintro H1 ⟨x1,n1,q1⟩
  have ey1':=x0.trans x1
  have W1:=ey1'.wf hr.wf
  have hL1:=ey1'.log.trans hr.log
  have ga:=(x1.old _ (by omega)).trans g0
  have gb:=(x1.old _ (by omega)).trans g1
  have C:=cells214 F.cp (h:={H1 with log:=[]}) (.of W1) hs
  clear g0 g1
  refine wE_seq ?_;refine y4 ?_;refine wO_val (a_loadN (by exact rfl) (by assumption) (by assumption) (by assumption)) ?_
  refine yC ?_
  refine FW.al C (fun v h' m q=>q) ?_
  rintro _ H2 x2 ⟨q,rfl,gq,q2,q3⟩
  clear C
  have q2:H1.next≤q:=q2
  have ey2':=ey1'.trans x2
  have W2:=ey2'.wf hr.wf
  have hL2:=ey2'.log.trans hr.log
  have n2:=x2.next
  have gb2:=(x2.old _ (by omega)).trans gb
  have q12:=(x2.old _ (by omega)).trans q1
  have hg2:Tab H2:=hg.ext ey2' h2
  clear ga gb q1
  refine y3 ?_;refine wE_block ?_
  refine wE_rangeX (lo:=H.next) (P:=PXo H2.next H.next H2 (.loop [(2, .pointer (some ⟨h.next+1,0,none⟩)),(4, .pointer (some ⟨H.next,0,none⟩)),(15,fnC q)] [16] asg210 bod210 0 .normal) (fun d=>bxL (bxS d)) (cellsTo s 512)) (S:=fun _=>False) rfl (by rfl) (by rw[F.cp.f265];rfl) (by omega) (by omega) hL2 W2 ?_ (fun H p=>⟨_,_,_,_,p.loop⟩) (fun H p=>p.elim) ?_ (fun _ _ _ _ _ _ _ p=>p.elim)
  ·have Y:YldX T H.next (H2.next+1) H2.next ceV (cellsTo s 512) (PXo H2.next H.next H2 (.loop [(2, .pointer (some ⟨h.next+1,0,none⟩)),(4, .pointer (some ⟨H.next,0,none⟩)),(15,fnC q)] [16] asg210 bod210 0 .normal) (fun d=>bxL (bxS d))) (fun _=>False):=by
    refine⟨fun done x Hh hx hrH hN hP=> ?_,PXo.stable (by omega),fun _ _ h=>h,fun _ h=>h.elim⟩
    refine FW.mono' (bx_round hp hrH (lo:=H.next) (N:=H2.next+1) (S:=fun _=>False) (Nat.le_refl _) (by omega) (by omega) hP.loop hP.val) ?_
    rintro r' H' ⟨r1,r2⟩
    refine⟨r1,r2.imp (fun⟨e,g,o,_⟩=>⟨e,fun z hz hne=>(o z (by omega) hne).trans (hP.old z hz hne),(o _ (by omega) (by omega)).trans hP.loop,?_⟩) id⟩
    rw[bxS_snoc];exact g
   exact cells265X F.cp (.of (W2.push _)) (q0:=q) (l:=H2.next) (N:=H2.next+1) (lo:=H.next) hs (Nat.le_refl _) (by show H.next≤H2.next+1;omega) (Nat.lt_succ_self _) Y ((z4 (by omega)).trans gq) (fun d H' hP=>(hP.old 2 (by omega) (by omega)).trans hg2)
    ⟨fun z hz _=>z4 hz,z3 _ _,(z4 (by omega)).trans q12⟩
  intro h4 h5 k1 k2 k3 k4 k5 hP
  have D:=(k5 H.next (by omega)).trans hP.val
  have D2:=(k5 (h.next+1) (by omega)).trans ((hP.old _ (by omega) (by omega)).trans gb2)
  generalize bxS (cellsTo s 512)=b at*
  have ck:ltake 6 (ldrop 0 (bxL b))=bxL b:=rfl
  have ckl:Nat.beq (llen (bxL b)) 6=true:=rfl
  refine kB_n ?_;refine kS_n ?_;refine y4 ?_;refine yN ?_;refine yS ?_;refine yM ?_;refine y3 ?_;refine wE_ret ?_
  refine endP_ret ?_ (res_cells (own:=true) (s:=1) (l:=bxL b) rfl ?_ ck ckl rfl) rfl
  ·rw[Heap.log_wr_new (by show h.next≤h.next+1;omega)];exact k1
  ·(simp(disch:=first|omega|(simp only[z1,z2];omega))only[z3,z4,z5,z6,z7,z1,z2,q1,gq,gb2,q12,D2,D];exact rfl)
end Go.A.Pk
end
section
set_option maxRecDepth 100000
namespace Go.A.Pk
variable {T:Nat→Option AFunc}
def rollC:Nat→Ce→Ce
 |0,c=>c
 |1,c=>⟨c.x,7-c.z,c.y⟩
 |2,c=>⟨c.x,7-c.y,7-c.z⟩
 |3,c=>⟨c.x,c.z,7-c.y⟩
 |4,c=>⟨c.z,c.y,7-c.x⟩
 |_,c=>⟨7-c.z,c.y,c.x⟩
def rotC(c:Ce):Ce:=⟨7-c.y,c.x,c.z⟩
def rotN:Nat→Ce→Ce
 |0,c=>c
 |n+1,c=>rotC (rotN n c)
def turnC(t:Nat)(c:Ce):Ce:=rotN (t % 4) (rollC (t / 4) c)
structure InB (c:Ce):Prop where
 x:0≤c.x∧c.x≤7
 y:0≤c.y∧c.y≤7
 z:0≤c.z∧c.z≤7
theorem inB_iff{c:Ce}:inG c=true↔InB c:=by
 unfold inG
 rw[decide_eq_true_eq]
 exact⟨fun h=>⟨h.1,h.2.1,h.2.2⟩,fun h=>⟨h.x,h.y,h.z⟩⟩
theorem InB.roll{c:Ce}(h:InB c)(k:Nat):InB (rollC k c):=by
 obtain⟨h1,h2,h3⟩:=h
 unfold rollC
 split<;>(constructor<;>(first|omega|(dsimp only;omega)))
theorem InB.rot{c:Ce}(h:InB c):∀n,InB (rotN n c)
 |0=>h
 |n+1=>by
  obtain⟨h1,h2,h3⟩:=h.rot n
  unfold rotN rotC
  exact⟨by dsimp only;omega,h1,h3⟩
theorem InB.turn{c:Ce}(h:InB c)(t:Nat):InB (turnC t c):=(h.roll _).rot _
theorem m_sub7{a:Int}(h:0≤a∧a≤7):numOp .sub (.int .i64 7) (.int .i64 a)=some (.int .i64 (7-a)):=m_sub (wrapA_i64 (by omega) (by omega))
theorem m_rem4{a:Nat}:numOp .rem (.int .i64 a) (.int .i64 4)=some (.int .i64 ((a % 4:Nat):Int)):=by
 have e:(a:Int).tmod 4=((a % 4:Nat):Int):=by rw[Int.tmod_eq_emod_of_nonneg (by omega)];omega
 simp[numOp,arith,e]
theorem m_quo4{a:Nat}(h1:a<9223372036854775808):numOp .quo (.int .i64 a) (.int .i64 4)=some (.int .i64 ((a / 4:Nat):Int)):=by
 have e:wrapA .i64 ((a:Int).tdiv 4)=((a / 4:Nat):Int):=by
  rw[Int.tdiv_eq_ediv_of_nonneg (by omega),wrapA_i64 (by omega) (by omega)];omega
 have e2:numOp .quo (.int .i64 a) (.int .i64 4)=some (.int .i64 (wrapA .i64 ((a:Int).tdiv 4))):=rfl
 rw[e2,e]
structure FnsTu (T:Nat→Option AFunc):Prop where
 p:primAS T
 f263:T 263=some f263
 f317:T 317=some f317
 f318:T 318=some f318
 f319:T 319=some f319
 f320:T 320=some f320
 f321:T 321=some f321
 f322:T 322=some f322
theorem roll0(F:FnsTu T){h:Heap}(hr:Rdy h)(v:Value){c:Ce}(hc:InB c):Pu T 317 [v,ceV c] h (ceV (rollC 0 c)):=by
 refine .of F.p F.f317 hr rfl ?_
 obtain⟨cx,cy,cz⟩:=c
 obtain⟨hx,hy,hz⟩:=hc
 dsimp only at hx hy hz
 have mx:=m_sub7 hx
 have my:=m_sub7 hy
 have mz:=m_sub7 hz
 have ck:ltake 3 (ldrop 0 (ceL (rollC 0 ⟨cx,cy,cz⟩)))=ceL (rollC 0 ⟨cx,cy,cz⟩):=rfl
 refine y4 ?_;refine yB ?_;refine wO_val (a_new) ?_;refine y3 ?_;refine y4 ?_
 refine yN ?_
 refine yS ?_;refine y3 ?_;refine wE_ret ?_
 refine endP_ret ?_ (res_cells (own:=true) (s:=1) rfl ?_ ck rfl rfl) rfl
 ·rw[Heap.log_wr_new (by show h.next≤h.next+1;omega)];exact hr.log
 ·(simp(disch:=first|omega|(simp only[z1,z2];omega)|(simp only[z1,z2];done)|fail)only[z8,z4,z5,z9,z7,z1,z2];exact rfl)
theorem roll1(F:FnsTu T){h:Heap}(hr:Rdy h)(v:Value){c:Ce}(hc:InB c):Pu T 318 [v,ceV c] h (ceV (rollC 1 c)):=by
 refine .of F.p F.f318 hr rfl ?_
 obtain⟨cx,cy,cz⟩:=c
 obtain⟨hx,hy,hz⟩:=hc
 dsimp only at hx hy hz
 have mx:=m_sub7 hx
 have my:=m_sub7 hy
 have mz:=m_sub7 hz
 have ck:ltake 3 (ldrop 0 (ceL (rollC 1 ⟨cx,cy,cz⟩)))=ceL (rollC 1 ⟨cx,cy,cz⟩):=rfl
 refine y4 ?_;refine yB ?_;refine wO_val (a_new) ?_;refine y3 ?_;refine y4 ?_;refine yF ?_
 refine yL ?_;refine yF ?_
 refine yL ?_;refine wO_val (a_num (by exact rfl) (by exact rfl) (by with_reducible assumption)) ?_
 refine yF ?_;refine yL ?_;refine wO_val (a_build (by exact rfl)) ?_
 refine yS ?_;refine y3 ?_;refine wE_ret ?_
 refine endP_ret ?_ (res_cells (own:=true) (s:=1) rfl ?_ ck rfl rfl) rfl
 ·rw[Heap.log_wr_new (by show h.next≤h.next+1;omega)];exact hr.log
 ·(simp(disch:=first|omega|(simp only[z1,z2];omega)|(simp only[z1,z2];done)|fail)only[z8,z4,z5,z9,z7,z1,z2];exact rfl)
theorem roll2(F:FnsTu T){h:Heap}(hr:Rdy h)(v:Value){c:Ce}(hc:InB c):Pu T 319 [v,ceV c] h (ceV (rollC 2 c)):=by
 refine .of F.p F.f319 hr rfl ?_
 obtain⟨cx,cy,cz⟩:=c
 obtain⟨hx,hy,hz⟩:=hc
 dsimp only at hx hy hz
 have mx:=m_sub7 hx
 have my:=m_sub7 hy
 have mz:=m_sub7 hz
 have ck:ltake 3 (ldrop 0 (ceL (rollC 2 ⟨cx,cy,cz⟩)))=ceL (rollC 2 ⟨cx,cy,cz⟩):=rfl
 refine y4 ?_;refine yB ?_;refine wO_val (a_new) ?_;refine y3 ?_;refine y4 ?_;refine yF ?_
 refine yL ?_;refine yF ?_
 refine yL ?_;refine wO_val (a_num (by exact rfl) (by exact rfl) (by with_reducible assumption)) ?_
 refine yF ?_;refine yL ?_
 refine wO_val (a_num (by exact rfl) (by exact rfl) (by with_reducible assumption)) ?_;refine wO_val (a_build (by exact rfl)) ?_
 refine yS ?_;refine y3 ?_;refine wE_ret ?_
 refine endP_ret ?_ (res_cells (own:=true) (s:=1) rfl ?_ ck rfl rfl) rfl
 ·rw[Heap.log_wr_new (by show h.next≤h.next+1;omega)];exact hr.log
 ·(simp(disch:=first|omega|(simp only[z1,z2];omega)|(simp only[z1,z2];done)|fail)only[z8,z4,z5,z9,z7,z1,z2];exact rfl)
theorem roll3(F:FnsTu T){h:Heap}(hr:Rdy h)(v:Value){c:Ce}(hc:InB c):Pu T 320 [v,ceV c] h (ceV (rollC 3 c)):=by
 refine .of F.p F.f320 hr rfl ?_
 obtain⟨cx,cy,cz⟩:=c
 obtain⟨hx,hy,hz⟩:=hc
 dsimp only at hx hy hz
 have mx:=m_sub7 hx
 have my:=m_sub7 hy
 have mz:=m_sub7 hz
 have ck:ltake 3 (ldrop 0 (ceL (rollC 3 ⟨cx,cy,cz⟩)))=ceL (rollC 3 ⟨cx,cy,cz⟩):=rfl
 refine y4 ?_;refine yB ?_;refine wO_val (a_new) ?_;refine y3 ?_;refine y4 ?_;refine yF ?_
 refine yL ?_;refine yF ?_
 refine yL ?_;refine yF ?_
 refine yL ?_;refine wO_val (a_num (by exact rfl) (by exact rfl) (by with_reducible assumption)) ?_
 refine wO_val (a_build (by exact rfl)) ?_
 refine yS ?_;refine y3 ?_;refine wE_ret ?_
 refine endP_ret ?_ (res_cells (own:=true) (s:=1) rfl ?_ ck rfl rfl) rfl
 ·rw[Heap.log_wr_new (by show h.next≤h.next+1;omega)];exact hr.log
 ·(simp(disch:=first|omega|(simp only[z1,z2];omega)|(simp only[z1,z2];done)|fail)only[z8,z4,z5,z9,z7,z1,z2];exact rfl)
theorem roll4(F:FnsTu T){h:Heap}(hr:Rdy h)(v:Value){c:Ce}(hc:InB c):Pu T 321 [v,ceV c] h (ceV (rollC 4 c)):=by
 refine .of F.p F.f321 hr rfl ?_
 obtain⟨cx,cy,cz⟩:=c
 obtain⟨hx,hy,hz⟩:=hc
 dsimp only at hx hy hz
 have mx:=m_sub7 hx
 have my:=m_sub7 hy
 have mz:=m_sub7 hz
 have ck:ltake 3 (ldrop 0 (ceL (rollC 4 ⟨cx,cy,cz⟩)))=ceL (rollC 4 ⟨cx,cy,cz⟩):=rfl
 refine y4 ?_;refine yB ?_;refine wO_val (a_new) ?_;refine y3 ?_;refine y4 ?_;refine yF ?_
 refine yL ?_;refine yF ?_
 refine yL ?_;refine yF ?_
 refine yL ?_;refine wO_val (a_num (by exact rfl) (by exact rfl) (by with_reducible assumption)) ?_
 refine wO_val (a_build (by exact rfl)) ?_
 refine yS ?_;refine y3 ?_;refine wE_ret ?_
 refine endP_ret ?_ (res_cells (own:=true) (s:=1) rfl ?_ ck rfl rfl) rfl
 ·rw[Heap.log_wr_new (by show h.next≤h.next+1;omega)];exact hr.log
 ·(simp(disch:=first|omega|(simp only[z1,z2];omega)|(simp only[z1,z2];done)|fail)only[z8,z4,z5,z9,z7,z1,z2];exact rfl)
theorem roll5(F:FnsTu T){h:Heap}(hr:Rdy h)(v:Value){c:Ce}(hc:InB c):Pu T 322 [v,ceV c] h (ceV (rollC 5 c)):=by
 refine .of F.p F.f322 hr rfl ?_
 obtain⟨cx,cy,cz⟩:=c
 obtain⟨hx,hy,hz⟩:=hc
 dsimp only at hx hy hz
 have mx:=m_sub7 hx
 have my:=m_sub7 hy
 have mz:=m_sub7 hz
 have ck:ltake 3 (ldrop 0 (ceL (rollC 5 ⟨cx,cy,cz⟩)))=ceL (rollC 5 ⟨cx,cy,cz⟩):=rfl
 refine y4 ?_;refine yB ?_;refine wO_val (a_new) ?_;refine y3 ?_;refine y4 ?_;refine yF ?_
 refine yL ?_;refine wO_val (a_num (by exact rfl) (by exact rfl) (by with_reducible assumption)) ?_
 refine yF ?_;refine yL ?_;refine yF ?_
 refine yL ?_;refine wO_val (a_build (by exact rfl)) ?_
 refine yS ?_;refine y3 ?_;refine wE_ret ?_
 refine endP_ret ?_ (res_cells (own:=true) (s:=1) rfl ?_ ck rfl rfl) rfl
 ·rw[Heap.log_wr_new (by show h.next≤h.next+1;omega)];exact hr.log
 ·(simp(disch:=first|omega|(simp only[z1,z2];omega)|(simp only[z1,z2];done)|fail)only[z8,z4,z5,z9,z7,z1,z2];exact rfl)
theorem rollK(F:FnsTu T){h:Heap}(hr:Rdy h)(v:Value){c:Ce}(hc:InB c):∀k,k<6→Pu T (317+k) [v,ceV c] h (ceV (rollC k c))
 |0,_=>roll0 F hr v hc
 |1,_=>roll1 F hr v hc
 |2,_=>roll2 F hr v hc
 |3,_=>roll3 F hr v hc
 |4,_=>roll4 F hr v hc
 |5,_=>roll5 F hr v hc
 |k+6,h=>by omega
def rollV(k:Nat):Value:= .func (.func (317+k)) #[.int .i64 0] #[]
def rollsL:List Value:=[rollV 0,rollV 1,rollV 2,rollV 3,rollV 4,rollV 5]
theorem rolls_at:∀k,k<6→lget rollsL (0+k*1)=some (rollV k)
 |0,_=>rfl
 |1,_=>rfl
 |2,_=>rfl
 |3,_=>rfl
 |4,_=>rfl
 |5,_=>rfl
 |k+6,h=>by omega
set_option maxHeartbeats 8000000 in
theorem turned263(F:FnsTu T){h:Heap}(hr:Rdy h){c:Ce}(hc:InB c){t:Nat}(ht:t<24):Pu T 263 [ceV c, .int .i64 (t:Nat)] h (ceV (turnC t c)):=by
 refine .of F.p F.f263 hr rfl ?_
 have x0:Ext h ((h.push (.cells (cellsOf (ceV c)) true 1)).push (.cells [I.O,I.O,I.O] true 1)):=((Ext.refl h).push _).push _
 have g0:((h.push (.cells (cellsOf (ceV c)) true 1)).push (.cells [I.O,I.O,I.O] true 1)).get h.next=some (.cells (ceL c) true 1):=(z4 (Nat.lt_succ_self _)).trans (z3 h _)
 have g1:((h.push (.cells (cellsOf (ceV c)) true 1)).push (.cells [I.O,I.O,I.O] true 1)).get (h.next+1)=some (.cells [I.O,I.O,I.O] true 1):=z3 _ _
 have n0:((h.push (.cells (cellsOf (ceV c)) true 1)).push (.cells [I.O,I.O,I.O] true 1)).next=h.next+2:=rfl
 refine y4 ?_;refine yB ?_;refine wO_val (a_new) ?_;refine y3 ?_
 generalize((h.push (.cells (cellsOf (ceV c)) true 1)).push (.cells [I.O,I.O,I.O] true 1))=H at*
 have W:=x0.wf hr.wf
 have hL:=x0.log.trans hr.log
 refine y4 ?_;refine yM ?_;refine y3 ?_
 refine wE_cutP (E0:=[(1, .int .i64 (t:Nat)),(2, .pointer (some ⟨h.next,0,none⟩)),(4, .pointer (some ⟨h.next+1,0,none⟩)),(6, .pointer (some ⟨H.next,0,none⟩))]) (P:=fun h'=>Ext H h'∧h'.next=H.next+1∧h'.get H.next=some (.cells rollsL true 1)) ?_ ?_
 ·refine wE_region ?_;refine yM ?_;refine wO_val (a_mkFunc (by exact rfl) (by exact rfl)) ?_;refine yM ?_;refine wO_val (a_mkFunc (by exact rfl) (by exact rfl)) ?_;refine yM ?_;refine wO_val (a_mkFunc (by exact rfl) (by exact rfl)) ?_;refine yM ?_
  refine wO_val (a_mkFunc (by exact rfl) (by exact rfl)) ?_;refine yM ?_;refine wO_val (a_mkFunc (by exact rfl) (by exact rfl)) ?_;refine yM ?_;refine wO_val (a_mkFunc (by exact rfl) (by exact rfl)) ?_;refine wO_val (a_build (by exact rfl)) ?_;refine wO_val (a_new) ?_
  refine yS ?_;refine wO_nil ?_
  refine y1 ?_
  exact⟨rfl,rfl,rfl,ext_pw (by omega) _ _,rfl,get_pw _ _⟩
 rintro H1 ⟨x1,n1,q1⟩
 have ey1':=x0.trans x1
 have W1:=ey1'.wf hr.wf
 have hL1:=ey1'.log.trans hr.log
 have ga:=(x1.old _ (by omega)).trans g0
 have gb:=(x1.old _ (by omega)).trans g1
 have hk:t / 4<6:=by omega
 have m1:numOp .quo (.int .i64 (t:Nat)) (.int .i64 4)=some (.int .i64 ((t / 4:Nat):Int)):=m_quo4 (by omega)
 have m2:numOp .rem (.int .i64 (t:Nat)) (.int .i64 4)=some (.int .i64 ((t % 4:Nat):Int)):=m_rem4
 have e1:=rolls_at (t / 4) hk
 have C:=rollK F (h:={H1 with log:=[]}) (.of W1) (.int .i64 0) hc (t / 4) hk
 have hb:=hc.roll (t / 4)
 have hr4:t % 4<4:=by omega
 have ck:ltake 3 (ldrop 0 (ceL c))=ceL c:=rfl
 have ckl:Nat.beq (llen (ceL c)) 3=true:=rfl
 unfold turnC
 generalize hq:rollC (t / 4) c=d at*
 generalize t / 4=k at*
 generalize t % 4=r at*
 unfold rollV at e1
 clear g0 g1
 refine wE_seq ?_;refine wE_draw ?_;refine qM ?_;refine wD_quiet rfl rfl rfl (by exact rfl) (by exact rfl) (by exact rfl) (a_num (by exact rfl) (by exact rfl) (by with_reducible assumption)) ?_
 refine wD_quiet rfl rfl rfl (by exact rfl) (by exact rfl) (by exact rfl) (a_iaddrA (by exact rfl) (by exact rfl) (by omega)) ?_;refine wD_quiet rfl rfl rfl (by exact rfl) (by exact rfl) (by exact rfl) (a_load (by exact rfl) (by assumption) (by assumption)) ?_
 refine qN ?_
 refine qC ?_
 refine FW.puD C (by apply ra_dropC rfl;apply ra_dropC rfl;apply ra_dropC rfl;apply ra_dropC rfl;apply ra_dropC rfl;exact ra_nil) ?_
 clear C
 refine wD_store rfl rfl rfl (by exact rfl) (by exact rfl) (by exact rfl) (by assumption) (by exact rfl) (by exact rfl) (by omega) (by omega) (by exact ra_nil) ?_;refine wD_nil ?_;refine y1 ?_;refine kS_n ?_;refine wE_seq ?_;refine y4 ?_;refine yM ?_
 refine wO_val (a_num (by exact rfl) (by exact rfl) (by with_reducible assumption)) ?_;refine yM ?_;refine y3 ?_;refine wE_block ?_
 refine wE_loop (fun m e ds h'=>∃j:Nat,j≤r∧r-j=m∧e=[(2, .pointer (some ⟨h.next,0,none⟩)),(4, .pointer (some ⟨h.next+1,0,none⟩)),(27, .int .i64 (r:Nat)),(28, .int .i64 (j:Nat))]∧ds=[]∧Ext h h'∧h.next+2≤h'.next∧h'.get h.next=some (.cells (ceL (rotN j d)) true 1)∧h'.get (h.next+1)=some (.cells [I.O,I.O,I.O] true 1))
  ⟨0,Nat.zero_le _,rfl,rfl,rfl,⟨ey1'.next,(Heap.log_wr_new (by omega)).trans ey1'.log,fun b hb=>(z5 (by omega)).trans (ey1'.old b hb),fun w=>(ey1'.wf w).as (AS.wr h.next _ _ _)⟩,by show h.next+2≤H1.next;omega,by rw[z6,ga];rfl,(z5 (by omega)).trans gb⟩ ?_
 rintro m e ds h' ⟨j,hj,rfl,rfl,rfl,x,hn,gc,gd⟩
 have hbj:=hb.rot j
 by_cases hlt:j<r
 ·have hro:rotN (j+1) d=rotC (rotN j d):=rfl
  generalize rotN j d=b at*
  obtain⟨bx,by',bz⟩:=b
  obtain⟨_,hy,_⟩:=hbj
  dsimp only at hy
  have my:=m_sub7 hy
  unfold rotC at hro
  dsimp only at hro
  refine y4 ?_;refine yt ?_;refine y3 ?_;refine wE_seq ?_;refine yY ?_;refine wE_skip ?_;refine kS_n ?_;refine wE_seq ?_;refine wE_block ?_
  refine wE_region ?_;refine yF ?_;refine yL ?_;refine wO_val (a_num (by exact rfl) (by exact rfl) (by with_reducible assumption)) ?_;refine yF ?_;refine yL ?_;refine yF ?_
  refine yL ?_;refine wO_val (a_build (by exact rfl)) ?_;refine yS ?_;refine wO_nil ?_;refine y1 ?_;refine kB_n ?_;refine kS_n ?_;refine wE_region ?_
  refine yinc ?_;refine yM ?_;refine y3 ?_
  refine⟨r-(j+1),by omega,j+1,by omega,rfl,rfl,rfl,⟨x.next,(Heap.log_wr_new (by omega)).trans x.log,fun b hb=>(z5 (by omega)).trans (x.old b hb),fun w=>(x.wf w).as (AS.wr h.next _ _ _)⟩,hn,?_,(z5 (by omega)).trans gd⟩
  rw[z6,gc,hro];rfl
 ·obtain rfl:j=r:=by omega
  generalize rotN j d=b at*
  have ckb:ltake 3 (ldrop 0 (ceL b))=ceL b:=rfl
  have ckbl:Nat.beq (llen (ceL b)) 3=true:=rfl
  refine y4 ?_;refine yf ?_;refine y3 ?_;refine wE_seq ?_;refine yX ?_;refine wE_exit ?_;refine kS_e ?_;refine kS_e ?_;refine kB_e ?_;refine kS_n ?_
  refine y4 ?_;refine yN ?_;refine yS ?_;refine y3 ?_;refine wE_ret ?_
  refine endP_ret ?_ (res_cells (own:=true) (s:=1) rfl ?_ ckb ckbl rfl) rfl
  ·rw[Heap.log_wr_new (by show h.next≤h.next+1;omega)];exact x.log.trans hr.log
  ·(simp(disch:=first|omega|(simp only[z1,z2];omega))only[z3,z4,z5,z6,z7,z1,z2,q1,ga,gb,gd,gc];exact rfl)
end Go.A.Pk
end
section
set_option maxRecDepth 100000
namespace Go.A.Pk
variable {T:Nat→Option AFunc}
def putC(o:List Nat)(c:Ce):List Nat:=o.set c.z.toNat (Nat.lor (o.getD c.z.toNat 0) (2 ^ (8*c.y.toNat+c.x.toNat)))
theorem putC_of(o:List Nat){z i:Nat}(hi:i<64):putC o (ceOf z i)=o.set z (Nat.lor (o.getD z 0) (2 ^ i)):=by
 unfold putC ceOf
 dsimp only
 rw[show((z:Nat):Int).toNat=z by omega,show 8*((i / 8:Nat):Int).toNat+((i % 8:Nat):Int).toNat=i by omega]
theorem IsS.putC{o:List Nat}(h:IsS o){c:Ce}(hc:inG c=true):IsS (Pk.putC o c):=by
 obtain⟨z,i,hz,hi,rfl⟩:=inG_form hc
 rw[putC_of o hi]
 refine⟨by rw[List.length_set];exact h.len,fun x hx=> ?_⟩
 rcases List.mem_or_eq_of_mem_set hx with h1|h1
 ·exact h.lt x h1
 ·rw[h1];exact lor_lt (h.getD_lt z) (pow_lt64 hi)
def mapD(f:Ce→Ce)(l:List Ce):List Nat:=l.foldl (fun o c=>putC o (f c)) s0
def mapS(f:Ce→Ce)(s:List Nat):List Nat:=mapD f (cellsTo s 512)
theorem mapD_snoc(f:Ce→Ce)(l:List Ce)(c:Ce):mapD f (l++[c])=putC (mapD f l) (f c):=by unfold mapD;rw[List.foldl_append];rfl
theorem mapD_ok{f:Ce→Ce}:∀{l:List Ce},(∀c∈l,inG (f c)=true)→IsS (mapD f l):=by
 intro l
 have:∀(l:List Ce) (o:List Nat),IsS o→(∀c∈l,inG (f c)=true)→IsS (l.foldl (fun o c=>putC o (f c)) o):=by
  intro l
  induction l with
  |nil=>intro o ho _;exact ho
  |cons c l ih=>intro o ho hl;exact ih _ (ho.putC (hl c List.mem_cons_self)) fun x hx=>hl x (List.mem_cons_of_mem _ hx)
 exact fun hl=>this l s0 s0_ok hl
theorem us_put{o:List Nat}{z v:Nat}(hz:z<o.length):lputs (us o) (0+z*1) (cellsOf (.int .u64 (v:Nat)))=us (o.set z v):=by
 show lputs (us o) (0+z*1) [.int .u64 (v:Nat)]=_
 rw[Nat.zero_add,Nat.mul_one,lputs_mid (by rw[us_length];simp;omega)]
 unfold us
 rw[List.map_set,List.set_eq_take_append_cons_drop,if_pos (by simpa using hz)]
 simp
section
open I
def asg261:ACode:=I.R [g 7 (.new [O,O,O]),S 3 7 11] [3,4,5,6,7]
def bod261:ACode:=(.block 1 (Q (I.R [L 12 3,N 13 3 7,g 14 (.call (t 12) [(t 13)]),g 8 (.new [O,O,O]),S 3 8 14] [4,5,6,8])
 (Q (.seq (I.R [N 15 3 8,g 16 (.call (.func 126) [(t 15)]),g 17 (.un .not (t 16))] [4,5,6,8,17])
 (.cond (t 17) (Q (I.R [g 18 (.build (lrep 8 (.int .u64 0)) []),S 8 4 18,⟨none, .store 1 (t 5) (.const (.bool false)),none⟩] [])
 .ret) .skip))
 (.draw [A 19 2 8,L 20 19,g 21 (.iaddrA 8 1 (t 6) (t 20)),L 22 21,N 23 3 8,g 24 (.call (.func 127) [(t 23)]),B 25 .or 22 24,g 26 (.iaddrA 8 1 (t 6) (t 20)),S 1 26 25] [0,1,2,3,4,5,6,7,8] [0,1,3,7,0,16,63,127,255] []))))
end
structure FnsMp (T:Nat→Option AFunc):Prop where
 cp:FnsCp T
 tu:FnsTu T
 f126:T 126=some f126
 f127:T 127=some f127
 f211:T 211=some f211
 f215:T 215=some f215
 f261:T 261=some f261
 f262:T 262=some f262
set_option maxHeartbeats 16000000 in
theorem map_round(F:FnsMp T){H:Heap}(hr:Rdy H){q l lo N b3 b4 b5 gf:Nat}{cap fv:Value}{o:List Nat}(ho:IsS o){c d:Ce}(hd:inG d=true)(hlo:lo≤q)(hql:q<l)(hlN:l<N)(h3q:b3<q)
 (gl:H.get l=some (.loop [(3, .pointer (some ⟨b3,0,none⟩)),(4, .pointer (some ⟨b4,0,none⟩)),(5, .pointer (some ⟨b5,0,none⟩)),(6, .pointer (some ⟨q,0,none⟩)),(10,fv)] [11] asg261 bod261 0 .normal))
 (g3:H.get b3=some (.cells [.func (.func gf) #[] #[cap]] true 1))
 (hto:∀H':Heap,WF H'→(∀z,z<b3→H'.get z=H.get z)→Pu T gf [ceV c,cap] {H' with log:=[]} (ceV d))
 (go:H.get q=some (.cells (us o) true 1)){S:Heap→Prop}:
 FW T (.yield l) [ceV c] H fun r H'=>(∀z∈H'.log,lo≤z∧z<N)∧(r= .ret (.bool true)∧(H'.get q=some (.cells (us (putC o d)) true 1)∧(∀z,z<H.next→z≠q→H'.get z=H.get z)∧H.next≤H'.next)∨r= .ret (.bool false)∧l∈H'.log∧S H'):=by
 have hp:=F.cp.p
 have no:q≠l:=by omega
 have ko:=hr.wf.get_lt go
 have kl:=hr.wf.get_lt gl
 have k3:=hr.wf.get_lt g3
 refine FW.yieldX hp (R:=fun H'=>H'.get q=some (.cells (us (putC o d)) true 1)∧(∀z,z<H.next→z≠q→H'.get z=H.get z)∧H.next≤H'.next) gl rfl kl ⟨by omega,hlN⟩ ?_
 unfold asg261
 refine wE_region ?_;refine wO_val (a_new) ?_;refine yS ?_;refine wO_nil ?_
 refine y1 ?_
 refine⟨rfl,by(simp(disch:=first|omega|(simp only[z1,z2];omega))only[z3,z4,z5,z6,z7,z1,z2,gl,g3,go];exact rfl),?_⟩
 unfold bod261
 refine wE_block ?_
 refine WE.genC ?_
 intro hA hAe
 have A1:∀z,z<H.next→z≠l→H.get z=hA.get z:=fun z hz hne=>by rw[hAe];symm;simp(disch:=first|omega|(simp only[z1,z2];omega))only[z5,z4]
 have A3:hA.get H.next=some (.cells (ceL c) true 1):=by rw[hAe];(simp(disch:=first|omega|(simp only[z1,z2];omega))only[z3,z4,z5,z6,z7,z1,z2,gl,g3,go];exact rfl)
 have A2:hA.get l=some (.loop [(3, .pointer (some ⟨b3,0,none⟩)),(4, .pointer (some ⟨b4,0,none⟩)),(5, .pointer (some ⟨b5,0,none⟩)),(6, .pointer (some ⟨q,0,none⟩)),(10,fv)] [11] asg261 bod261 1 .normal):=by rw[hAe];(simp(disch:=first|omega|(simp only[z1,z2];omega))only[z3,z4,z5,z6,z7,z1,z2,gl,g3,go,A3];exact rfl)
 have A5:hA.next=H.next+1:=by rw[hAe];rfl
 have A6:hA.log=[]:=by rw[hAe];simp(disch:=first|omega|(simp only[z1,z2];omega))only[Heap.log_wr_new,Heap.log_push];exact hr.log
 have A7:WF hA:=by rw[hAe];exact(((hr.wf.push _).as (AS.wr _ _ _ _)).as (AS.wr _ _ _ _))
 clear hAe
 have Bo:=(A1 q ko no).symm.trans go
 have B3:=(A1 b3 k3 (by omega)).symm.trans g3
 have C1:=hto hA A7 fun z hz=>(A1 z (by omega) (by omega)).symm
 have ck:ltake 3 (ldrop 0 (ceL c))=ceL c:=rfl
 have ckl:Nat.beq (llen (ceL c)) 3=true:=rfl
 clear go hto
 refine wE_cutP (E0:=[(4, .pointer (some ⟨b4,0,none⟩)),(5, .pointer (some ⟨b5,0,none⟩)),(6, .pointer (some ⟨q,0,none⟩)),(8, .pointer (some ⟨hA.next,0,none⟩))]) (P:=fun h'=>Ext hA h'∧h'.next=hA.next+1∧h'.get hA.next=some (.cells (ceL d) true 1)) ?_ ?_
 ·refine wE_region ?_;refine yL ?_;refine yN ?_
  refine yC ?_
  refine FW.pu C1 ?_
  clear C1
  refine wO_val (a_new) ?_;refine yS ?_;refine wO_nil ?_
  refine y1 ?_
  exact⟨rfl,rfl,rfl,ext_pw (by omega) _ _,rfl,get_pw _ _⟩
 rintro hB ⟨xB,nB,gB⟩
 clear C1 A3
 have WB:=xB.wf A7
 have LB:=xB.log.trans A6
 have Bo2:=(xB.old _ (by omega)).trans Bo
 have Bl2:=(xB.old _ (by omega)).trans A2
 have C2:=inside126 hp F.f126 F.f215 (h:={hB with log:=[]}) (.of WB) d
 rw[hd]at C2
 obtain⟨z,i,hz,hi,rfl⟩:=inG_form hd
 have C3:=bit127 hp F.f127 (h:={hB with log:=[]}) (.of WB) (z:=z) hi
 have ckd:ltake 3 (ldrop 0 (ceL (ceOf z i)))=ceL (ceOf z i):=rfl
 have ckdl:Nat.beq (llen (ceL (ceOf z i))) 3=true:=rfl
 have lz:lget (ceL (ceOf z i)) (0+2)=some (.int .i64 ((z:Nat):Int)):=rfl
 have e1:=us_get (getD_at (s:=o) (i:=z) (by rw[ho.len];exact hz))
 have m1:=m_or (a:=o.getD z 0) (b:=2 ^ i) (ho.getD_lt z) (pow_lt64 hi)
 have kw:=us_put (o:=o) (z:=z) (v:=Nat.lor (o.getD z 0) (2 ^ i)) (by rw[ho.len];exact hz)
 rw[←putC_of o hi]at kw
 have kc:(Nat.beq (llen (cellsOf (.int .u64 ((Nat.lor (o.getD z 0) (2 ^ i):Nat):Int)))) 1&&Nat.ble (0+z*1+1) (llen (us o))&&ones (cellsOf (.int .u64 ((Nat.lor (o.getD z 0) (2 ^ i):Nat):Int))))=true:=by
  rw[llen_eq (us o),us_length,ho.len,nble_of (by omega)];rfl
 clear Bo A2 B3 g3
 refine wE_seq ?_;refine y4 ?_;refine yN ?_
 refine yC ?_
 refine FW.pu C2 ?_
 clear C2
 refine yA ?_;refine y3 ?_;refine yX ?_;refine wE_skip ?_;refine kS_n ?_;refine wE_draw ?_;refine qF ?_
 refine qL ?_;refine wD_quiet rfl rfl rfl (by exact rfl) (by exact rfl) (by exact rfl) (a_iaddrA (by exact rfl) (by exact rfl) (by omega)) ?_;refine wD_quiet rfl rfl rfl (by exact rfl) (by exact rfl) (by exact rfl) (a_load (by exact rfl) (by assumption) (by assumption)) ?_
 refine qN ?_
 refine qC ?_
 refine FW.puD C3 (by apply ra_dropC rfl;apply ra_keepC rfl (rq_quiet rfl (a_load (by exact rfl) (by assumption) (by assumption)) (by exact sv_int _ _)) rfl;apply ra_keepC rfl (rq_quiet rfl (a_iaddrA (by exact rfl) (by exact rfl) (by omega)) (by exact sv_ptr _)) rfl;apply ra_keepC rfl (rq_quiet rfl (a_load (by exact rfl) (by assumption) (by exact rfl)) (by exact sv_int _ _)) rfl;apply ra_keepC rfl (rq_quiet rfl (a_faddr (by exact rfl)) (by exact sv_ptr _)) rfl;exact ra_nil) ?_
 clear C3
 refine wD_quiet rfl rfl rfl (by exact rfl) (by exact rfl) (by exact rfl) (a_num (by exact rfl) (by exact rfl) (by with_reducible assumption)) ?_;refine wD_quiet rfl rfl rfl (by exact rfl) (by exact rfl) (by exact rfl) (a_iaddrA (by exact rfl) (by exact rfl) (by omega)) ?_
 refine wD_storeA (vs:=us o) (ws:=us (putC o (ceOf z i))) rfl rfl rfl (by exact rfl) (by exact rfl) (by exact rfl) Bo2 kc kw (by omega) (by apply ra_dropC rfl;apply ra_dropC rfl;apply ra_dropC rfl;apply ra_dropC rfl;apply ra_dropC rfl;apply ra_dropC rfl;exact ra_nil) ?_
 refine wD_nil ?_;refine y1 ?_;refine kB_n ?_
 refine⟨⟨_,by(simp(disch:=first|omega|(simp only[z1,z2];omega))only[z3,z4,z5,z6,z7,z1,z2,gl,Bo2,Bl2,gB];exact rfl),rfl⟩,fun z hz=> ?_, .inl ⟨rfl,fun h5 hn h5e h5l=> ?_⟩⟩
 ·have key:z=q:=by
   rcases wr_log_old hz with h|hz
   ·exact h
   rw[LB]at hz;cases hz
  subst key
  exact⟨hlo,by omega⟩
 ·refine⟨(h5e q ko no).trans (Heap.get_wr_new Bo2),fun z hz hne=> ?_,hn⟩
  by_cases hl:z=l
  ·subst hl
   rw[gl];exact h5l
  ·refine(h5e z hz hl).trans ?_
   rw[z5 hne,xB.old z (by omega)]
   exact(A1 z hz hl).symm
end Go.A.Pk
end
section
set_option maxRecDepth 100000
namespace Go.A.Pk
variable {T:Nat→Option AFunc}
theorem cells_inG{s:List Nat}{n:Nat}{c:Ce}(h:c∈cellsTo s n):inG c=true:=by
 have:=mem_cells h
 by_cases hc:inG c=true
 ·exact hc
 ·rw[sHas_out hc]at this;cases this
theorem mapS_ok{f:Ce→Ce}{s:List Nat}(hin:∀c,inG c=true→inG (f c)=true):IsS (mapS f s):=mapD_ok fun c hc=>hin c (cells_inG hc)
set_option maxHeartbeats 16000000 in
theorem mapped261(F:FnsMp T){h:Heap}(hr:Rdy h)(hg:Tab h)(h2:2<h.next){s:List Nat}(hs:IsS s){gf:Nat}{cap:Value}{f:Ce→Ce}(hin:∀c,inG c=true→inG (f c)=true)
 (hto:∀H':Heap,WF H'→(∀z,z<h.next→H'.get z=h.get z)→∀c,inG c=true→Pu T gf [ceV c,cap] {H' with log:=[]} (ceV (f c))):
 Pu T 261 [sv s, .func (.func gf) #[] #[cap]] h (.tuple #[sv (mapS f s), .bool true]):=by
 have hp:=F.cp.p
 have hms:=mapS_ok (s:=s) hin
 refine .of hp F.f261 hr (by
  have h1:flat (sv (mapS f s))=true:=sv_noRef _
  show flatL [sv (mapS f s), .bool true]=true
  simp only[flatL,h1,cond_true];rfl) ?_
 have k8:=us_llen hs.len
 have k9:=us_take8 hs.len
 have x0:Ext h (((((h.push (.cells (cellsOf (sv s)) true 1)).push (.cells (cellsOf (.func (.func gf) #[] #[cap])) true 1)).push (.cells (lrep 8 (.int .u64 0)) true 1)).push (.cells [.bool false] true 1)).push (.cells (lrep 8 (.int .u64 0)) true 1)):=(((((Ext.refl h).push _).push _).push _).push _).push _
 have gA:(((((h.push (.cells (cellsOf (sv s)) true 1)).push (.cells (cellsOf (.func (.func gf) #[] #[cap])) true 1)).push (.cells (lrep 8 (.int .u64 0)) true 1)).push (.cells [.bool false] true 1)).push (.cells (lrep 8 (.int .u64 0)) true 1)).get h.next=some (.cells (us s) true 1):=by(simp(disch:=first|omega|(simp only[z1,z2];omega))only[z3,z4,z5,z6,z7,z1,z2];exact rfl)
 have gB:(((((h.push (.cells (cellsOf (sv s)) true 1)).push (.cells (cellsOf (.func (.func gf) #[] #[cap])) true 1)).push (.cells (lrep 8 (.int .u64 0)) true 1)).push (.cells [.bool false] true 1)).push (.cells (lrep 8 (.int .u64 0)) true 1)).get (h.next+1)=some (.cells [.func (.func gf) #[] #[cap]] true 1):=by(simp(disch:=first|omega|(simp only[z1,z2];omega)|(simp only[z1,z2];done)|fail)only[z8,z4,z5,z9,z7,z1,z2,gA];exact rfl)
 have gC:(((((h.push (.cells (cellsOf (sv s)) true 1)).push (.cells (cellsOf (.func (.func gf) #[] #[cap])) true 1)).push (.cells (lrep 8 (.int .u64 0)) true 1)).push (.cells [.bool false] true 1)).push (.cells (lrep 8 (.int .u64 0)) true 1)).get (h.next+2)=some (.cells (us s0) true 1):=by(simp(disch:=first|omega|(simp only[z1,z2];omega)|(simp only[z1,z2];done)|fail)only[z8,z4,z5,z9,z7,z1,z2,gA,gB];exact rfl)
 have gD:(((((h.push (.cells (cellsOf (sv s)) true 1)).push (.cells (cellsOf (.func (.func gf) #[] #[cap])) true 1)).push (.cells (lrep 8 (.int .u64 0)) true 1)).push (.cells [.bool false] true 1)).push (.cells (lrep 8 (.int .u64 0)) true 1)).get (h.next+3)=some (.cells [.bool false] true 1):=by(simp(disch:=first|omega|(simp only[z1,z2];omega)|(simp only[z1,z2];done)|fail)only[z8,z4,z5,z9,z7,z1,z2,gA,gB,gC];done)
 have gE:(((((h.push (.cells (cellsOf (sv s)) true 1)).push (.cells (cellsOf (.func (.func gf) #[] #[cap])) true 1)).push (.cells (lrep 8 (.int .u64 0)) true 1)).push (.cells [.bool false] true 1)).push (.cells (lrep 8 (.int .u64 0)) true 1)).get (h.next+4)=some (.cells (us s0) true 1):=by(simp(disch:=first|omega|(simp only[z1,z2];omega)|(simp only[z1,z2];done)|fail)only[z8,z4,z5,z9,z7,z1,z2,gA,gB,gC,gD];exact rfl)
 have n0:(((((h.push (.cells (cellsOf (sv s)) true 1)).push (.cells (cellsOf (.func (.func gf) #[] #[cap])) true 1)).push (.cells (lrep 8 (.int .u64 0)) true 1)).push (.cells [.bool false] true 1)).push (.cells (lrep 8 (.int .u64 0)) true 1)).next=h.next+5:=rfl
 refine y4 ?_;refine yB ?_;refine yB ?_;refine wO_val (a_new) ?_;refine wO_val (a_new) ?_;refine y3 ?_;refine y4 ?_;refine wO_val (a_new) ?_
 refine y3 ?_
 generalize(((((h.push (.cells (cellsOf (sv s)) true 1)).push (.cells (cellsOf (.func (.func gf) #[] #[cap])) true 1)).push (.cells (lrep 8 (.int .u64 0)) true 1)).push (.cells [.bool false] true 1)).push (.cells (lrep 8 (.int .u64 0)) true 1))=H at*
 have W:=x0.wf hr.wf
 have hL:=x0.log.trans hr.log
 have C:=cells214 F.cp (h:={H with log:=[]}) (.of W) hs
 refine wE_seq ?_;refine y4 ?_;refine wO_val (a_loadN (by exact rfl) (by assumption) (by assumption) (by assumption)) ?_
 refine yC ?_
 refine FW.al C (fun v h' m q=>q) ?_
 rintro _ H1 x1 ⟨q,rfl,gq,q2,q3⟩
 clear C
 have q2:H.next≤q:=q2
 have ey1':=x0.trans x1
 have W1:=ey1'.wf hr.wf
 have hL1:=ey1'.log.trans hr.log
 have n1:=x1.next
 have gB1:=(x1.old _ (by omega)).trans gB
 have gC1:=(x1.old _ (by omega)).trans gC
 have gD1:=(x1.old _ (by omega)).trans gD
 have gE1:=(x1.old _ (by omega)).trans gE
 have hg1:Tab H1:=hg.ext ey1' h2
 clear gA gB gC gD gE
 refine y3 ?_;refine wE_block ?_
 refine wE_rangeX (lo:=h.next+4) (P:=PXo H1.next (h.next+4) H1 (.loop [(3, .pointer (some ⟨h.next+1,0,none⟩)),(4, .pointer (some ⟨h.next+2,0,none⟩)),(5, .pointer (some ⟨h.next+3,0,none⟩)),(6, .pointer (some ⟨h.next+4,0,none⟩)),(10,fnC q)] [11] asg261 bod261 0 .normal) (fun d=>us (mapD f d)) (cellsTo s 512)) (S:=fun _=>False) rfl (by rfl) (by rw[F.cp.f265];rfl) (by omega) (by omega) hL1 W1 ?_ (fun H p=>⟨_,_,_,_,p.loop⟩) (fun H p=>p.elim) ?_ (fun _ _ _ _ _ _ _ p=>p.elim)
 ·have Y:YldX T (h.next+4) (H1.next+1) H1.next ceV (cellsTo s 512) (fun d H'=>PXo H1.next (h.next+4) H1 (.loop [(3, .pointer (some ⟨h.next+1,0,none⟩)),(4, .pointer (some ⟨h.next+2,0,none⟩)),(5, .pointer (some ⟨h.next+3,0,none⟩)),(6, .pointer (some ⟨h.next+4,0,none⟩)),(10,fnC q)] [11] asg261 bod261 0 .normal) (fun d=>us (mapD f d)) d H'∧IsS (mapD f d)) (fun _=>False):=by
   refine⟨fun done x Hh hx hrH hN hP=> ?_,fun done Ha Hb p n e=>⟨PXo.stable (by omega) done Ha Hb p.1 n e,p.2⟩,fun _ _ h=>h,fun _ h=>h.elim⟩
   obtain⟨hP,hd⟩:=hP
   have hxG:=cells_inG hx
   refine FW.mono' (map_round F hrH (lo:=h.next+4) (N:=H1.next+1) (S:=fun _=>False) hd (d:=f x) (hin x hxG) (Nat.le_refl _) (by omega) (by omega) (by omega) hP.loop ((hP.old _ (by omega) (by omega)).trans gB1)
    (fun H' w e=>hto H' w (fun z hz=>(e z (by omega)).trans ((hP.old z (by omega) (by omega)).trans (ey1'.old z hz))) x hxG) hP.val) ?_
   rintro r' H' ⟨r1,r2⟩
   refine⟨r1,r2.imp (fun⟨e,g,o,_⟩=>⟨e,⟨fun z hz hne=>(o z (by omega) hne).trans (hP.old z hz hne),(o _ (by omega) (by omega)).trans hP.loop,?_⟩,?_⟩) id⟩
   ·rw[mapD_snoc];exact g
   ·rw[mapD_snoc];exact hd.putC (hin x hxG)
  have G:=cells265X F.cp (.of (W1.push (.loop [(3, .pointer (some ⟨h.next+1,0,none⟩)),(4, .pointer (some ⟨h.next+2,0,none⟩)),(5, .pointer (some ⟨h.next+3,0,none⟩)),(6, .pointer (some ⟨h.next+4,0,none⟩)),(10,fnC q)] [11] asg261 bod261 0 .normal))) (q0:=q) (l:=H1.next) (N:=H1.next+1) (lo:=h.next+4) hs (Nat.le_refl _) (by show h.next+4≤H1.next+1;omega) (Nat.lt_succ_self _) Y ((z4 (by omega)).trans gq) (fun d H' hP=>(hP.1.old 2 (by omega) (by omega)).trans hg1)
   ⟨⟨fun z hz _=>z4 hz,z3 _ _,(z4 (by omega)).trans gE1⟩,s0_ok⟩
  exact CW.mono G fun r h' ⟨a,v,b,c⟩=>⟨a,v,b,c.imp (fun p=>p.1) id⟩
 intro h4 h5 k1 k2 k3 k4 k5 hP
 have D:=(k5 (h.next+4) (by omega)).trans hP.val
 have D2:=(k5 (h.next+2) (by omega)).trans ((hP.old _ (by omega) (by omega)).trans gC1)
 have D3:=(k5 (h.next+3) (by omega)).trans ((hP.old _ (by omega) (by omega)).trans gD1)
 unfold mapS at*
 generalize mapD f (cellsTo s 512)=z at*
 have ck:=us_take8 hms.len
 have ckl:=us_llen hms.len
 have cko:=us_ones z
 have cks:(us z).length=8:=by rw[us_length,hms.len]
 have ck0:=us_ones s0
 have ck0l:(us s0).length=8:=rfl
 refine kB_n ?_;refine kS_n ?_;refine y4 ?_;refine wO_val (a_loadN (by exact rfl) (by assumption) (by assumption) (by assumption)) ?_;refine wO_val (a_storeAll (by exact rfl) (by exact rfl) (by assumption) (by assumption) (by assumption) (by exact us_ones _)) ?_
 refine wO_val (a_store (by exact rfl) (by exact rfl) (by first|(simp(disch:=first|omega|(simp only[z1,z2];omega))only[z3,z4,z5,z6,z7,z1,z2,gq,gB1,gC1,gD1,gE1,D2,D3,D];exact rfl)|fail) (by exact rfl) (by exact rfl)) ?_;refine y3 ?_;refine wE_ret ?_
 refine endP_ret ?_ (res_cells (own:=true) (s:=1) (l:=us z) rfl ?_ ck ckl (res_cell (own:=true) (s:=1) (ws:=[.bool true]) (v:= .bool true) rfl ?_ rfl rfl)) rfl
 ·rw[Heap.log_wr_new (by show h.next≤h.next+3;omega),Heap.log_wr_new (by show h.next≤h.next+2;omega)];exact k1
 ·(simp(disch:=first|omega|(simp only[z1,z2];omega))only[z3,z4,z5,z6,z7,z1,z2,gq,gB1,gC1,gD1,gE1,D2,D3,D];done)
 ·(simp(disch:=first|omega|(simp only[z1,z2];omega))only[z3,z4,z5,z6,z7,z1,z2,gq,gB1,gC1,gD1,gE1,D2,D3,D];exact rfl)
theorem spin262(F:FnsMp T){h:Heap}(hr:Rdy h){qt t:Nat}(ht:t<24)(g:h.get qt=some (.cells [.int .i64 (t:Nat)] true 1)){c:Ce}(hc:inG c=true):Pu T 262 [ceV c, .pointer (some ⟨qt,0,none⟩)] h (ceV (turnC t c)):=by
 refine .of F.cp.p F.f262 hr rfl ?_
 have kq:=hr.wf.get_lt g
 have W:WF ((h.push (.cells (cellsOf (ceV c)) true 1)).push (.cells [I.O,I.O,I.O] true 1)):=(hr.wf.push _).push _
 have C:=turned263 F.tu (.of W) (inB_iff.1 hc) ht
 have ck:ltake 3 (ldrop 0 (ceL (turnC t c)))=ceL (turnC t c):=rfl
 generalize turnC t c=d at*
 refine y4 ?_;refine yB ?_;refine wO_val (a_new) ?_;refine y3 ?_;refine y4 ?_
 refine yN ?_
 refine yL ?_
 refine yC ?_
 refine FW.pu C ?_
 refine yS ?_;refine y3 ?_;refine wE_ret ?_
 refine endP_ret ?_ (res_cells (own:=true) (s:=1) rfl ?_ ck rfl rfl) rfl
 ·rw[Heap.log_wr_new (by show h.next≤h.next+1;omega)];exact hr.log
 ·(simp(disch:=first|omega|(simp only[z1,z2];omega)|(simp only[z1,z2];done)|fail)only[z8,z4,z5,z9,z7,z1,z2,g];exact rfl)
def spunS(s:List Nat)(t:Nat):List Nat:=mapS (turnC t) s
theorem turn_in{t:Nat}(c:Ce)(h:inG c=true):inG (turnC t c)=true:=inB_iff.2 ((inB_iff.1 h).turn t)
theorem spunS_ok(s:List Nat)(t:Nat):IsS (spunS s t):=mapS_ok turn_in
set_option maxHeartbeats 16000000 in
theorem spun211(F:FnsMp T){h:Heap}(hr:Rdy h)(hg:Tab h)(h2:2<h.next){s:List Nat}(hs:IsS s){t:Nat}(ht:t<24):Pu T 211 [sv s, .int .i64 (t:Nat)] h (sv (spunS s t)):=by
 refine .of F.cp.p F.f211 hr (sv_noRef _) ?_
 have k8:=us_llen hs.len
 have k9:=us_take8 hs.len
 have x0:Ext h (((h.push (.cells (cellsOf (sv s)) true 1)).push (.cells (cellsOf (Value.int .i64 (t:Nat))) true 1)).push (.cells (lrep 8 (.int .u64 0)) true 1)):=(((Ext.refl h).push _).push _).push _
 have gA:(((h.push (.cells (cellsOf (sv s)) true 1)).push (.cells (cellsOf (Value.int .i64 (t:Nat))) true 1)).push (.cells (lrep 8 (.int .u64 0)) true 1)).get h.next=some (.cells (us s) true 1):=by(simp(disch:=first|omega|(simp only[z1,z2];omega))only[z3,z4,z5,z6,z7,z1,z2];exact rfl)
 have gB:(((h.push (.cells (cellsOf (sv s)) true 1)).push (.cells (cellsOf (Value.int .i64 (t:Nat))) true 1)).push (.cells (lrep 8 (.int .u64 0)) true 1)).get (h.next+1)=some (.cells [.int .i64 (t:Nat)] true 1):=by(simp(disch:=first|omega|(simp only[z1,z2];omega)|(simp only[z1,z2];done)|fail)only[z8,z4,z5,z9,z7,z1,z2,gA];exact rfl)
 have gC:(((h.push (.cells (cellsOf (sv s)) true 1)).push (.cells (cellsOf (Value.int .i64 (t:Nat))) true 1)).push (.cells (lrep 8 (.int .u64 0)) true 1)).get (h.next+2)=some (.cells (us s0) true 1):=by(simp(disch:=first|omega|(simp only[z1,z2];omega)|(simp only[z1,z2];done)|fail)only[z8,z4,z5,z9,z7,z1,z2,gA,gB];exact rfl)
 have n0:(((h.push (.cells (cellsOf (sv s)) true 1)).push (.cells (cellsOf (Value.int .i64 (t:Nat))) true 1)).push (.cells (lrep 8 (.int .u64 0)) true 1)).next=h.next+3:=rfl
 refine y4 ?_;refine yB ?_;refine yB ?_;refine wO_val (a_new) ?_;refine y3 ?_
 generalize(((h.push (.cells (cellsOf (sv s)) true 1)).push (.cells (cellsOf (Value.int .i64 (t:Nat))) true 1)).push (.cells (lrep 8 (.int .u64 0)) true 1))=H at*
 have W:=x0.wf hr.wf
 have hL:=x0.log.trans hr.log
 have C:=mapped261 F (h:={H with log:=[]}) (.of W) (show Tab H from hg.ext x0 h2) (by show 2<H.next;omega) hs (gf:=262) (cap:= .pointer (some ⟨h.next+1,0,none⟩)) (f:=turnC t) turn_in
  (fun H' w e c hc=>spin262 F (.of w) ht ((e (h.next+1) (by show h.next+1<H.next;omega)).trans gB) hc)
 have hms:=spunS_ok s t
 unfold spunS at*
 generalize mapS (turnC t) s=z at*
 have ck:=us_take8 hms.len
 have ckl:=us_llen hms.len
 have cko:=us_ones z
 have cks:(us z).length=8:=by rw[us_length,hms.len]
 have ck0:=us_ones s0
 have ck0l:(us s0).length=8:=rfl
 refine y4 ?_;refine wO_val (a_loadN (by exact rfl) (by assumption) (by assumption) (by assumption)) ?_;refine wO_val (a_mkFunc (by exact rfl) (by exact rfl)) ?_
 refine yC ?_
 refine FW.pu C ?_
 clear C
 refine yM ?_;refine yE ?_;refine yE ?_;refine wO_val (a_new) ?_
 refine wO_val (a_storeAll (by exact rfl) (by exact rfl) (by(simp(disch:=first|omega|(simp only[z1,z2];omega))only[z3,z4,z5,z6,z7,z1,z2,gA,gB,gC];exact rfl)) (by assumption) (by assumption) (by exact us_ones _)) ?_;refine yM ?_
 refine y3 ?_;refine y4 ?_
 refine wO_val (a_loadN (by exact rfl) (by(simp(disch:=first|omega|(simp only[z1,z2];omega))only[z3,z4,z5,z6,z7,z1,z2,gA,gB,gC];exact rfl)) (by assumption) (by assumption)) ?_
 refine wO_val (a_storeAll (by exact rfl) (by exact rfl) (by(simp(disch:=first|omega|(simp only[z1,z2];omega))only[z3,z4,z5,z6,z7,z1,z2,gA,gB,gC];exact rfl)) (by assumption) (by assumption) (by exact us_ones _)) ?_;refine y3 ?_;refine wE_ret ?_
 refine endP_ret ?_ (res_cells (own:=true) (s:=1) (l:=us z) rfl ?_ ck ckl rfl) rfl
 ·rw[Heap.log_wr_new (by show h.next≤h.next+2;omega),Heap.log_wr_new (by first|omega|(show h.next≤H.next;omega))];exact hL
 ·(simp(disch:=first|omega|(simp only[z1,z2];omega))only[z3,z4,z5,z6,z7,z1,z2,gA,gB,gC];done)
end Go.A.Pk
end
section
set_option maxRecDepth 100000
namespace Go.A.Pk
variable {T:Nat→Option AFunc}
def shP(p:Nat)(k:Int):Nat:=if 0≤k then Nat.mod (Nat.shiftLeft p k.toNat) 18446744073709551616 else Nat.shiftRight p (-k).toNat
theorem shP_lt{p:Nat}{k:Int}(hp:p<U64):shP p k<U64:=by
 unfold shP
 split
 ·exact Nat.mod_lt _ (by decide)
 ·exact Nat.lt_of_le_of_lt (Nat.shiftRight_le _ _) hp
def liftN(s:List Nat)(a:Nat)(z k:Int):Nat→List Nat
 |0=>s0
 |n+1=>(liftN s a z k n).set (((a+n:Nat):Int)+z).toNat (shP (s.getD (a+n) 0) k)
theorem liftN_ok{s:List Nat}(hs:IsS s)(a:Nat)(z k:Int):∀n,IsS (liftN s a z k n)
 |0=>s0_ok
 |n+1=>by
  have ih:=liftN_ok hs a z k n
  refine⟨by unfold liftN;rw[List.length_set];exact ih.len,fun x hx=> ?_⟩
  unfold liftN at hx
  rcases List.mem_or_eq_of_mem_set hx with h|h
  ·exact ih.lt x h
  ·rw[h];exact shP_lt (hs.getD_lt _)
def liftS(s:List Nat)(b:Bx)(x y z:Int):List Nat:=liftN s b.lo.z.toNat z (8*y+x) (b.hi.z-b.lo.z+1).toNat
theorem m_shl{p n:Nat}(hn:n<64):numOp .shl (.int .u64 (p:Nat)) (.int .i64 (n:Nat))=some (.int .u64 ((Nat.mod (Nat.shiftLeft p n) 18446744073709551616:Nat):Int)):=by
 have e1:((n:Nat):Int)=Int.ofNat n:=rfl
 have e2:((p:Nat):Int)=Int.ofNat p:=rfl
 rw[e1,e2]
 have:numOp .shl (.int .u64 (Int.ofNat p)) (.int .i64 (Int.ofNat n))=some (.int .u64 (.ofNat (Nat.mod (Nat.shiftLeft p (Nat.min n 64)) 18446744073709551616))):=rfl
 rw[this,show Nat.min n 64=n from Nat.min_eq_left (by omega)]
 rfl
def psL(s:List Nat)(b:Bx):List Value:=us s++bxL b
def psV(s:List Nat)(b:Bx):Value:= .agg (psL s b).toArray
theorem psL_box{s:List Nat}{b:Bx}(hs:IsS s)(j:Nat):lget (psL s b) (8+j)=lget (bxL b) j:=by
 rw[lget_eq,lget_eq]
 unfold psL
 rw[List.getElem?_append_right (by rw[us_length,hs.len];omega),us_length,hs.len,Nat.add_sub_cancel_left]
theorem psL_pl{s:List Nat}{b:Bx}(hs:IsS s){i:Nat}(hi:i<8):lget (psL s b) (0+0+i*1)=some (.int .u64 ((s.getD i 0:Nat):Int)):=by
 rw[lget_eq,show 0+0+i*1=i by omega]
 unfold psL
 rw[List.getElem?_append_left (by rw[us_length,hs.len];omega)]
 unfold us
 rw[List.getElem?_map,getD_at (by rw[hs.len];exact hi)];rfl
structure FnsLi (T:Nat→Option AFunc):Prop where
 p:primAS T
 f212:T 212=some f212
set_option maxHeartbeats 16000000 in
theorem lifted212(F:FnsLi T){h:Heap}(hr:Rdy h){s:List Nat}(hs:IsS s){b:Bx}{x y z:Int}(hx: -7≤x∧x≤7)(hy: -7≤y∧y≤7)(hz: -7≤z∧z≤7)(hlo:0≤b.lo.z∧b.lo.z≤7)(hhi:0≤b.hi.z∧b.hi.z≤7)(hl:0≤b.lo.z+z)(hh:b.hi.z+z≤7):
 Pu T 212 [psV s b, .int .i64 x, .int .i64 y, .int .i64 z] h (sv (liftS s b x y z)):=by
 refine .of F.p F.f212 hr (sv_noRef _) ?_
 unfold liftS
 have hb:bxL b=[.int .i64 b.lo.x, .int .i64 b.lo.y, .int .i64 b.lo.z, .int .i64 b.hi.x, .int .i64 b.hi.y, .int .i64 b.hi.z]:=rfl
 have eA:lget (psL s b) (0+8+0+2)=some (.int .i64 b.lo.z):=by rw[show 0+8+0+2=8+2 by omega,psL_box hs];rfl
 have eB:lget (psL s b) (0+8+3+2)=some (.int .i64 b.hi.z):=by rw[show 0+8+3+2=8+5 by omega,psL_box hs];rfl
 obtain⟨a,ha⟩:=Int.eq_ofNat_of_zero_le hlo.1
 obtain⟨c,hc⟩:=Int.eq_ofNat_of_zero_le hhi.1
 rw[ha]at eA hlo hl
 rw[hc]at eB hhi hh
 have eP:=fun i hi=>psL_pl (s:=s) (b:=b) hs (i:=i) hi
 have hcells:cellsOf (psV s b)=psL s b:=by show(psL s b).toArray.toList=_;simp
 have x0:Ext h (((h.push (.cells (cellsOf (psV s b)) true 1)).push (.cells (lrep 8 (.int .u64 0)) true 1)).push (.cells (lrep 8 (.int .u64 0)) true 1)):=(((Ext.refl h).push _).push _).push _
 have gA:(((h.push (.cells (cellsOf (psV s b)) true 1)).push (.cells (lrep 8 (.int .u64 0)) true 1)).push (.cells (lrep 8 (.int .u64 0)) true 1)).get h.next=some (.cells (psL s b) true 1):=by rw[hcells];(simp(disch:=first|omega|(simp only[z1,z2];omega))only[z3,z4,z5,z6,z7,z1,z2];done)
 have gB:(((h.push (.cells (cellsOf (psV s b)) true 1)).push (.cells (lrep 8 (.int .u64 0)) true 1)).push (.cells (lrep 8 (.int .u64 0)) true 1)).get (h.next+1)=some (.cells (us s0) true 1):=by(simp(disch:=first|omega|(simp only[z1,z2];omega)|(simp only[z1,z2];done)|fail)only[z8,z4,z5,z9,z7,z1,z2,gA];exact rfl)
 have gC:(((h.push (.cells (cellsOf (psV s b)) true 1)).push (.cells (lrep 8 (.int .u64 0)) true 1)).push (.cells (lrep 8 (.int .u64 0)) true 1)).get (h.next+2)=some (.cells (us s0) true 1):=by(simp(disch:=first|omega|(simp only[z1,z2];omega)|(simp only[z1,z2];done)|fail)only[z8,z4,z5,z9,z7,z1,z2,gA,gB];exact rfl)
 have n0:(((h.push (.cells (cellsOf (psV s b)) true 1)).push (.cells (lrep 8 (.int .u64 0)) true 1)).push (.cells (lrep 8 (.int .u64 0)) true 1)).next=h.next+3:=rfl
 refine y4 ?_;refine yB ?_;refine wO_val (a_new) ?_;refine y3 ?_;refine y4 ?_;refine wO_val (a_new) ?_;refine y3 ?_
 generalize(((h.push (.cells (cellsOf (psV s b)) true 1)).push (.cells (lrep 8 (.int .u64 0)) true 1)).push (.cells (lrep 8 (.int .u64 0)) true 1))=H at*
 have hL:=x0.log.trans hr.log
 rw[ha,hc]
 have m1:numOp .mul (.int .i64 8) (.int .i64 y)=some (.int .i64 (8*y)):=m_mul (by omega) (by omega)
 have m2:numOp .add (.int .i64 (8*y)) (.int .i64 x)=some (.int .i64 (8*y+x)):=m_add (wrapA_i64 (by omega) (by omega))
 refine wE_seq ?_;refine y4 ?_;refine yF ?_;refine yF ?_;refine yF ?_;refine wO_val (a_load (by exact rfl) (by assumption) (by assumption)) ?_;refine yM ?_;refine y3 ?_;refine wE_block ?_
 refine wE_loop (fun m e ds h'=>∃n:Nat,(a+n≤c+1∨n=0)∧8-n=m∧e=[(1, .int .i64 x),(2, .int .i64 y),(3, .int .i64 z),(4, .pointer (some ⟨h.next,0,none⟩)),(8, .pointer (some ⟨h.next+1,0,none⟩)),(9, .pointer (some ⟨h.next+2,0,none⟩)),(10, .int .i64 ((a+n:Nat):Int))]∧ds=[]∧Ext h h'∧h'.get h.next=some (.cells (psL s b) true 1)∧h'.get (h.next+1)=some (.cells (us s0) true 1)∧h'.get (h.next+2)=some (.cells (us (liftN s a z (8*y+x) n)) true 1))
  ⟨0, .inr rfl,rfl,rfl,rfl,x0,gA,gB,gC⟩ ?_
 rintro m e ds h' ⟨n,hn,rfl,rfl,rfl,xx,g1,g2,g3⟩
 have hso:=liftN_ok hs a z (8*y+x) n
 by_cases hlt:a+n≤c
 ·have m3:numOp .leq (.int .i64 ((a+n:Nat):Int)) (.int .i64 (c:Nat))=some (.bool true):=m_leqT (by omega)
  obtain⟨w,hw⟩:=Int.eq_ofNat_of_zero_le (show 0≤((a+n:Nat):Int)+z by omega)
  have hw8:w<8:=by omega
  have m4:numOp .add (.int .i64 ((a+n:Nat):Int)) (.int .i64 z)=some (.int .i64 ((w:Nat):Int)):=m_add (by rw[wrapA_i64 (by omega) (by omega)];omega)
  have e1:=eP (a+n) (by omega)
  have hstep:liftN s a z (8*y+x) (n+1)=(liftN s a z (8*y+x) n).set w (shP (s.getD (a+n) 0) (8*y+x)):=by
   rw[liftN,hw];rfl
  have hnx:=xx.next
  by_cases hk:0≤8*y+x
  ·obtain⟨k,hk2⟩:=Int.eq_ofNat_of_zero_le hk
   have hk3:k<64:=by omega
   rw[hk2]at m2 hstep hso g3⊢
   have m5:numOp .geq (.int .i64 ((k:Nat):Int)) (.int .i64 0)=some (.bool true):=m_geqT (by omega)
   have m6:=m_shl (p:=s.getD (a+n) 0) hk3
   have hsh:shP (s.getD (a+n) 0) ((k:Nat):Int)=Nat.mod (Nat.shiftLeft (s.getD (a+n) 0) k) 18446744073709551616:=by
    unfold shP
    rw[if_pos (by omega)];rfl
   rw[←hsh]at m6
   have kw:=us_put (o:=liftN s a z ((k:Nat):Int) n) (z:=w) (v:=shP (s.getD (a+n) 0) ((k:Nat):Int)) (by rw[hso.len];exact hw8)
   rw[←hstep]at kw
   have kc:(Nat.beq (llen (cellsOf (.int .u64 ((shP (s.getD (a+n) 0) ((k:Nat):Int):Nat):Int)))) 1&&Nat.ble (0+w*1+1) (llen (us (liftN s a z ((k:Nat):Int) n)))&&ones (cellsOf (.int .u64 ((shP (s.getD (a+n) 0) ((k:Nat):Int):Nat):Int))))=true:=by
    rw[llen_eq (us _),us_length,hso.len,nble_of (by omega)];rfl
   have hn8:n<8:=by omega
   refine wE_seq ?_;refine y4 ?_;refine yM ?_;refine yF ?_;refine yF ?_;refine yF ?_;refine wO_val (a_load (by exact rfl) (by assumption) (by assumption)) ?_;refine wO_val (a_num (by exact rfl) (by exact rfl) (by with_reducible assumption)) ?_
   refine y3 ?_;refine yY ?_;refine wE_skip ?_;refine kS_n ?_;refine wE_seq ?_;refine wE_block ?_;refine y4 ?_;refine yM ?_
   refine wO_val (a_num (by exact rfl) (by exact rfl) (by with_reducible assumption)) ?_;refine yM ?_;refine wO_val (a_num (by exact rfl) (by exact rfl) (by with_reducible assumption)) ?_;refine yM ?_;refine y3 ?_
   refine y4 ?_;refine yM ?_;refine wO_val (a_num (by exact rfl) (by exact rfl) (by with_reducible assumption)) ?_;refine y3 ?_;refine yY ?_;refine wE_region ?_;refine yM ?_
   refine yM ?_;refine wO_val (a_num (by exact rfl) (by exact rfl) (by with_reducible assumption)) ?_;refine yM ?_;refine yF ?_;refine wO_val (a_iaddrA (by exact rfl) (by exact rfl) (by omega)) ?_;refine wO_val (a_load (by exact rfl) (by assumption) (by assumption)) ?_;refine yM ?_
   refine wO_val (a_num (by exact rfl) (by exact rfl) (by with_reducible assumption)) ?_;refine wO_val (a_iaddrA (by exact rfl) (by exact rfl) (by omega)) ?_
   refine wO_val (a_store (by exact rfl) (by exact rfl) g3 kc kw) ?_
   refine wO_nil ?_;refine y1 ?_;refine kB_n ?_;refine kS_n ?_;refine wE_region ?_;refine yM ?_;refine yinc ?_;refine yM ?_;refine y3 ?_
   exact⟨8-(n+1),by omega,n+1, .inl (by omega),rfl,rfl,rfl,⟨xx.next,(Heap.log_wr_new (by omega)).trans xx.log,fun b hb=>(z5 (by omega)).trans (xx.old b hb),fun w=>(xx.wf w).as (AS.wr h.next _ _ _)⟩,(z5 (by omega)).trans g1,(z5 (by omega)).trans g2,Heap.get_wr_new g3⟩
  ·obtain⟨k,hk2⟩:=Int.eq_ofNat_of_zero_le (show 0≤ -(8*y+x)by omega)
   have hk3:k<64:=by omega
   have m5:numOp .geq (.int .i64 (8*y+x)) (.int .i64 0)=some (.bool false):=m_geqF (by omega)
   have m7:unOpA .neg (.int .i64 (8*y+x))=some (.int .i64 ((k:Nat):Int)):=by
    show some (Value.int .i64 (wrapA .i64 (0-(8*y+x))))=_
    rw[wrapA_i64 (by omega) (by omega)]
    congr 2;omega
   have m6:numOp .shr (.int .u64 ((s.getD (a+n) 0:Nat):Int)) (.int .i64 ((k:Nat):Int))=_:=m_shr (a:=s.getD (a+n) 0) (n:=k) (by omega)
   have hsh:shP (s.getD (a+n) 0) (8*y+x)=Nat.shiftRight (s.getD (a+n) 0) k:=by
    unfold shP
    rw[if_neg hk,show(-(8*y+x)).toNat=k by omega]
   rw[←hsh]at m6
   have kw:=us_put (o:=liftN s a z (8*y+x) n) (z:=w) (v:=shP (s.getD (a+n) 0) (8*y+x)) (by rw[hso.len];exact hw8)
   rw[←hstep]at kw
   have kc:(Nat.beq (llen (cellsOf (.int .u64 ((shP (s.getD (a+n) 0) (8*y+x):Nat):Int)))) 1&&Nat.ble (0+w*1+1) (llen (us (liftN s a z (8*y+x) n)))&&ones (cellsOf (.int .u64 ((shP (s.getD (a+n) 0) (8*y+x):Nat):Int))))=true:=by
    rw[llen_eq (us _),us_length,hso.len,nble_of (by omega)];rfl
   have hn8:n<8:=by omega
   refine wE_seq ?_;refine y4 ?_;refine yM ?_;refine yF ?_;refine yF ?_;refine yF ?_;refine wO_val (a_load (by exact rfl) (by assumption) (by assumption)) ?_;refine wO_val (a_num (by exact rfl) (by exact rfl) (by with_reducible assumption)) ?_
   refine y3 ?_;refine yY ?_;refine wE_skip ?_;refine kS_n ?_;refine wE_seq ?_;refine wE_block ?_;refine y4 ?_;refine yM ?_
   refine wO_val (a_num (by exact rfl) (by exact rfl) (by with_reducible assumption)) ?_;refine yM ?_;refine wO_val (a_num (by exact rfl) (by exact rfl) (by with_reducible assumption)) ?_;refine yM ?_;refine y3 ?_
   refine y4 ?_;refine yM ?_;refine wO_val (a_num (by exact rfl) (by exact rfl) (by with_reducible assumption)) ?_;refine y3 ?_;refine yX ?_;refine wE_region ?_;refine yM ?_
   refine yM ?_;refine wO_val (a_num (by exact rfl) (by exact rfl) (by with_reducible assumption)) ?_;refine yM ?_;refine yF ?_;refine wO_val (a_iaddrA (by exact rfl) (by exact rfl) (by omega)) ?_;refine wO_val (a_load (by exact rfl) (by assumption) (by assumption)) ?_;refine yM ?_
   refine wO_val (a_un (by exact rfl) (by assumption)) ?_;refine wO_val (a_num (by exact rfl) (by exact rfl) (by with_reducible assumption)) ?_;refine wO_val (a_iaddrA (by exact rfl) (by exact rfl) (by omega)) ?_
   refine wO_val (a_store (by exact rfl) (by exact rfl) g3 kc kw) ?_
   refine wO_nil ?_;refine y1 ?_;refine kB_n ?_;refine kS_n ?_;refine wE_region ?_;refine yM ?_;refine yinc ?_;refine yM ?_;refine y3 ?_
   exact⟨8-(n+1),by omega,n+1, .inl (by omega),rfl,rfl,rfl,⟨xx.next,(Heap.log_wr_new (by omega)).trans xx.log,fun b hb=>(z5 (by omega)).trans (xx.old b hb),fun w=>(xx.wf w).as (AS.wr h.next _ _ _)⟩,(z5 (by omega)).trans g1,(z5 (by omega)).trans g2,Heap.get_wr_new g3⟩
 ·have m3:numOp .leq (.int .i64 ((a+n:Nat):Int)) (.int .i64 (c:Nat))=some (.bool false):=m_leqF (by omega)
  rw[show((a:Nat):Int).toNat=a by omega,show(((c:Nat):Int)-((a:Nat):Int)+1).toNat=n by omega]
  generalize liftN s a z (8*y+x) n=o at*
  have ck:=us_take8 hso.len
  have ckl:=us_llen hso.len
  have cko:=us_ones o
  have cks:(us o).length=8:=by rw[us_length,hso.len]
  have ck0l:(us s0).length=8:=rfl
  refine wE_seq ?_;refine y4 ?_;refine yM ?_;refine yF ?_;refine yF ?_;refine yF ?_;refine wO_val (a_load (by exact rfl) (by assumption) (by assumption)) ?_;refine wO_val (a_num (by exact rfl) (by exact rfl) (by with_reducible assumption)) ?_
  refine y3 ?_;refine yX ?_;refine wE_exit ?_;refine kS_e ?_;refine kS_e ?_;refine kB_e ?_;refine kS_n ?_;refine y4 ?_;refine wO_val (a_loadN (by exact rfl) (by assumption) (by assumption) (by assumption)) ?_
  refine wO_val (a_storeAll (by exact rfl) (by exact rfl) (by assumption) (by assumption) (by assumption) (by exact us_ones _)) ?_;refine y3 ?_;refine wE_ret ?_
  refine endP_ret ?_ (res_cells (own:=true) (s:=1) (l:=us o) rfl ?_ ck ckl rfl) rfl
  ·rw[Heap.log_wr_new (by show h.next≤h.next+1;omega)];exact xx.log.trans hr.log
  ·(simp(disch:=first|omega|(simp only[z1,z2];omega))only[z3,z4,z5,z6,z7,z1,z2,gA,gB,gC,g1,g2,g3];done)
end Go.A.Pk
end
section
set_option maxRecDepth 100000
namespace Go.A.Pk
variable {T:Nat→Option AFunc}
structure FnsCo (T:Nat→Option AFunc):Prop where
 p:primAS T
 f188:T 188=some f188
 f254:T 254=some f254
def cntS(s:List Nat):Nat:=(cellsTo s 512).length
set_option maxHeartbeats 4000000 in
theorem count188(F:FnsCo T){h:Heap}(hr:Rdy h){s:List Nat}(hs:IsS s):Pu T 188 [sv s] h (.int .i64 ((cntS s:Nat):Int)):=by
 refine .of F.p F.f188 hr rfl ?_
 have k8:=us_llen hs.len
 have k9:=us_take8 hs.len
 have W:=hr.wf.push (.cells (cellsOf (sv s)) true 1)
 have hl5:=cellsTo_le s 512
 unfold cntS
 refine y4 ?_;refine yB ?_;refine yM ?_;refine y3 ?_;refine y4 ?_;refine yM ?_;refine y3 ?_;refine wE_seq ?_;refine y4 ?_
 refine wO_val (a_loadN (by exact rfl) (by(simp(disch:=first|omega|(simp only[z1,z2];omega))only[z3,z4,z5,z6,z7,z1,z2];exact rfl)) (by assumption) (by assumption)) ?_;refine yM ?_;refine y3 ?_;refine wE_block ?_
 refine wE_loop (fun m e ds h'=>∃z:Nat,z≤8∧8-z=m∧e=[(3, .int .i64 (((cellsTo s (z*64)).length:Nat):Int)),(6,sv s),(7, .int .i64 (z:Nat))]∧ds=[]∧h.push (.cells (cellsOf (sv s)) true 1)=h')
  ⟨0,by omega,rfl,rfl,rfl,rfl⟩ ?_
 rintro m e ds h' ⟨z,hz8,rfl,rfl,rfl,rfl⟩
 by_cases hz:z<8
 ·have e1:lget (us s).toArray.toList (z*1)=some (.int .u64 ((s.getD z 0:Nat):Int)):=by
   rw[List.toList_toArray,Nat.mul_one,lget_eq]
   unfold us
   rw[List.getElem?_map,getD_at (by rw[hs.len];exact hz)];rfl
  have C:=ones254 F.p F.f254 (.of W) (hs.getD_lt z)
  have hplane:=cellsTo_plane s hz
  have hle:=cellsTo_le s (z*64)
  have hpl:(planeC s z).length=(bitsOf (s.getD z 0)).length:=by unfold planeC;rw[List.length_map]
  have hb64:(bitsOf (s.getD z 0)).length≤64:=by
   unfold bitsOf
   exact Nat.le_trans (List.length_filter_le ..) (by simp)
  have m1:numOp .add (.int .i64 (((cellsTo s (z*64)).length:Nat):Int)) (.int .i64 (((bitsOf (s.getD z 0)).length:Nat):Int))=some (.int .i64 (((cellsTo s ((z+1)*64)).length:Nat):Int)):=by
   rw[hplane,List.length_append,hpl]
   exact m_add (by rw[wrapA_i64 (by omega) (by omega)];omega)
  generalize(bitsOf (s.getD z 0)).length=c3 at*
  refine y4 ?_;refine yt ?_;refine y3 ?_;refine wE_seq ?_;refine yY ?_;refine wE_skip ?_;refine kS_n ?_;refine wE_seq ?_;refine wE_block ?_;refine y4 ?_;refine wO_val (a_idxA (by exact rfl) (by exact rfl) (by omega) (by assumption)) ?_;refine yM ?_;refine y3 ?_;refine wE_region ?_;refine yM ?_;refine yM ?_
  refine yC ?_
  refine FW.pu C ?_
  clear C
  refine wO_val (a_num (by exact rfl) (by exact rfl) (by with_reducible assumption)) ?_;refine yM ?_;refine wO_nil ?_;refine y1 ?_;refine kB_n ?_;refine kS_n ?_;refine wE_region ?_;refine yinc ?_
  refine yM ?_;refine y3 ?_
  exact⟨8-(z+1),by omega,z+1,by omega,rfl,rfl,rfl,rfl⟩
 ·obtain rfl:z=8:=by omega
  rw[show 8*64=512 from rfl]
  generalize(cellsTo s 512).length=c at*
  refine y4 ?_;refine yf ?_;refine y3 ?_;refine wE_seq ?_;refine yX ?_;refine wE_exit ?_;refine kS_e ?_;refine kS_e ?_;refine kB_e ?_;refine kS_n ?_
  refine y4 ?_;refine yM ?_;refine yM ?_;refine y3 ?_;refine wE_ret ?_
  exact endP_ret hr.log rfl rfl
structure Fi where
 t:Nat
 x:Int
 y:Int
 z:Int
 s:List Nat
def moV(t x y z:Int):Value:= .agg #[.int .i64 t, .int .i64 x, .int .i64 y, .int .i64 z]
def fiV(f:Fi):List Value:=[moV f.t f.x f.y f.z,sv f.s]
def zrN(lo:Int)(n:Nat):List Int:=(List.range n).map fun i=>lo+(i:Nat)
theorem zrN_succ(lo:Int)(n:Nat):zrN lo (n+1)=zrN lo n++[lo+(n:Nat)]:=by unfold zrN;rw[List.range_succ,List.map_append];rfl
def zr(lo hi:Int):List Int:=zrN lo (hi-lo+1).toNat
def tryX(a p:List Nat)(bp:Bx)(t:Nat)(z y x:Int):List Fi:=if sIn (liftS p bp x y z) a then [⟨t,x,y,z,liftS p bp x y z⟩]else []
def fitX(a p:List Nat)(ra bp:Bx)(t:Nat)(z y:Int):List Fi:=(zr (ra.lo.x-bp.lo.x) (ra.hi.x-bp.hi.x)).flatMap (tryX a p bp t z y)
def fitY(a p:List Nat)(ra bp:Bx)(t:Nat)(z:Int):List Fi:=(zr (ra.lo.y-bp.lo.y) (ra.hi.y-bp.hi.y)).flatMap (fitX a p ra bp t z)
def fitZ(a p:List Nat)(ra bp:Bx)(t:Nat):List Fi:=(zr (ra.lo.z-bp.lo.z) (ra.hi.z-bp.hi.z)).flatMap (fitY a p ra bp t)
def fitT(a b:List Nat)(t:Nat):List Fi:=fitZ a (spunS b t) (bndS a).1 (bndS (spunS b t)).1 t
def fitsL(a b:List Nat):List Fi:=if a=s0∨cntS a<cntS b then []else(List.range 24).flatMap (fitT a b)
structure InBx (b:Bx):Prop where
 lo:InB b.lo
 hi:InB b.hi
theorem mi_in{a b:Int}(ha:0≤a∧a≤7)(hb:0≤b∧b≤7):0≤mi a b∧mi a b≤7:=by unfold mi;split<;>assumption
theorem mx_in{a b:Int}(ha:0≤a∧a≤7)(hb:0≤b∧b≤7):0≤mx a b∧mx a b≤7:=by unfold mx;split<;>assumption
theorem InBx.up{b:Bx}(h:InBx b){c:Ce}(hc:InB c):InBx (bxUp b c):=
 ⟨⟨mi_in h.lo.x hc.x,mi_in h.lo.y hc.y,mi_in h.lo.z hc.z⟩,⟨mx_in h.hi.x hc.x,mx_in h.hi.y hc.y,mx_in h.hi.z hc.z⟩⟩
theorem bxS_in:∀{l:List Ce},(∀c∈l,InB c)→InBx (bxS l):=by
 intro l
 have:∀(l:List Ce) (b:Bx),InBx b→(∀c∈l,InB c)→InBx (l.foldl bxUp b):=by
  intro l
  induction l with
  |nil=>intro b hb _;exact hb
  |cons c l ih=>intro b hb hl;exact ih _ (hb.up (hl c List.mem_cons_self)) fun x hx=>hl x (List.mem_cons_of_mem _ hx)
 exact fun hl=>this l bx0 ⟨⟨by decide,by decide,by decide⟩,⟨by decide,by decide,by decide⟩⟩ hl
theorem bndS_in(s:List Nat):InBx (bndS s).1:=by
 unfold bndS
 split
 ·exact⟨⟨by decide,by decide,by decide⟩,⟨by decide,by decide,by decide⟩⟩
 ·exact bxS_in fun c hc=>inB_iff.1 (cells_inG hc)
structure FnsFt (T:Nat→Option AFunc):Prop where
 mp:FnsMp T
 bd:FnsBd T
 li:FnsLi T
 co:FnsCo T
 f35:T 35=some f35
 f121:T 121=some f121
 f209:T 209=some f209
end Go.A.Pk
end
section
set_option maxRecDepth 100000
namespace Go.A.Pk
variable {T:Nat→Option AFunc}
def bx00:Bx:=⟨c0,c0⟩
theorem fill_ps{h:Heap}{e:Env}{x:Operand}{s:List Nat}(hs:IsS s)(hx:ev h e x=some (sv s)):fillA h e [.int .u64 0, .int .u64 0, .int .u64 0, .int .u64 0, .int .u64 0, .int .u64 0, .int .u64 0, .int .u64 0,I.O,I.O,I.O,I.O,I.O,I.O] [(0,8,x)]=some (psL s bx00):=by
 have e1:cellsOf (sv s)=us s:=by show(us s).toArray.toList=_;simp
 have h0:psL s0 bx00=[.int .u64 0, .int .u64 0, .int .u64 0, .int .u64 0, .int .u64 0, .int .u64 0, .int .u64 0, .int .u64 0,I.O,I.O,I.O,I.O,I.O,I.O]:=rfl
 have e2:lputs (psL s0 bx00) 0 (us s)=psL s bx00:=by
  rw[lputs_mid (by rw[us_length,hs.len];decide),us_length,hs.len,List.take_zero]
  rfl
 have e3:llen (us s)=8:=by rw[llen_eq,us_length,hs.len]
 rw[←h0]
 have e4:(Nat.beq 8 8&&Nat.ble (0+8) (llen (psL s0 bx00)))=true:=rfl
 simp only[fillA,hx,e1,e2,e3];rfl
theorem psL_len{s:List Nat}{b:Bx}(hs:IsS s):(psL s b).length=14:=by
 unfold psL
 rw[List.length_append,us_length,hs.len];rfl
theorem psL_all{s:List Nat}{b:Bx}(hs:IsS s):ltake 14 (ldrop 0 (psL s b))=psL s b:=by rw[ltake_eq,ldrop_eq,List.drop_zero,List.take_of_length_le (by rw[psL_len hs];omega)]
theorem psL_llen{s:List Nat}{b:Bx}(hs:IsS s):Nat.beq (llen (psL s b)) 14=true:=by rw[llen_eq,psL_len hs];rfl
theorem psL_ones{s:List Nat}{b:Bx}:ones (psL s b)=true:=ones_app (us_ones _) rfl
theorem psL_s{s:List Nat}{b:Bx}(hs:IsS s):ltake 8 (ldrop (0+0) (psL s b))=us s:=by
 rw[ltake_eq,ldrop_eq,Nat.zero_add,List.drop_zero]
 unfold psL
 rw[List.take_append_of_le_length (by rw[us_length,hs.len];omega),List.take_of_length_le (by rw[us_length,hs.len];omega)]
theorem psL_up{s:List Nat}{b b':Bx}(hs:IsS s):lputs (psL s b) (0+8) (cellsOf (bxV b'))=psL s b':=by
 show lputs (psL s b) 8 (bxL b')=_
 unfold psL
 rw[lputs_mid (by rw[List.length_append,us_length,hs.len];exact Nat.le_refl _),List.take_append_of_le_length (by rw[us_length,hs.len];omega),List.take_of_length_le (by rw[us_length,hs.len];omega),List.drop_of_length_le (by rw[List.length_append,us_length,hs.len];exact Nat.le_refl _)]
 simp
theorem psL_lo{s:List Nat}{b:Bx}(hs:IsS s):ltake 3 (ldrop (0+8+0) (psL s b))=ceL b.lo:=by
 rw[ltake_eq,ldrop_eq]
 unfold psL
 rw[show 0+8+0=(us s).length by rw[us_length,hs.len],List.drop_left];rfl
theorem psL_hi{s:List Nat}{b:Bx}(hs:IsS s):ltake 3 (ldrop (0+8+3) (psL s b))=ceL b.hi:=by
 rw[ltake_eq,ldrop_eq]
 unfold psL
 rw[List.drop_append,us_length,hs.len,List.drop_of_length_le (by rw[us_length,hs.len];omega)];rfl
structure FxK (P:List Fi→Heap→Prop) (lo:Nat) (h0:Heap) (q:Nat) (rm bp:Bx) (p:List Nat) (D:List Fi) (g:Heap):Prop where
 k:Lk lo h0 g
 pd:P D g
 nx:q+2<g.next
 g4:g.get h0.next=some (.cells (bxL rm) true 1)
 g7:g.get q=some (.cells (psL p bp) true 1)
 g8:g.get (q+1)=some (.cells (ceL bp.lo) true 1)
 g9:g.get (q+2)=some (.cells (ceL bp.hi) true 1)
theorem FxK.ext{P:List Fi→Heap→Prop}{lo:Nat}{h0:Heap}{q:Nat}{rm bp:Bx}{p:List Nat}{D:List Fi}{g g':Heap}(f:FxK P lo h0 q rm bp p D g)(x:Ext g g')(hlo:lo≤g.next)(hq:h0.next<q)(hP:P D g'):FxK P lo h0 q rm bp p D g':=by
 have h1:=x.next
 have h2:=f.nx
 exact⟨f.k.trans (x.lk hlo),hP,by omega,(x.old _ (by omega)).trans f.g4,(x.old _ (by omega)).trans f.g7,(x.old _ (by omega)).trans f.g8,(x.old _ (by omega)).trans f.g9⟩
theorem FxK.step{P:List Fi→Heap→Prop}{lo N:Nat}{h0:Heap}{q:Nat}{rm bp:Bx}{p:List Nat}{D D':List Fi}{g g':Heap}(f:FxK P lo h0 q rm bp p D g)(x:Lk lo g g')(hk:∀z,N≤z→z<g.next→g'.get z=g.get z)(hq:h0.next<q)(hN:N≤h0.next)(hP:P D' g'):FxK P lo h0 q rm bp p D' g':=by
 have h1:=x.next
 have h2:=f.nx
 exact⟨f.k.trans x,hP,by omega,(hk _ (by omega) (by omega)).trans f.g4,(hk _ (by omega) (by omega)).trans f.g7,(hk _ (by omega) (by omega)).trans f.g8,(hk _ (by omega) (by omega)).trans f.g9⟩
theorem zr_mem{lo hi z:Int}{n:Nat}(h:z=lo+(n:Nat))(hz:z≤hi):z∈zr lo hi:=List.mem_map.2 ⟨n,List.mem_range.2 (by omega),h.symm⟩
theorem zrN_flat{α:Type}(lo:Int)(n:Nat)(f:Int→List α){z:Int}(h:z=lo+(n:Nat)):(zrN lo (n+1)).flatMap f=(zrN lo n).flatMap f++f z:=by
 rw[zrN_succ,List.flatMap_append,h];simp
theorem rng_end{lo hi:Int}{n:Nat}(h1:n=0∨lo+(n:Nat)≤hi+1)(h2:hi<lo+(n:Nat)):n=(hi-lo+1).toNat:=by omega
set_option maxHeartbeats 32000000 in
theorem fits209(F:FnsFt T){h:Heap}(hr:Rdy h){px:AExit}{qa qb l N lo:Nat}{a b:List Nat}(ha:IsS a)(hb:IsS b){P:List Fi→Heap→Prop}{S:Heap→Prop}(hN:N≤h.next)(hlo:lo≤h.next)(hlN:l<N)(h2N:2<N)
 (Y:YldM px T lo N l fiV (fitsL a b) P S)
 (ga:∀d H,P d H→H.get qa=some (.cells (us a) true 1))(gb:∀d H,P d H→H.get qb=some (.cells (us b) true 1))(htab:∀d H,P d H→Tab H)(h0:P [] h):
 GrX T 209 [.func (.yield l) #[] #[], .pointer (some ⟨qa,0,none⟩), .pointer (some ⟨qb,0,none⟩)] h lo (P (fitsL a b)) S:=by
 have hp:=F.li.p
 have ka8:=us_llen ha.len
 have ka9:=us_take8 ha.len
 have kb8:=us_llen hb.len
 have kb9:=us_take8 hb.len
 have hlb:l<h.next:=by omega
 refine GrX.ofM (l:=l) hp F.f209 hlo hlb (fun h1 h2 hn he q=>Y.stable _ _ _ q (Nat.le_trans hN hn) fun x hx=>he x (by omega)) Y.sloop ?_
 have C0:=bounds210 F.bd (h:={h with log:=[]}) (.of hr.wf) (show Tab h from htab _ _ h0) (by show 2<h.next;omega) ha
 have gA:=ga _ _ h0
 unfold bndV at C0
 have hsome:(bndS a).2= !decide (a=s0):=by
  unfold bndS
  by_cases he:a=s0
  ·rw[if_pos he,decide_eq_true he];rfl
  ·rw[if_neg he,decide_eq_false he];rfl
 have hrm:=bndS_in a
 have hft:∀t,fitT a b t=fitZ a (spunS b t) (bndS a).1 (bndS (spunS b t)).1 t:=fun _=>rfl
 rw[hsome]at C0
 generalize(bndS a).1=rm at*
 refine wE_cutP (E0:=[(0, .func (.yield l) #[] #[]),(1, .pointer (some ⟨qa,0,none⟩)),(2, .pointer (some ⟨qb,0,none⟩)),(4, .pointer (some ⟨h.next,0,none⟩)),(5, .bool (!decide (a=s0)))]) (P:=fun h'=>Ext h h'∧h'.next=h.next+1∧h'.get h.next=some (.cells (bxL rm) true 1)) ?_ ?_
 ·refine wE_region ?_;refine wO_val (a_loadN (by exact rfl) (by assumption) (by assumption) (by assumption)) ?_
  refine yC ?_
  refine FW.pu C0 ?_
  refine yM ?_;refine yE ?_;refine yE ?_;refine wO_val (a_new) ?_
  refine yS ?_;refine yM ?_;refine wO_nil ?_
  refine y1 ?_
  exact⟨rfl,rfl,rfl,ext_pw (by omega) _ _,rfl,get_pw _ _⟩
 clear C0
 rintro H1 ⟨x1,n1,q1⟩
 have W1:=x1.wf hr.wf
 have hL1:=x1.log.trans hr.log
 have hk1:Lk lo h H1:=⟨x1.next,fun hh=>by rw[hL1];exact LogGe.nil _,fun z hz=>x1.old z (by omega),x1.wf⟩
 have hP1:P [] H1:=Y.stable _ _ _ h0 (by omega) fun x hx=>x1.old x (by omega)
 have gA1:=ga _ _ hP1
 have gB1:=gb _ _ hP1
 clear gA
 by_cases he:a=s0
 ·have hf:fitsL a b=[]:=if_pos (.inl he)
  rw[hf,decide_eq_true he]
  refine wE_seq ?_;refine wE_seq ?_;refine wE_draw ?_;refine qM ?_;refine wD_quiet rfl rfl rfl (by exact rfl) (by exact rfl) (by exact rfl) (a_not (by exact rfl)) ?_;refine qM ?_;refine wD_off rfl rfl rfl (by exact rfl) ?_
  refine wD_off rfl rfl rfl (by exact rfl) ?_;refine wD_off rfl rfl rfl (by exact rfl) ?_;refine wD_off rfl rfl rfl (by exact rfl) ?_;refine wD_off rfl rfl rfl (by exact rfl) ?_;refine wD_quiet rfl rfl rfl (by exact rfl) (by exact rfl) (by exact rfl) (a_pickT (by exact rfl) (by exact rfl)) ?_;refine wD_nil ?_
  refine y1 ?_;refine kS_n ?_;refine yY ?_;refine wE_ret ?_;refine kS_r ?_
  exact⟨⟨.inr rfl,rfl,hk1.log (by rw[hr.log];exact LogGe.nil _),⟨_,rfl⟩, .inl hP1⟩⟩
 rw[decide_eq_false he]
 have C1:=count188 F.co (h:={H1 with log:=[]}) (.of W1) hb
 have C2:=count188 F.co (h:={H1 with log:=[]}) (.of W1) ha
 by_cases hcn:cntS a<cntS b
 ·have hf:fitsL a b=[]:=if_pos (.inr hcn)
  rw[hf]
  have m1:numOp .gtr (.int .i64 ((cntS b:Nat):Int)) (.int .i64 ((cntS a:Nat):Int))=some (.bool true):=m_gtrT (by omega)
  refine wE_seq ?_;refine wE_seq ?_;refine wE_draw ?_;refine qM ?_;refine wD_quiet rfl rfl rfl (by exact rfl) (by exact rfl) (by exact rfl) (a_not (by exact rfl)) ?_;refine qM ?_
  refine wD_quiet rfl rfl rfl (by exact rfl) (by exact rfl) (by exact rfl) (a_loadN (by exact rfl) (by assumption) (by assumption) (by assumption)) ?_;refine wD_quiet rfl rfl rfl (by exact rfl) (by exact rfl) (by exact rfl) (a_loadN (by exact rfl) (by assumption) (by assumption) (by assumption)) ?_
  refine qC ?_
  refine FW.puD C1 (by apply ra_keepC rfl (rq_quiet rfl (a_loadN (by exact rfl) (by assumption) (by assumption) (by assumption)) (by exact sv_us _)) rfl;apply ra_dropC rfl;apply ra_dropC rfl;apply ra_dropC rfl;apply ra_dropC rfl;exact ra_nil) ?_
  skip
  refine qC ?_
  refine FW.puD C2 (by apply ra_dropC rfl;exact ra_nil) ?_
  refine wD_quiet rfl rfl rfl (by exact rfl) (by exact rfl) (by exact rfl) (a_num (by exact rfl) (by exact rfl) (by with_reducible assumption)) ?_;refine wD_quiet rfl rfl rfl (by exact rfl) (by exact rfl) (by exact rfl) (a_pickF (by exact rfl) (by exact rfl)) ?_;refine wD_nil ?_;refine y1 ?_;refine kS_n ?_
  refine yY ?_;refine wE_ret ?_;refine kS_r ?_
  exact⟨⟨.inr rfl,rfl,hk1.log (by rw[hr.log];exact LogGe.nil _),⟨_,rfl⟩, .inl hP1⟩⟩
 have hf:fitsL a b=(List.range 24).flatMap (fitT a b):=if_neg (fun q=>q.elim he hcn)
 have m1:numOp .gtr (.int .i64 ((cntS b:Nat):Int)) (.int .i64 ((cntS a:Nat):Int))=some (.bool false):=m_gtrF (by omega)
 refine wE_seq ?_;refine wE_seq ?_;refine wE_draw ?_;refine qM ?_;refine wD_quiet rfl rfl rfl (by exact rfl) (by exact rfl) (by exact rfl) (a_not (by exact rfl)) ?_;refine qM ?_
 refine wD_quiet rfl rfl rfl (by exact rfl) (by exact rfl) (by exact rfl) (a_loadN (by exact rfl) (by assumption) (by assumption) (by assumption)) ?_;refine wD_quiet rfl rfl rfl (by exact rfl) (by exact rfl) (by exact rfl) (a_loadN (by exact rfl) (by assumption) (by assumption) (by assumption)) ?_
 refine qC ?_
 refine FW.puD C1 (by apply ra_keepC rfl (rq_quiet rfl (a_loadN (by exact rfl) (by assumption) (by assumption) (by assumption)) (by exact sv_us _)) rfl;apply ra_dropC rfl;apply ra_dropC rfl;apply ra_dropC rfl;apply ra_dropC rfl;exact ra_nil) ?_
 skip
 refine qC ?_
 refine FW.puD C2 (by apply ra_dropC rfl;exact ra_nil) ?_
 clear C1 C2
 refine wD_quiet rfl rfl rfl (by exact rfl) (by exact rfl) (by exact rfl) (a_num (by exact rfl) (by exact rfl) (by with_reducible assumption)) ?_;refine wD_quiet rfl rfl rfl (by exact rfl) (by exact rfl) (by exact rfl) (a_pickF (by exact rfl) (by exact rfl)) ?_;refine wD_nil ?_;refine y1 ?_;refine kS_n ?_
 refine yX ?_;refine wE_skip ?_;refine kS_n ?_;refine y4 ?_;refine yM ?_;refine y3 ?_;refine wE_block ?_
 refine wE_loop (fun k e ds h'=>∃t:Nat,t≤24∧24-t=k∧e=[(0, .func (.yield l) #[] #[]),(1, .pointer (some ⟨qa,0,none⟩)),(2, .pointer (some ⟨qb,0,none⟩)),(4, .pointer (some ⟨h.next,0,none⟩)),(28, .int .i64 (t:Nat))]∧ds=[]∧Lk lo h h'∧P ((List.range t).flatMap (fitT a b)) h'∧h.next<h'.next∧h'.get h.next=some (.cells (bxL rm) true 1))
  ⟨0,Nat.zero_le _,rfl,rfl,rfl,hk1,hP1,by omega,q1⟩ ?_
 clear hP1 gA1 gB1 q1 hk1 W1 hL1 x1 n1
 rintro k e ds G ⟨t,ht24,rfl,rfl,rfl,hk,hP,hnx,g4⟩
 have WG:=hk.wf hr.wf
 by_cases ht:t<24
 ·have hps:=spunS_ok b t
  have hbp:=bndS_in (spunS b t)
  have D1:=spun211 F.mp (h:={G with log:=[]}) (.of WG) (show Tab G from htab _ _ hP) (by show 2<G.next;omega) hb ht
  have gB:=gb _ _ hP
  have hT:(List.range (t+1)).flatMap (fitT a b)=(List.range t).flatMap (fitT a b)++fitT a b t:=by rw[List.range_succ,List.flatMap_append];simp
  have hmem:∀f∈fitT a b t,f∈fitsL a b:=fun f hf'=>by
   rw[hf];exact List.mem_flatMap.2 ⟨t,List.mem_range.2 ht,hf'⟩
  rw[hft t]at hT hmem
  generalize(List.range t).flatMap (fitT a b)=D at*
  generalize hbb:bndS (spunS b t)=bb at*
  generalize spunS b t=p at*
  obtain⟨bp,some'⟩:=bb
  dsimp only at hbp hT hmem
  have kp8:=us_llen hps.len
  have lo14:=psL_len (b:=bx00) hps
  have lo14o:=psL_ones (s:=p) (b:=bx00)
  refine y4 ?_;refine yt ?_;refine y3 ?_;refine wE_seq ?_;refine yY ?_;refine wE_skip ?_;refine kS_n ?_;refine wE_seq ?_;refine wE_block ?_;refine y4 ?_;refine yM ?_;refine yM ?_;refine y3 ?_
  refine wE_cutP (E0:=[(0, .func (.yield l) #[] #[]),(1, .pointer (some ⟨qa,0,none⟩)),(2, .pointer (some ⟨qb,0,none⟩)),(4, .pointer (some ⟨h.next,0,none⟩)),(6, .int .i64 (t:Nat)),(7, .pointer (some ⟨G.next,0,none⟩)),(28, .int .i64 (t:Nat))]) (P:=fun h'=>Ext G h'∧h'.next=G.next+1∧h'.get G.next=some (.cells (psL p bx00) true 1)) ?_ ?_
  ·refine wE_region ?_;refine wO_val (a_loadN (by exact rfl) (by assumption) (by assumption) (by assumption)) ?_;refine yM ?_
   refine yC ?_
   refine FW.pu D1 ?_
   skip
   refine wO_val (a_build (fill_ps hps (by exact rfl))) ?_
   refine wO_val (a_new) ?_;refine wO_val (a_storeAll (by exact rfl) (by exact rfl) (by(simp(disch:=first|omega|(simp only[z1,z2];omega))only[z3,z4,z5,z6,z7,z1,z2,g4,gB];exact rfl)) (by assumption) (by exact rfl) (by assumption)) ?_;refine wO_nil ?_
   refine y1 ?_
   exact⟨rfl,rfl,rfl,ext_pw (by omega) _ _,rfl,get_pw _ _⟩
  clear D1
  rintro G1 ⟨x1,n1,q1⟩
  have WG1:=x1.wf WG
  have hP1:P D G1:=Y.stable _ _ _ hP (by omega) fun x hx=>x1.old x (by omega)
  have D2:=bounds210 F.bd (h:={G1 with log:=[]}) (.of WG1) (show Tab G1 from htab _ _ hP1) (by show 2<G1.next;omega) hps
  rw[hbb]at D2
  unfold bndV at D2
  dsimp only at D2
  have ks:=psL_s (b:=bx00) hps
  have ku:=psL_up (b:=bx00) (b':=bp) hps
  have kuc:(Nat.beq (llen (cellsOf (bxV bp))) 6&&Nat.ble (0+8+6) (llen (psL p bx00))&&ones (cellsOf (bxV bp)))=true:=by
   rw[llen_eq (psL p bx00),lo14];rfl
  refine wE_cutP (E0:=[(0, .func (.yield l) #[] #[]),(1, .pointer (some ⟨qa,0,none⟩)),(2, .pointer (some ⟨qb,0,none⟩)),(4, .pointer (some ⟨h.next,0,none⟩)),(6, .int .i64 (t:Nat)),(7, .pointer (some ⟨G.next,0,none⟩)),(28, .int .i64 (t:Nat))]) (P:=fun h'=>Ext G h'∧h'.next=G.next+1∧h'.get G.next=some (.cells (psL p bp) true 1)) ?_ ?_
  ·refine wE_region ?_;refine yF ?_;refine wO_val (a_loadN (by exact rfl) (by assumption) (by assumption) (by assumption)) ?_
   refine yC ?_
   refine FW.pu D2 ?_
   refine yM ?_;refine yE ?_;refine yE ?_;refine yF ?_
   refine wO_val (a_store (by exact rfl) (by exact rfl) q1 kuc ku) ?_
   refine wO_nil ?_;refine y1 ?_
   exact⟨rfl,rfl,rfl,⟨x1.next,(Heap.log_wr_new (by omega)).trans x1.log,fun b hb=>(z5 (by omega)).trans (x1.old b hb),fun w=>(x1.wf w).as (AS.wr h.next _ _ _)⟩,n1,Heap.get_wr_new q1⟩
  clear D2 q1 hP1 WG1 n1 x1
  rintro G2 ⟨x2,n2,q2⟩
  have kl:=psL_lo (b:=bp) hps
  have kh:=psL_hi (b:=bp) hps
  have cl:Nat.beq (llen (ceL bp.lo)) 3=true:=rfl
  have ch:Nat.beq (llen (ceL bp.hi)) 3=true:=rfl
  refine wE_cutP (E0:=[(0, .func (.yield l) #[] #[]),(1, .pointer (some ⟨qa,0,none⟩)),(2, .pointer (some ⟨qb,0,none⟩)),(4, .pointer (some ⟨h.next,0,none⟩)),(6, .int .i64 (t:Nat)),(7, .pointer (some ⟨G.next,0,none⟩)),(8, .pointer (some ⟨G2.next,0,none⟩)),(9, .pointer (some ⟨G2.next+1,0,none⟩)),(28, .int .i64 (t:Nat))]) (P:=fun h'=>Ext G h'∧h'.next=G2.next+2∧h'.get G.next=some (.cells (psL p bp) true 1)∧h'.get G2.next=some (.cells (ceL bp.lo) true 1)∧h'.get (G2.next+1)=some (.cells (ceL bp.hi) true 1)) ?_ ?_
  ·refine wE_draw ?_;refine qF ?_;refine qF ?_;refine wD_quiet rfl rfl rfl (by exact rfl) (by exact rfl) (by exact rfl) (a_loadN (by exact rfl) (by assumption) (by assumption) (by exact rfl)) ?_
   refine qF ?_;refine qF ?_;refine wD_quiet rfl rfl rfl (by exact rfl) (by exact rfl) (by exact rfl) (a_loadN (by exact rfl) (by assumption) (by assumption) (by exact rfl)) ?_
   refine wD_new rfl rfl rfl (by exact rfl) (by exact rfl) (by exact rfl) a_new (by refine rs_cons (rq_quiet rfl (a_loadN (by exact rfl) (by(simp(disch:=first|omega|(simp only[z1,z2];omega))only[z3,z4,z5,z6,z7,z1,z2,g4,gB,q2];exact rfl)) (by assumption) (by exact rfl)) (by refine sv_agg ?_;refine sl_cons (s1_int _ _) ?_;refine sl_cons (s1_int _ _) ?_;exact sl_cons (s1_int _ _) (by assumption))) ?_;refine rs_cons (rq_quiet rfl (a_faddr (by exact rfl)) (by exact sv_ptr _)) ?_;refine rs_cons (rq_quiet rfl (a_faddr (by exact rfl)) (by exact sv_ptr _)) ?_;refine rs_cons (rq_quiet rfl (a_loadN (by exact rfl) (by(simp(disch:=first|omega|(simp only[z1,z2];omega))only[z3,z4,z5,z6,z7,z1,z2,g4,gB,q2];exact rfl)) (by assumption) (by exact rfl)) (by refine sv_agg ?_;refine sl_cons (s1_int _ _) ?_;refine sl_cons (s1_int _ _) ?_;exact sl_cons (s1_int _ _) (by assumption))) ?_;refine rs_cons (rq_quiet rfl (a_faddr (by exact rfl)) (by exact sv_ptr _)) ?_;refine rs_cons (rq_quiet rfl (a_faddr (by exact rfl)) (by exact sv_ptr _)) ?_;exact rs_nil) ?_
   refine wD_new rfl rfl rfl (by exact rfl) (by exact rfl) (by exact rfl) a_new (by refine rs_cons (rq_made rfl) ?_;refine rs_cons (rq_quiet rfl (a_loadN (by exact rfl) (by(simp(disch:=first|omega|(simp only[z1,z2];omega))only[z3,z4,z5,z6,z7,z1,z2,g4,gB,q2];exact rfl)) (by assumption) (by exact rfl)) (by refine sv_agg ?_;refine sl_cons (s1_int _ _) ?_;refine sl_cons (s1_int _ _) ?_;exact sl_cons (s1_int _ _) (by assumption))) ?_;refine rs_cons (rq_quiet rfl (a_faddr (by exact rfl)) (by exact sv_ptr _)) ?_;refine rs_cons (rq_quiet rfl (a_faddr (by exact rfl)) (by exact sv_ptr _)) ?_;refine rs_cons (rq_quiet rfl (a_loadN (by exact rfl) (by(simp(disch:=first|omega|(simp only[z1,z2];omega))only[z3,z4,z5,z6,z7,z1,z2,g4,gB,q2];exact rfl)) (by assumption) (by exact rfl)) (by refine sv_agg ?_;refine sl_cons (s1_int _ _) ?_;refine sl_cons (s1_int _ _) ?_;exact sl_cons (s1_int _ _) (by assumption))) ?_;refine rs_cons (rq_quiet rfl (a_faddr (by exact rfl)) (by exact sv_ptr _)) ?_;refine rs_cons (rq_quiet rfl (a_faddr (by exact rfl)) (by exact sv_ptr _)) ?_;exact rs_nil) ?_
   refine wD_store rfl rfl rfl (by exact rfl) (by exact rfl) (by exact rfl) (by(simp(disch:=first|omega|(simp only[z1,z2];omega))only[z3,z4,z5,z6,z7,z1,z2,g4,gB,q2];exact rfl)) (by exact rfl) (by exact rfl) (by(simp only[z1,z2];omega)) (by omega) (by apply ra_dropC rfl;apply ra_dropC rfl;apply ra_keepC rfl (rq_quiet rfl (a_loadN (by exact rfl) (by(simp(disch:=first|omega|(simp only[z1,z2];omega))only[z3,z4,z5,z6,z7,z1,z2,g4,gB,q2];exact rfl)) (by assumption) (by exact rfl)) (by refine sv_agg ?_;refine sl_cons (s1_int _ _) ?_;refine sl_cons (s1_int _ _) ?_;exact sl_cons (s1_int _ _) (by assumption))) rfl;apply ra_keepC rfl (rq_quiet rfl (a_faddr (by exact rfl)) (by exact sv_ptr _)) rfl;apply ra_keepC rfl (rq_quiet rfl (a_faddr (by exact rfl)) (by exact sv_ptr _)) rfl;apply ra_dropC rfl;apply ra_dropC rfl;apply ra_dropC rfl;exact ra_nil) ?_
   refine wD_store rfl rfl rfl (by exact rfl) (by exact rfl) (by exact rfl) (by(simp(disch:=first|omega|(simp only[z1,z2];omega)|(simp only[z1,z2];done)|fail)only[z8,z4,z5,z9,z7,z1,z2,g4,gB,q2];exact rfl)) (by exact rfl) (by exact rfl) (by(simp only[z1,z2];omega)) (by(simp only[z1,z2];omega)) (by apply ra_dropC rfl;apply ra_dropC rfl;apply ra_dropC rfl;exact ra_nil) ?_
   refine wD_nil ?_;refine y1 ?_
   refine⟨rfl,rfl,rfl,⟨by show G.next≤G2.next+2;omega,by rw[Heap.log_wr_new (by show h.next≤G2.next+1;omega),Heap.log_wr_new (by omega)];exact x2.log,fun b hb=>by
    rw[z5 (by show b≠G2.next+1;omega),z5 (by omega),z4 (by show b<G2.next+1;omega),z4 (by omega)];exact x2.old b hb,fun w=>((((x2.wf w).push _).push _).as (AS.wr _ _ _ _)).as (AS.wr _ _ _ _)⟩,rfl,?_,?_,?_⟩
   ·(simp(disch:=first|omega|(simp only[z1,z2];omega))only[z3,z4,z5,z6,z7,z1,z2,g4,gB,q2];done)
   ·(simp(disch:=first|omega|(simp only[z1,z2];omega))only[z3,z4,z5,z6,z7,z1,z2,g4,gB,q2];exact rfl)
   ·(simp(disch:=first|omega|(simp only[z1,z2];omega)|(simp only[z1,z2];done)|fail)only[z8,z4,z5,z9,z7,z1,z2,g4,gB,q2];exact rfl)
  rintro G3 ⟨x3,n3,q3,q8,q9⟩
  rw[n2]at n3 q8 q9⊢
  have hk3:Lk lo h G3:=hk.trans (x3.lk (by have:=hk.next;omega))
  have hP3:P D G3:=Y.stable _ _ _ hP (by omega) fun x hx=>x3.old x (by omega)
  have FX:FxK P lo h G.next rm bp p D G3:=⟨hk3,hP3,by omega,(x3.old _ hnx).trans g4,q3,q8,q9⟩
  have hqN:N≤G.next:=by have:=hk.next;omega
  have hqh:h.next<G.next:=hnx
  clear q2 x2 n2 q3 q8 q9 hk3 hP3 x3 n3 g4 hnx hP hk gB ks ku kuc kp8 lo14 lo14o kl kh cl ch WG
  generalize G.next=q at*
  have hx1:=hrm.lo.x
  have hx2:=hrm.hi.x
  have hy1:=hrm.lo.y
  have hy2:=hrm.hi.y
  have hz1:=hrm.lo.z
  have hz2:=hrm.hi.z
  have px1:=hbp.lo.x
  have px2:=hbp.hi.x
  have py1:=hbp.lo.y
  have py2:=hbp.hi.y
  have pz1:=hbp.lo.z
  have pz2:=hbp.hi.z
  have sz1:numOp .sub (.int .i64 rm.lo.z) (.int .i64 bp.lo.z)=some (.int .i64 (rm.lo.z-bp.lo.z)):=m_sub (wrapA_i64 (by omega) (by omega))
  have sz2:numOp .sub (.int .i64 rm.hi.z) (.int .i64 bp.hi.z)=some (.int .i64 (rm.hi.z-bp.hi.z)):=m_sub (wrapA_i64 (by omega) (by omega))
  have sy1:numOp .sub (.int .i64 rm.lo.y) (.int .i64 bp.lo.y)=some (.int .i64 (rm.lo.y-bp.lo.y)):=m_sub (wrapA_i64 (by omega) (by omega))
  have sy2:numOp .sub (.int .i64 rm.hi.y) (.int .i64 bp.hi.y)=some (.int .i64 (rm.hi.y-bp.hi.y)):=m_sub (wrapA_i64 (by omega) (by omega))
  have sx1:numOp .sub (.int .i64 rm.lo.x) (.int .i64 bp.lo.x)=some (.int .i64 (rm.lo.x-bp.lo.x)):=m_sub (wrapA_i64 (by omega) (by omega))
  have sx2:numOp .sub (.int .i64 rm.hi.x) (.int .i64 bp.hi.x)=some (.int .i64 (rm.hi.x-bp.hi.x)):=m_sub (wrapA_i64 (by omega) (by omega))
  have q4:=FX.g4
  have q8:=FX.g8
  refine y4 ?_;refine yF ?_;refine yF ?_;refine yL ?_;refine yF ?_;refine yL ?_;refine wO_val (a_num (by exact rfl) (by exact rfl) (by with_reducible assumption)) ?_
  refine yM ?_;refine y3 ?_;refine wE_block ?_
  refine wE_loop (fun k e ds h'=>∃(n:Nat) (z:Int),z=rm.lo.z-bp.lo.z+(n:Nat)∧(n=0∨z≤rm.hi.z-bp.hi.z+1)∧16-n=k∧e=[(0, .func (.yield l) #[] #[]),(1, .pointer (some ⟨qa,0,none⟩)),(2, .pointer (some ⟨qb,0,none⟩)),(4, .pointer (some ⟨h.next,0,none⟩)),(6, .int .i64 (t:Nat)),(7, .pointer (some ⟨q,0,none⟩)),(8, .pointer (some ⟨q+1,0,none⟩)),(9, .pointer (some ⟨q+1+1,0,none⟩)),(10, .int .i64 z),(28, .int .i64 (t:Nat))]∧ds=[]∧FxK P lo h q rm bp p (D++(zrN (rm.lo.z-bp.lo.z) n).flatMap (fitY a p rm bp t)) h')
   ⟨0,_,by simp, .inl rfl,rfl,rfl,rfl,by rw[show zrN (rm.lo.z-bp.lo.z) 0=[]from rfl,List.flatMap_nil,List.append_nil];exact FX⟩ ?_
  clear FX q4 q8
  rintro k e ds G ⟨n,z,hz,hn,rfl,rfl,rfl,FX⟩
  have hn16:n<16:=by omega
  by_cases hle:z≤rm.hi.z-bp.hi.z
  ·have lz:numOp .leq (.int .i64 z) (.int .i64 (rm.hi.z-bp.hi.z))=some (.bool true):=m_leqT hle
   have az:numOp .add (.int .i64 z) (.int .i64 1)=some (.int .i64 (z+1)):=m_add (wrapA_i64 (by omega) (by omega))
   have mz:=zr_mem hz hle
   have fz:=zrN_flat (rm.lo.z-bp.lo.z) n (fitY a p rm bp t) hz
   have hfy:fitY a p rm bp t z=(zr (rm.lo.y-bp.lo.y) (rm.hi.y-bp.hi.y)).flatMap (fitX a p rm bp t z):=rfl
   have q4:=FX.g4
   have q8:=FX.g8
   have q9:=FX.g9
   generalize hDz:D++(zrN (rm.lo.z-bp.lo.z) n).flatMap (fitY a p rm bp t)=Dz at*
   refine wE_seq ?_;refine y4 ?_;refine yM ?_;refine yF ?_;refine yF ?_;refine yL ?_;refine yF ?_;refine yL ?_
   refine wO_val (a_num (by exact rfl) (by exact rfl) (by with_reducible assumption)) ?_;refine wO_val (a_num (by exact rfl) (by exact rfl) (by with_reducible assumption)) ?_;refine y3 ?_;refine yY ?_;refine wE_skip ?_;refine kS_n ?_;refine wE_seq ?_
   refine wE_block ?_;refine y4 ?_;refine yF ?_;refine yF ?_;refine yL ?_;refine yF ?_;refine yL ?_
   refine wO_val (a_num (by exact rfl) (by exact rfl) (by with_reducible assumption)) ?_;refine yM ?_;refine y3 ?_;refine wE_block ?_
   refine wE_loop (fun k e ds h'=>∃(j:Nat) (y:Int),y=rm.lo.y-bp.lo.y+(j:Nat)∧(j=0∨y≤rm.hi.y-bp.hi.y+1)∧16-j=k∧e=[(0, .func (.yield l) #[] #[]),(1, .pointer (some ⟨qa,0,none⟩)),(2, .pointer (some ⟨qb,0,none⟩)),(4, .pointer (some ⟨h.next,0,none⟩)),(6, .int .i64 (t:Nat)),(7, .pointer (some ⟨q,0,none⟩)),(8, .pointer (some ⟨q+1,0,none⟩)),(9, .pointer (some ⟨q+1+1,0,none⟩)),(10, .int .i64 z),(11, .int .i64 y),(28, .int .i64 (t:Nat))]∧ds=[]∧FxK P lo h q rm bp p (Dz++(zrN (rm.lo.y-bp.lo.y) j).flatMap (fitX a p rm bp t z)) h')
    ⟨0,_,by simp, .inl rfl,rfl,rfl,rfl,by rw[show zrN (rm.lo.y-bp.lo.y) 0=[]from rfl,List.flatMap_nil,List.append_nil];exact FX⟩ ?_
   clear FX q4 q8 q9
   rintro k e ds G ⟨j,y,hy,hj,rfl,rfl,rfl,FX⟩
   have hj16:j<16:=by omega
   have q4:=FX.g4
   have q8:=FX.g8
   have q9:=FX.g9
   by_cases hley:y≤rm.hi.y-bp.hi.y
   ·have ly:numOp .leq (.int .i64 y) (.int .i64 (rm.hi.y-bp.hi.y))=some (.bool true):=m_leqT hley
    have ay:numOp .add (.int .i64 y) (.int .i64 1)=some (.int .i64 (y+1)):=m_add (wrapA_i64 (by omega) (by omega))
    have my:=zr_mem hy hley
    have fy:=zrN_flat (rm.lo.y-bp.lo.y) j (fitX a p rm bp t z) hy
    have hfx:fitX a p rm bp t z y=(zr (rm.lo.x-bp.lo.x) (rm.hi.x-bp.hi.x)).flatMap (tryX a p bp t z y):=rfl
    generalize hDy:Dz++(zrN (rm.lo.y-bp.lo.y) j).flatMap (fitX a p rm bp t z)=Dy at*
    refine wE_seq ?_;refine y4 ?_;refine yM ?_;refine yF ?_;refine yF ?_;refine yL ?_;refine yF ?_;refine yL ?_
    refine wO_val (a_num (by exact rfl) (by exact rfl) (by with_reducible assumption)) ?_;refine wO_val (a_num (by exact rfl) (by exact rfl) (by with_reducible assumption)) ?_;refine y3 ?_;refine yY ?_;refine wE_skip ?_;refine kS_n ?_;refine wE_seq ?_
    refine wE_block ?_;refine y4 ?_;refine yF ?_;refine yF ?_;refine yL ?_;refine yF ?_;refine yL ?_
    refine wO_val (a_num (by exact rfl) (by exact rfl) (by with_reducible assumption)) ?_;refine yM ?_;refine y3 ?_;refine wE_block ?_
    refine wE_loop (fun k e ds h'=>∃(i:Nat) (x:Int),x=rm.lo.x-bp.lo.x+(i:Nat)∧(i=0∨x≤rm.hi.x-bp.hi.x+1)∧16-i=k∧e=[(0, .func (.yield l) #[] #[]),(1, .pointer (some ⟨qa,0,none⟩)),(2, .pointer (some ⟨qb,0,none⟩)),(4, .pointer (some ⟨h.next,0,none⟩)),(6, .int .i64 (t:Nat)),(7, .pointer (some ⟨q,0,none⟩)),(8, .pointer (some ⟨q+1,0,none⟩)),(9, .pointer (some ⟨q+1+1,0,none⟩)),(10, .int .i64 z),(11, .int .i64 y),(12, .int .i64 x),(28, .int .i64 (t:Nat))]∧ds=[]∧FxK P lo h q rm bp p (Dy++(zrN (rm.lo.x-bp.lo.x) i).flatMap (tryX a p bp t z y)) h')
     ⟨0,_,by simp, .inl rfl,rfl,rfl,rfl,by rw[show zrN (rm.lo.x-bp.lo.x) 0=[]from rfl,List.flatMap_nil,List.append_nil];exact FX⟩ ?_
    clear FX q4 q8 q9
    rintro k e ds G ⟨i,x,hx,hi,rfl,rfl,rfl,FX⟩
    have hi16:i<16:=by omega
    have q4:=FX.g4
    have q9:=FX.g9
    by_cases hlex:x≤rm.hi.x-bp.hi.x
    ·have lx:numOp .leq (.int .i64 x) (.int .i64 (rm.hi.x-bp.hi.x))=some (.bool true):=m_leqT hlex
     have ax:numOp .add (.int .i64 x) (.int .i64 1)=some (.int .i64 (x+1)):=m_add (wrapA_i64 (by omega) (by omega))
     have mx':=zr_mem hx hlex
     have fx:=zrN_flat (rm.lo.x-bp.lo.x) i (tryX a p bp t z y) hx
     have WG:=FX.k.wf hr.wf
     have hnG:=FX.k.next
     have hnq:=FX.nx
     have q7:=FX.g7
     have ka:=psL_all (b:=bp) hps
     have kl:=psL_llen (b:=bp) hps
     have C3:=lifted212 F.li (h:={G with log:=[]}) (.of WG) hps (b:=bp) (x:=x) (y:=y) (z:=z) (by omega) (by omega) (by omega) pz1 pz2 (by omega) (by omega)
     have hls:IsS (liftS p bp x y z):=liftN_ok hps _ _ _ _
     have htry:tryX a p bp t z y x=if sIn (liftS p bp x y z) a then [⟨t,x,y,z,liftS p bp x y z⟩]else []:=rfl
     have hmm:sIn (liftS p bp x y z) a=true→(⟨t,x,y,z,liftS p bp x y z⟩:Fi)∈fitsL a b:=fun hin=>by
      refine hmem _ (List.mem_flatMap.2 ⟨z,mz,List.mem_flatMap.2 ⟨y,my,List.mem_flatMap.2 ⟨x,mx',?_⟩⟩⟩)
      rw[htry,if_pos hin];exact List.mem_singleton.2 rfl
     generalize hDx:Dy++(zrN (rm.lo.x-bp.lo.x) i).flatMap (tryX a p bp t z y)=Dx at*
     generalize liftS p bp x y z=ls at*
     have kls:=us_take8 hls.len
     have kll:=us_llen hls.len
     have klo:=us_ones ls
     have klen:(us ls).length=8:=by rw[us_length,hls.len]
     refine wE_seq ?_;refine y4 ?_;refine yM ?_;refine yF ?_;refine yF ?_;refine yL ?_;refine yF ?_;refine yL ?_
     refine wO_val (a_num (by exact rfl) (by exact rfl) (by with_reducible assumption)) ?_;refine wO_val (a_num (by exact rfl) (by exact rfl) (by with_reducible assumption)) ?_;refine y3 ?_;refine yY ?_;refine wE_skip ?_;refine kS_n ?_;refine wE_seq ?_
     refine wE_block ?_
     refine wE_cutP (E0:=[(0, .func (.yield l) #[] #[]),(1, .pointer (some ⟨qa,0,none⟩)),(2, .pointer (some ⟨qb,0,none⟩)),(4, .pointer (some ⟨h.next,0,none⟩)),(6, .int .i64 (t:Nat)),(7, .pointer (some ⟨q,0,none⟩)),(8, .pointer (some ⟨q+1,0,none⟩)),(9, .pointer (some ⟨q+1+1,0,none⟩)),(10, .int .i64 z),(11, .int .i64 y),(12, .int .i64 x),(13, .pointer (some ⟨G.next,0,none⟩)),(28, .int .i64 (t:Nat))]) (P:=fun h'=>Ext G h'∧h'.next=G.next+1∧h'.get G.next=some (.cells (us ls) true 1)) ?_ ?_
     ·refine wE_region ?_;refine wO_val (a_loadN (by exact rfl) (by assumption) (by assumption) (by assumption)) ?_;refine yM ?_;refine yM ?_;refine yM ?_
      refine yC ?_
      refine FW.pu C3 ?_
      refine wO_val (a_new) ?_;refine wO_val (a_storeAll (by exact rfl) (by exact rfl) (by(simp(disch:=first|omega|(simp only[z1,z2];omega))only[z3,z4,z5,z6,z7,z1,z2,q4,q9,q7];exact rfl)) (by assumption) (by exact rfl) (by exact us_ones _)) ?_;refine wO_nil ?_
      refine y1 ?_
      exact⟨rfl,rfl,rfl,ext_pw (by omega) _ _,rfl,get_pw _ _⟩
     clear C3 q4 q9 q7
     rintro G' ⟨x',n',g13⟩
     have hP':P Dx G':=Y.stable _ _ _ FX.pd (by omega) fun z hz=>x'.old z (by omega)
     have FX':=FX.ext x' (by omega) hqh hP'
     have WG':=x'.wf WG
     have gA:=ga _ _ hP'
     have C4:=in35 hp F.f35 F.f121 (h:={G' with log:=[]}) (.of WG') hls ha
     refine y4 ?_;refine wO_val (a_loadN (by exact rfl) (by assumption) (by assumption) (by assumption)) ?_;refine wO_val (a_loadN (by exact rfl) (by assumption) (by assumption) (by assumption)) ?_
     refine yC ?_
     refine FW.pu C4 ?_
     clear C4
     cases hin:sIn ls a with
     |false=>
      rw[hin,if_neg (by simp)]at htry
      refine yM ?_;refine yP ?_;refine yP ?_;refine yP ?_;refine yP ?_;refine yP ?_;refine yP ?_;refine yP ?_
      refine yP ?_;refine yP ?_;refine yU ?_;refine y3 ?_;refine yX ?_;refine wE_skip ?_;refine kB_n ?_;refine kS_n ?_;refine wE_region ?_
      refine yM ?_;refine wO_val (a_num (by exact rfl) (by exact rfl) (by with_reducible assumption)) ?_;refine yM ?_;refine y3 ?_
      refine⟨16-(i+1),by omega,i+1,x+1,by omega, .inr (by omega),rfl,rfl,rfl,?_⟩
      rw[fx,htry,List.append_nil,hDx];exact FX'
     |true=>
      rw[hin,if_pos rfl]at htry
      refine yM ?_;refine yO ?_;refine yM ?_;refine yO ?_;refine yM ?_;refine yO ?_;refine yM ?_;refine yO ?_;refine yM ?_;refine yO ?_
      refine yM ?_;refine yO ?_;refine wO_val (a_build (by exact rfl)) ?_;refine yO ?_;refine wO_val (a_loadN (by exact rfl) (by assumption) (by assumption) (by assumption)) ?_;refine yO ?_
      refine wO_call (fn:= .yield l) (args:=fiV ⟨t,x,y,z,ls⟩) (by rfl) ?_
      refine Y.call hp (hmm hin) WG' (by omega) (by omega) hlb hP' ?_ ?_
      rotate_left
      ·intro h9 hk9 hm9 hS9
       refine yO ?_;refine yA ?_;refine yT ?_;refine y3 ?_;refine yY ?_;refine wE_ret ?_;refine kB_r ?_;refine kS_r ?_;refine kS_r ?_;refine kB_r ?_;refine kB_r ?_
       refine kS_r ?_;refine kS_r ?_;refine kB_r ?_;refine kB_r ?_;refine kS_r ?_;refine kS_r ?_;refine kB_r ?_;refine kB_r ?_;refine kS_r ?_;refine kS_r ?_;refine kB_r ?_
       exact endX_ret ((FX'.k.trans hk9).log (by rw[hr.log];exact LogGe.nil _)) rfl hm9 hS9
      intro h2 hk2 hkeep hP2
      refine yO ?_;refine yA ?_;refine yT ?_;refine y3 ?_;refine yX ?_;refine wE_skip ?_;refine kB_n ?_;refine kS_n ?_;refine wE_region ?_
      refine yM ?_;refine wO_val (a_num (by exact rfl) (by exact rfl) (by with_reducible assumption)) ?_;refine yM ?_;refine y3 ?_
      refine⟨16-(i+1),by omega,i+1,x+1,by omega, .inr (by omega),rfl,rfl,rfl,?_⟩
      rw[fx,htry,←List.append_assoc,hDx]
      exact FX'.step hk2 hkeep hqh hN hP2
    ·have lx:numOp .leq (.int .i64 x) (.int .i64 (rm.hi.x-bp.hi.x))=some (.bool false):=m_leqF (by omega)
     have hie:=rng_end (lo:=rm.lo.x-bp.lo.x) (hi:=rm.hi.x-bp.hi.x) (n:=i) (by omega) (by omega)
     have e:(zrN (rm.lo.x-bp.lo.x) i).flatMap (tryX a p bp t z y)=fitX a p rm bp t z y:=by rw[hie];rfl
     rw[e]at FX
     refine wE_seq ?_;refine y4 ?_;refine yM ?_;refine yF ?_;refine yF ?_;refine yL ?_;refine yF ?_;refine yL ?_
     refine wO_val (a_num (by exact rfl) (by exact rfl) (by with_reducible assumption)) ?_;refine wO_val (a_num (by exact rfl) (by exact rfl) (by with_reducible assumption)) ?_;refine y3 ?_;refine yX ?_;refine wE_exit ?_;refine kS_e ?_;refine kS_e ?_
     refine kB_e ?_;refine kB_n ?_;refine kS_n ?_;refine wE_region ?_;refine yM ?_;refine wO_val (a_num (by exact rfl) (by exact rfl) (by with_reducible assumption)) ?_;refine yM ?_;refine y3 ?_
     refine⟨16-(j+1),by omega,j+1,y+1,by omega, .inr (by omega),rfl,rfl,rfl,?_⟩
     rw[fy,←List.append_assoc,hDy];exact FX
   ·have ly:numOp .leq (.int .i64 y) (.int .i64 (rm.hi.y-bp.hi.y))=some (.bool false):=m_leqF (by omega)
    have hje:=rng_end (lo:=rm.lo.y-bp.lo.y) (hi:=rm.hi.y-bp.hi.y) (n:=j) (by omega) (by omega)
    refine wE_seq ?_;refine y4 ?_;refine yM ?_;refine yF ?_;refine yF ?_;refine yL ?_;refine yF ?_;refine yL ?_
    refine wO_val (a_num (by exact rfl) (by exact rfl) (by with_reducible assumption)) ?_;refine wO_val (a_num (by exact rfl) (by exact rfl) (by with_reducible assumption)) ?_;refine y3 ?_;refine yX ?_;refine wE_exit ?_;refine kS_e ?_;refine kS_e ?_
    refine kB_e ?_;refine kB_n ?_;refine kS_n ?_;refine wE_region ?_;refine yM ?_;refine wO_val (a_num (by exact rfl) (by exact rfl) (by with_reducible assumption)) ?_;refine yM ?_;refine y3 ?_
    refine⟨16-(n+1),by omega,n+1,z+1,by omega, .inr (by omega),rfl,rfl,rfl,?_⟩
    rw[fz,←List.append_assoc]
    have e:(zrN (rm.lo.y-bp.lo.y) j).flatMap (fitX a p rm bp t z)=fitY a p rm bp t z:=by rw[hje];rfl
    rw[e]at FX
    rw[hDz];exact FX
  ·have lz:numOp .leq (.int .i64 z) (.int .i64 (rm.hi.z-bp.hi.z))=some (.bool false):=m_leqF (by omega)
   have hne:=rng_end (lo:=rm.lo.z-bp.lo.z) (hi:=rm.hi.z-bp.hi.z) (n:=n) (by omega) (by omega)
   have q4:=FX.g4
   have q9:=FX.g9
   refine wE_seq ?_;refine y4 ?_;refine yM ?_;refine yF ?_;refine yF ?_;refine yL ?_;refine yF ?_;refine yL ?_
   refine wO_val (a_num (by exact rfl) (by exact rfl) (by with_reducible assumption)) ?_;refine wO_val (a_num (by exact rfl) (by exact rfl) (by with_reducible assumption)) ?_;refine y3 ?_;refine yX ?_;refine wE_exit ?_;refine kS_e ?_;refine kS_e ?_
   refine kB_e ?_;refine kB_n ?_;refine kS_n ?_;refine wE_region ?_;refine yinc ?_;refine yM ?_;refine y3 ?_
   refine⟨24-(t+1),by omega,t+1,by omega,rfl,rfl,rfl,FX.k,?_,by have:=FX.nx;omega,FX.g4⟩
   rw[hT]
   have:=FX.pd
   rw[hne]at this
   exact this
 ·obtain rfl:t=24:=by omega
  rw[←hf]at hP
  refine y4 ?_;refine yf ?_;refine y3 ?_;refine wE_seq ?_;refine yX ?_;refine wE_exit ?_;refine kS_e ?_;refine kS_e ?_;refine kB_e ?_
  exact endX_end (hk.log (by rw[hr.log];exact LogGe.nil _)) rfl hP
end Go.A.Pk
end
section
set_option maxRecDepth 100000
namespace Go.A.Pk
variable {T:Nat→Option AFunc}
def fitB(a b:List Nat):Bool:=decide (b=s0)|| !(fitsL a b).isEmpty
def fnF(p q:Nat):Value:= .func (.func 209) #[] #[.pointer (some ⟨p,0,none⟩), .pointer (some ⟨q,0,none⟩)]
def moL(t x y z:Int):List Value:=[.int .i64 t, .int .i64 x, .int .i64 y, .int .i64 z]
structure FnsFi (T:Nat→Option AFunc):Prop where
 ft:FnsFt T
 f34:T 34=some f34
 f120:T 120=some f120
theorem fits120(F:FnsFi T){h:Heap}(hr:Rdy h){a b:List Nat}(ha:IsS a)(hb:IsS b):
 Al T 120 [sv a,sv b] h fun v h'=>∃p q,v=fnF p q∧h'.get p=some (.cells (us a) true 1)∧h'.get q=some (.cells (us b) true 1)∧p<h'.next∧q<h'.next∧h.next≤p∧h.next≤q:=by
 refine .of F.ft.li.p F.f120 hr ?_ ?_
 ·rintro v h1 hv ⟨p,q,rfl,_⟩
  cases hv
 refine y4 ?_;refine yB ?_;refine yB ?_;refine yM ?_;refine y3 ?_;refine y4 ?_
 refine wO_val (a_mkFunc (by exact rfl) (by exact rfl)) ?_;refine yM ?_;refine y3 ?_;refine wE_ret ?_
 exact endA_ret hr.log rfl ⟨h.next,h.next+1,rfl,by(simp(disch:=first|omega|(simp only[z1,z2];omega))only[z3,z4,z5,z6,z7,z1,z2];exact rfl),by(simp(disch:=first|omega|(simp only[z1,z2];omega)|(simp only[z1,z2];done)|fail)only[z8,z4,z5,z9,z7,z1,z2];exact rfl),by show h.next<h.next+2;omega,by show h.next+1<h.next+2;omega,Nat.le_refl _,Nat.le_succ _⟩
section
open I
def asg34:ACode:=I.R [g 8 (.new [O,O,O,O]),S 4 8 16] [6,7,8]
def bod34:ACode:=(.block 1 (Q (I.R [N 18 4 8,S 4 6 18,⟨none, .store 1 (t 7) (.const (.bool true)),none⟩] [])
 (.exit 0)))
end
structure PFi (l:Nat) (H0:Heap) (L:AObj) (done:List Fi) (H:Heap):Prop where
 done:done=[]
 old:∀z,z<l→H.get z=H0.get z
 loop:H.get l=some L
structure SFi (l b6 b7:Nat) (H0:Heap) (LX:AObj) (all:List Fi) (H:Heap):Prop where
 ne:all≠[]
 old:∀z,z<l→z≠b6→z≠b7→H.get z=H0.get z
 loop:H.get l=some LX
 v6:∃t x y z,H.get b6=some (.cells (moL t x y z) true 1)
 v7:H.get b7=some (.cells [.bool true] true 1)
set_option maxHeartbeats 16000000 in
theorem fi_round(hp:primAS T){H:Heap}(hr:Rdy H){b6 b7 l lo N:Nat}{fv fv2:Value}{f:Fi}(hlo:lo≤b6)(h67:b6<b7)(hql:b7<l)(hlN:l<N){m6:List Value}(hm6:m6.length=4)
 (gl:H.get l=some (.loop [(4,fv2),(6, .pointer (some ⟨b6,0,none⟩)),(7, .pointer (some ⟨b7,0,none⟩)),(15,fv)] [16,17] asg34 bod34 0 .normal))
 (g6:H.get b6=some (.cells m6 true 1))(g7:H.get b7=some (.cells [.bool false] true 1)){R:Heap→Prop}:
 FW T (.yield l) (fiV f) H fun r H'=>(∀z∈H'.log,lo≤z∧z<N)∧(r= .ret (.bool true)∧R H'∨r= .ret (.bool false)∧l∈H'.log∧((∀z,z<H.next→z≠b6→z≠b7→z≠l→H'.get z=H.get z)∧H'.get l=some (.loop [(4,fv2),(6, .pointer (some ⟨b6,0,none⟩)),(7, .pointer (some ⟨b7,0,none⟩)),(15,fv)] [16,17] asg34 bod34 2 (.exit 0))∧H'.get b6=some (.cells (moL f.t f.x f.y f.z) true 1)∧H'.get b7=some (.cells [.bool true] true 1))):=by
 have k6:=hr.wf.get_lt g6
 have k7:=hr.wf.get_lt g7
 have kl:=hr.wf.get_lt gl
 refine FW.yieldM hp (px:= .exit 0) (.inr ⟨0,rfl⟩) (S:=fun H'=>(∀z,z<H.next→z≠b6→z≠b7→z≠l→H'.get z=H.get z)∧H'.get l=some (.loop [(4,fv2),(6, .pointer (some ⟨b6,0,none⟩)),(7, .pointer (some ⟨b7,0,none⟩)),(15,fv)] [16,17] asg34 bod34 2 (.exit 0))∧H'.get b6=some (.cells (moL f.t f.x f.y f.z) true 1)∧H'.get b7=some (.cells [.bool true] true 1)) gl rfl kl ⟨by omega,hlN⟩ ?_
 unfold asg34
 refine wE_region ?_;refine wO_val (a_new) ?_;refine yS ?_;refine wO_nil ?_
 refine y1 ?_
 refine⟨rfl,by(simp(disch:=first|omega|(simp only[z1,z2];omega))only[z3,z4,z5,z6,z7,z1,z2,gl,g6,g7];exact rfl),?_⟩
 unfold bod34
 refine wE_block ?_
 refine WE.genC ?_
 intro hA hAe
 have A1:∀z,z<H.next→z≠l→H.get z=hA.get z:=fun z hz hne=>by rw[hAe];symm;simp(disch:=first|omega|(simp only[z1,z2];omega))only[z5,z4]
 have A3:hA.get H.next=some (.cells (moL f.t f.x f.y f.z) true 1):=by rw[hAe];(simp(disch:=first|omega|(simp only[z1,z2];omega))only[z3,z4,z5,z6,z7,z1,z2,gl,g6,g7];exact rfl)
 have A2:hA.get l=some (.loop [(4,fv2),(6, .pointer (some ⟨b6,0,none⟩)),(7, .pointer (some ⟨b7,0,none⟩)),(15,fv)] [16,17] asg34 bod34 1 .normal):=by rw[hAe];(simp(disch:=first|omega|(simp only[z1,z2];omega))only[z3,z4,z5,z6,z7,z1,z2,gl,g6,g7,A3];exact rfl)
 have A5:hA.next=H.next+1:=by rw[hAe];rfl
 have A6:hA.log=[]:=by rw[hAe];simp(disch:=first|omega|(simp only[z1,z2];omega))only[Heap.log_wr_new,Heap.log_push];exact hr.log
 clear hAe
 have B6:=(A1 b6 k6 (by omega)).symm.trans g6
 have B7:=(A1 b7 k7 (by omega)).symm.trans g7
 have ck:ltake 4 (ldrop 0 (moL f.t f.x f.y f.z))=moL f.t f.x f.y f.z:=rfl
 have ckl:Nat.beq (llen (moL f.t f.x f.y f.z)) 4=true:=rfl
 have cko:ones (moL f.t f.x f.y f.z)=true:=rfl
 have ck4:(moL f.t f.x f.y f.z).length=4:=rfl
 refine y4 ?_;refine yN ?_;refine wO_val (a_storeAll (by exact rfl) (by exact rfl) (by assumption) (by assumption) (by assumption) (by exact rfl)) ?_
 refine yS ?_;refine y3 ?_;refine wE_exit ?_;refine kB_x (by exact rfl) ?_
 refine⟨⟨_,by(simp(disch:=first|omega|(simp only[z1,z2];omega))only[z3,z4,z5,z6,z7,z1,z2,gl,g6,g7,A3,A2,B6,B7];exact rfl),rfl⟩,fun z hz=> ?_, .inr ⟨rfl,fun h5 hn h5e h5l=>⟨fun z hz n6 n7 nl=> ?_,h5l,?_,?_⟩⟩⟩
 ·rcases wr_log_old hz with rfl|hz
  ·exact⟨by omega,by omega⟩
  rcases wr_log_old hz with rfl|hz
  ·exact⟨by omega,by omega⟩
  rw[A6]at hz;cases hz
 ·refine(h5e z nl).trans ?_
  rw[z5 n7,z5 n6]
  exact(A1 z hz nl).symm
 ·refine(h5e b6 (by omega)).trans ?_
  rw[z5 (by omega)]
  exact Heap.get_wr_new B6
 ·refine(h5e b7 (by omega)).trans ?_
  rw[z6,z5 (by omega),B7];rfl
theorem fitB_of{a b:List Nat}(hb:¬b=s0):fitB a b= !(fitsL a b).isEmpty:=by unfold fitB;rw[decide_eq_false hb];rfl
set_option maxHeartbeats 16000000 in
theorem fits34(F:FnsFi T){h:Heap}(hr:Rdy h)(hg:Tab h)(h2:2<h.next){a b:List Nat}(ha:IsS a)(hb:IsS b):
 Al T 34 [sv a,sv b] h fun v _=>∃t x y z,v= .tuple #[moV t x y z, .bool (fitB a b)]:=by
 have hp:=F.ft.li.p
 refine .of hp F.f34 hr (fun v h1 hv q=>q) ?_
 have ka8:=us_llen ha.len
 have ka9:=us_take8 ha.len
 have kb8:=us_llen hb.len
 have kb9:=us_take8 hb.len
 have x0:Ext h (((h.push (.cells (cellsOf (sv a)) true 1)).push (.cells (cellsOf (sv b)) true 1)).push (.cells [I.O,I.O,I.O,I.O] true 1)):=(((Ext.refl h).push _).push _).push _
 have gA:(((h.push (.cells (cellsOf (sv a)) true 1)).push (.cells (cellsOf (sv b)) true 1)).push (.cells [I.O,I.O,I.O,I.O] true 1)).get h.next=some (.cells (us a) true 1):=by(simp(disch:=first|omega|(simp only[z1,z2];omega))only[z3,z4,z5,z6,z7,z1,z2];exact rfl)
 have gB:(((h.push (.cells (cellsOf (sv a)) true 1)).push (.cells (cellsOf (sv b)) true 1)).push (.cells [I.O,I.O,I.O,I.O] true 1)).get (h.next+1)=some (.cells (us b) true 1):=by(simp(disch:=first|omega|(simp only[z1,z2];omega)|(simp only[z1,z2];done)|fail)only[z8,z4,z5,z9,z7,z1,z2,gA];exact rfl)
 have gC:(((h.push (.cells (cellsOf (sv a)) true 1)).push (.cells (cellsOf (sv b)) true 1)).push (.cells [I.O,I.O,I.O,I.O] true 1)).get (h.next+2)=some (.cells [I.O,I.O,I.O,I.O] true 1):=by(simp(disch:=first|omega|(simp only[z1,z2];omega)|(simp only[z1,z2];done)|fail)only[z8,z4,z5,z9,z7,z1,z2,gA,gB];done)
 have n0:(((h.push (.cells (cellsOf (sv a)) true 1)).push (.cells (cellsOf (sv b)) true 1)).push (.cells [I.O,I.O,I.O,I.O] true 1)).next=h.next+3:=rfl
 refine y4 ?_;refine yB ?_;refine yB ?_;refine wO_val (a_new) ?_;refine yM ?_;refine y3 ?_;refine wE_scope ?_
 generalize(((h.push (.cells (cellsOf (sv a)) true 1)).push (.cells (cellsOf (sv b)) true 1)).push (.cells [I.O,I.O,I.O,I.O] true 1))=H at*
 have W:=x0.wf hr.wf
 have hL:=x0.log.trans hr.log
 by_cases he:b=s0
 ·have hf:fitB a b=true:=by unfold fitB;rw[decide_eq_true he];rfl
  rw[hf]
  have ck:ltake 4 (ldrop 0 (moL 0 (-7) (-7) (-7)))=moL 0 (-7) (-7) (-7):=rfl
  refine wE_seq ?_;refine y4 ?_;refine wO_val (a_loadN (by exact rfl) (by assumption) (by assumption) (by assumption)) ?_;refine wO_val (a_build (by exact rfl)) ?_
  refine wO_val (a_eqS (b:=s0) (by exact rfl) (by exact rfl) hb.len rfl) ?_
  rw[decide_eq_true he]
  refine y3 ?_;refine yY ?_;refine y4 ?_;refine wO_val (a_build (by exact rfl)) ?_;refine yS ?_;refine yM ?_
  refine y3 ?_;refine wE_ret ?_;refine kS_r ?_
  refine endA_ret ?_ (res_cells (own:=true) (s:=1) rfl ?_ ck rfl rfl) ⟨0, -7, -7, -7,rfl⟩
  ·rw[Heap.log_wr_new (by show h.next≤h.next+2;omega)];exact hL
  ·(simp(disch:=first|omega|(simp only[z1,z2];omega))only[z3,z4,z5,z6,z7,z1,z2,gA,gB,gC];exact rfl)
 ·rw[fitB_of he]
  refine wE_seq ?_;refine y4 ?_;refine wO_val (a_loadN (by exact rfl) (by assumption) (by assumption) (by assumption)) ?_;refine wO_val (a_build (by exact rfl)) ?_
  refine wO_val (a_eqS (b:=s0) (by exact rfl) (by exact rfl) hb.len rfl) ?_
  rw[decide_eq_false he]
  refine y3 ?_;refine yX ?_;refine wE_skip ?_;refine kS_n ?_
  refine wE_cutP (E0:=[(2, .pointer (some ⟨h.next,0,none⟩)),(3, .pointer (some ⟨h.next+1,0,none⟩)),(4, .pointer (some ⟨h.next+2,0,none⟩)),(6, .pointer (some ⟨H.next,0,none⟩))]) (P:=fun h'=>h'=H.push (.cells [I.O,I.O,I.O,I.O] true 1)) ?_ ?_
  ·refine wE_region ?_;refine wO_val (a_new) ?_;refine wO_nil ?_;refine y1 ?_
   exact⟨rfl,rfl,rfl,rfl⟩
  rintro _ rfl
  refine wE_cutP (E0:=[(2, .pointer (some ⟨h.next,0,none⟩)),(3, .pointer (some ⟨h.next+1,0,none⟩)),(4, .pointer (some ⟨h.next+2,0,none⟩)),(6, .pointer (some ⟨H.next,0,none⟩)),(7, .pointer (some ⟨H.next+1,0,none⟩))]) (P:=fun h'=>Ext H h'∧h'.next=H.next+2∧h'.get H.next=some (.cells [I.O,I.O,I.O,I.O] true 1)∧h'.get (H.next+1)=some (.cells [.bool false] true 1)) ?_ ?_
  ·refine wE_region ?_;refine wO_val (a_new) ?_
   refine yS ?_;refine wO_nil ?_
   refine y1 ?_
   exact⟨rfl,rfl,rfl,((Ext.refl H).push _).trans (ext_pw (by show h.next≤H.next+1;omega) _ _),rfl,by(simp(disch:=first|omega|(simp only[z1,z2];omega))only[z3,z4,z5,z6,z7,z1,z2,gA,gB,gC];done),by(simp(disch:=first|omega|(simp only[z1,z2];omega)|(simp only[z1,z2];done)|fail)only[z8,z4,z5,z9,z7,z1,z2,gA,gB,gC];exact rfl)⟩
  rintro H1 ⟨x1,n1,q6,q7⟩
  have ey1':=x0.trans x1
  have W1:=ey1'.wf hr.wf
  have hL1:=ey1'.log.trans hr.log
  have gA1:=(x1.old _ (by omega)).trans gA
  have gB1:=(x1.old _ (by omega)).trans gB
  have gC1:=(x1.old _ (by omega)).trans gC
  have C:=fits120 F (h:={H1 with log:=[]}) (.of W1) ha hb
  clear gA gB gC
  refine wE_seq ?_;refine wE_skip ?_;refine kS_n ?_;refine wE_seq ?_;refine y4 ?_;refine wO_val (a_loadN (by exact rfl) (by assumption) (by assumption) (by assumption)) ?_;refine wO_val (a_loadN (by exact rfl) (by assumption) (by assumption) (by assumption)) ?_
  refine yC ?_
  refine FW.al C (fun v h' m q=>q) ?_
  rintro _ H2 x2 ⟨qa,qb,rfl,ga,gb,kqa,kqb,na,nb⟩
  clear C
  have na:H1.next≤qa:=na
  have nb:H1.next≤qb:=nb
  have ey2':=ey1'.trans x2
  have W2:=ey2'.wf hr.wf
  have hL2:=ey2'.log.trans hr.log
  have n2:=x2.next
  have gC2:=(x2.old _ (by omega)).trans gC1
  have p6:=(x2.old _ (by omega)).trans q6
  have p7:=(x2.old _ (by omega)).trans q7
  have hg2:Tab H2:=hg.ext ey2' h2
  clear gA1 gB1 gC1 q6 q7
  refine y3 ?_;refine wE_block ?_
  refine wE_rangeM (px:= .exit 0) (lo:=H.next) (P:=PFi H2.next H2 (.loop [(4, .pointer (some ⟨h.next+2,0,none⟩)),(6, .pointer (some ⟨H.next,0,none⟩)),(7, .pointer (some ⟨H.next+1,0,none⟩)),(15,fnF qa qb)] [16,17] asg34 bod34 0 .normal) (fitsL a b)) (S:=SFi H2.next H.next (H.next+1) H2 (.loop [(4, .pointer (some ⟨h.next+2,0,none⟩)),(6, .pointer (some ⟨H.next,0,none⟩)),(7, .pointer (some ⟨H.next+1,0,none⟩)),(15,fnF qa qb)] [16,17] asg34 bod34 2 (.exit 0)) (fitsL a b)) rfl (by rfl) (by rw[F.ft.f209];rfl) (by omega) (by omega) hL2 W2 ?_ (fun H p=>⟨_,_,_,_,p.loop⟩) (fun H p=>⟨_,_,_,_,p.loop⟩) ?_ ?_
  ·have Y:YldM (.exit 0) T H.next (H2.next+1) H2.next fiV (fitsL a b) (PFi H2.next H2 (.loop [(4, .pointer (some ⟨h.next+2,0,none⟩)),(6, .pointer (some ⟨H.next,0,none⟩)),(7, .pointer (some ⟨H.next+1,0,none⟩)),(15,fnF qa qb)] [16,17] asg34 bod34 0 .normal)) (SFi H2.next H.next (H.next+1) H2 (.loop [(4, .pointer (some ⟨h.next+2,0,none⟩)),(6, .pointer (some ⟨H.next,0,none⟩)),(7, .pointer (some ⟨H.next+1,0,none⟩)),(15,fnF qa qb)] [16,17] asg34 bod34 2 (.exit 0)) (fitsL a b)):=by
    refine⟨fun done f Hh hx hrH hN hP=> ?_,fun done Ha Hb p n e=>⟨p.done,fun z hz=>(e z (by omega)).trans (p.old z hz),(e _ (by omega)).trans p.loop⟩,fun Hh m p=>⟨p.ne,p.old,p.loop,p.v6,p.v7⟩,fun Hh p=>⟨_,_,_,_,p.loop⟩⟩
    refine FW.mono' (fi_round hp hrH (f:=f) (lo:=H.next) (N:=H2.next+1) (R:=fun _=>False) (Nat.le_refl _) (Nat.lt_succ_self _) (by omega) (by omega) (m6:=[I.O,I.O,I.O,I.O]) rfl hP.loop ((hP.old _ (by omega)).trans p6) ((hP.old _ (by omega)).trans p7)) ?_
    rintro r' H' ⟨r1,r2⟩
    refine⟨r1,r2.imp (fun⟨_,e⟩=>e.elim) fun⟨e1,e2,e3,e4,e5,e6⟩=>⟨e1,e2,List.ne_nil_of_mem hx,fun z hz z6 z7=>(e3 z (by omega) z6 z7 (by omega)).trans (hP.old z hz),e4,⟨_,_,_,_,e5⟩,e6⟩⟩
   exact fits209 F.ft (.of (W2.push (.loop [(4, .pointer (some ⟨h.next+2,0,none⟩)),(6, .pointer (some ⟨H.next,0,none⟩)),(7, .pointer (some ⟨H.next+1,0,none⟩)),(15,fnF qa qb)] [16,17] asg34 bod34 0 .normal))) (px:= .exit 0) (qa:=qa) (qb:=qb) (l:=H2.next) (N:=H2.next+1) (lo:=H.next) ha hb (Nat.le_refl _) (by show H.next≤H2.next+1;omega) (Nat.lt_succ_self _) (by omega) Y (fun d H' hP=>(hP.old _ kqa).trans ga) (fun d H' hP=>(hP.old _ kqb).trans gb) (fun d H' hP=>(hP.old 2 (by omega)).trans hg2)
    ⟨rfl,fun z hz=>z4 hz,z3 _ _⟩
  ·intro h4 h5 k1 k2 k3 k4 k5 hP
   have D4:=(k5 (h.next+2) (by omega)).trans ((hP.old _ (by omega)).trans gC2)
   have D6:=(k5 H.next (by omega)).trans ((hP.old _ (by omega)).trans p6)
   have D7:=(k5 (H.next+1) (by omega)).trans ((hP.old _ (by omega)).trans p7)
   have hd:=hP.done
   rw[hd]
   have ck:ltake 4 (ldrop 0 (moL 0 0 0 0))=moL 0 0 0 0:=rfl
   refine kB_n ?_;refine kS_n ?_;refine wE_seq ?_;refine wE_draw ?_;refine qN ?_;refine qL ?_
   refine wD_store rfl rfl rfl (by exact rfl) (by exact rfl) (by exact rfl) (by assumption) (by exact rfl) (by exact rfl) (by omega) (by omega) (by apply ra_keepC rfl (rq_quiet rfl (a_load (by exact rfl) (by(simp(disch:=first|omega|(simp only[z1,z2];omega))only[z3,z4,z5,z6,z7,z1,z2,ga,gb,gC2,p6,p7,D4,D6,D7];exact rfl)) (by exact rfl)) (by exact sv_bool _)) rfl;apply ra_dropC rfl;exact ra_nil) ?_
   refine qM ?_;refine wD_nil ?_;refine y1 ?_;refine kS_n ?_;refine wE_ret ?_
   refine endA_ret ?_ (res_cells (own:=true) (s:=1) rfl ?_ ck rfl rfl) ⟨0,0,0,0,rfl⟩
   ·rw[Heap.log_wr_new (by show h.next≤h.next+2;omega)];exact k1
   ·(simp(disch:=first|omega|(simp only[z1,z2];omega))only[z3,z4,z5,z6,z7,z1,z2,ga,gb,gC2,p6,p7,D4,D6,D7];exact rfl)
  ·intro h4 h5 k1 k2 k3 k4 k5 hP
   obtain⟨s1,s2,s3,⟨t,x,y,z,s4⟩,s5⟩:=hP
   have D4:=(k5 (h.next+2) (by omega)).trans ((s2 _ (by omega) (by omega) (by omega)).trans gC2)
   have D6:=(k5 H.next (by omega)).trans s4
   have D7:=(k5 (H.next+1) (by omega)).trans s5
   have hd:(fitsL a b).isEmpty=false:=by
    cases hq:fitsL a b with
    |nil=>exact absurd hq s1
    |cons _ _=>rfl
   rw[hd]
   have ck:ltake 4 (ldrop 0 (moL t x y z))=moL t x y z:=rfl
   have ckl:Nat.beq (llen (moL t x y z)) 4=true:=rfl
   have cko:ones (moL t x y z)=true:=rfl
   have ck4:(moL t x y z).length=4:=rfl
   refine kB_e ?_;refine kS_n ?_;refine wE_seq ?_;refine wE_draw ?_;refine qN ?_;refine qL ?_
   refine wD_store rfl rfl rfl (by exact rfl) (by exact rfl) (by exact rfl) (by assumption) (by exact rfl) (by exact rfl) (by omega) (by omega) (by apply ra_keepC rfl (rq_quiet rfl (a_load (by exact rfl) (by(simp(disch:=first|omega|(simp only[z1,z2];omega))only[z3,z4,z5,z6,z7,z1,z2,ga,gb,gC2,p6,p7,s3,s5,s4,D4,D6,D7];exact rfl)) (by exact rfl)) (by exact sv_bool _)) rfl;apply ra_dropC rfl;exact ra_nil) ?_
   refine qM ?_;refine wD_nil ?_;refine y1 ?_;refine kS_n ?_;refine wE_ret ?_
   refine endA_ret ?_ (res_cells (own:=true) (s:=1) rfl ?_ ck rfl rfl) ⟨t,x,y,z,rfl⟩
   ·rw[Heap.log_wr_new (by show h.next≤h.next+2;omega)];exact k1
   ·(simp(disch:=first|omega|(simp only[z1,z2];omega))only[z3,z4,z5,z6,z7,z1,z2,ga,gb,gC2,p6,p7,s3,s5,s4,D4,D6,D7];exact rfl)
end Go.A.Pk
end
section
set_option maxRecDepth 100000
namespace Go.A.Pk
variable {T:Nat→Option AFunc}
structure FnsSv (T:Nat→Option AFunc):Prop where
 fi:FnsFi T
 f33:T 33=some f33
 f89:T 89=some f89
 f90:T 90=some f90
theorem isWood89(F:FnsSv T){h:Heap}(hr:Rdy h){w:List Nat×List Nat}(hw:IsW w):Pu T 89 [wV w] h (.bool (sIn w.1 w.2)):=by
 have hp:=F.fi.ft.li.p
 refine .of hp F.f89 hr rfl ?_
 have hwc:cellsOf (wV w)=wL w:=by show(wL w).toArray.toList=_;simp
 have g0:(h.push (.cells (cellsOf (wV w)) true 1)).get h.next=some (.cells (wL w) true 1):=by rw[hwc];exact z3 h _
 have W:WF (h.push (.cells (cellsOf (wV w)) true 1)):=hr.wf.push _
 have hL:(h.push (.cells (cellsOf (wV w)) true 1)).log=[]:=hr.log
 refine y4 ?_;refine yB ?_;refine yM ?_;refine y3 ?_
 generalize(h.push (.cells (cellsOf (wV w)) true 1))=H at*
 have C:=in35 hp F.fi.ft.f35 F.fi.ft.f121 (h:={H with log:=[]}) (.of W) hw.a hw.b
 have wa:=wL_a hw
 have wb:=wL_b hw
 have wka:=us_llen hw.a.len
 have wkb:=us_llen hw.b.len
 refine y4 ?_;refine yF ?_;refine wO_val (a_loadN (by exact rfl) (by assumption) (by assumption) (by assumption)) ?_;refine yF ?_;refine wO_val (a_loadN (by exact rfl) (by assumption) (by assumption) (by assumption)) ?_
 refine yC ?_
 refine FW.pu C ?_
 refine yM ?_;refine y3 ?_;refine wE_ret ?_
 exact endP_ret hL rfl rfl
def svR(w:List Nat×List Nat)(o:List Nat):Nat×Int:=
 if sIn w.1 w.2=false∨o=s0 then(0,1)else if fitB w.1 o then(1,0)else if fitB w.2 o then(3,0)else(2,0)
def svV(p:Nat×Int):Value:= .tuple #[.int .u8 (p.1:Nat), .int .i64 p.2]
set_option maxHeartbeats 8000000 in
theorem serves33(F:FnsSv T){h:Heap}(hr:Rdy h)(hg:Tab h)(h2:2<h.next){w:List Nat×List Nat}(hw:IsW w){o:List Nat}(ho:IsS o):Pu T 33 [wV w,sv o] h (svV (svR w o)):=by
 have hp:=F.fi.ft.li.p
 refine .of hp F.f33 hr rfl ?_
 have hwc:cellsOf (wV w)=wL w:=by show(wL w).toArray.toList=_;simp
 have g0:((h.push (.cells (cellsOf (wV w)) true 1)).push (.cells (cellsOf (sv o)) true 1)).get h.next=some (.cells (wL w) true 1):=by rw[hwc];exact(z4 (Nat.lt_succ_self _)).trans (z3 h _)
 have g1:((h.push (.cells (cellsOf (wV w)) true 1)).push (.cells (cellsOf (sv o)) true 1)).get (h.next+1)=some (.cells (us o) true 1):=z3 _ _
 have n0:((h.push (.cells (cellsOf (wV w)) true 1)).push (.cells (cellsOf (sv o)) true 1)).next=h.next+2:=rfl
 have x0:Ext h ((h.push (.cells (cellsOf (wV w)) true 1)).push (.cells (cellsOf (sv o)) true 1)):=((Ext.refl h).push _).push _
 refine y4 ?_;refine yB ?_;refine yB ?_;refine yM ?_;refine yM ?_;refine y3 ?_
 generalize((h.push (.cells (cellsOf (wV w)) true 1)).push (.cells (cellsOf (sv o)) true 1))=H at*
 have W:=x0.wf hr.wf
 have hL:=x0.log.trans hr.log
 have wk:=wL_all hw
 have wkl:=wL_llen hw
 have wa:=wL_a hw
 have wb:=wL_b hw
 have wka:=us_llen hw.a.len
 have wkb:=us_llen hw.b.len
 have k8:=us_llen ho.len
 have k9:=us_take8 ho.len
 have C1:=isWood89 F (h:={H with log:=[]}) (.of W) hw
 have C2:=empty90 hp F.f90 (h:={H with log:=[]}) (.of W) ho
 have C3:=fits34 F.fi (h:={H with log:=[]}) (.of W) (show Tab H from hg.ext x0 h2) (by show 2<H.next;omega) hw.a ho
 unfold svR
 cases hin:sIn w.1 w.2 with
 |false=>
  rw[hin]at C1
  rw[if_pos (.inl rfl)]
  refine wE_seq ?_;refine y4 ?_;refine wO_val (a_loadN (by exact rfl) (by assumption) (by assumption) (by assumption)) ?_
  refine yC ?_
  refine FW.pu C1 ?_
  refine yA ?_;refine yM ?_;refine yP ?_;refine yP ?_;refine yT ?_;refine y3 ?_
  refine yY ?_;refine y4 ?_;refine yM ?_;refine yM ?_;refine y3 ?_;refine wE_ret ?_;refine kS_r ?_
  exact endP_ret hL rfl rfl
 |true=>
  rw[hin]at C1
  by_cases hz:o=s0
  ·rw[if_pos (.inr hz)]
   rw[decide_eq_true hz]at C2
   refine wE_seq ?_;refine y4 ?_;refine wO_val (a_loadN (by exact rfl) (by assumption) (by assumption) (by assumption)) ?_
   refine yC ?_
   refine FW.pu C1 ?_
   refine yA ?_;refine yM ?_;refine yO ?_;refine wO_val (a_loadN (by exact rfl) (by assumption) (by assumption) (by assumption)) ?_;refine yO ?_
   refine yC ?_
   refine FW.pu C2 ?_
   refine yU ?_;refine y3 ?_;refine yY ?_;refine y4 ?_;refine yM ?_;refine yM ?_;refine y3 ?_;refine wE_ret ?_;refine kS_r ?_
   exact endP_ret hL rfl rfl
  ·rw[if_neg (fun q=>q.elim (by simp) hz)]
   rw[decide_eq_false hz]at C2
   refine wE_seq ?_;refine y4 ?_;refine wO_val (a_loadN (by exact rfl) (by assumption) (by assumption) (by assumption)) ?_
   refine yC ?_
   refine FW.pu C1 ?_
   refine yA ?_;refine yM ?_;refine yO ?_;refine wO_val (a_loadN (by exact rfl) (by assumption) (by assumption) (by assumption)) ?_;refine yO ?_
   refine yC ?_
   refine FW.pu C2 ?_
   clear C1 C2
   refine yU ?_;refine y3 ?_;refine yX ?_;refine wE_skip ?_;refine kS_n ?_;refine wE_seq ?_;refine y4 ?_;refine yF ?_
   refine wO_val (a_loadN (by exact rfl) (by assumption) (by assumption) (by assumption)) ?_;refine wO_val (a_loadN (by exact rfl) (by assumption) (by assumption) (by assumption)) ?_
   refine yC ?_
   refine FW.al C3 (fun v h' m q=>q) ?_
   rintro _ H1 x1 ⟨t,x,y,z,rfl⟩
   clear C3
   have n1:=x1.next
   have ey1':=x0.trans x1
   have g01:=(x1.old _ (by omega)).trans g0
   have g11:=(x1.old _ (by omega)).trans g1
   have hL1:=x1.log.trans hL
   have x2:=ext_pw (h:=H1) (base:=h.next) (by omega) (.cells [I.O,I.O,I.O,I.O] true 1) (.cells (lputs [I.O,I.O,I.O,I.O] 0 (cellsOf (moV t x y z))) true 1)
   have n2:((H1.push (.cells [I.O,I.O,I.O,I.O] true 1)).wr h.next H1.next (.cells (lputs [I.O,I.O,I.O,I.O] 0 (cellsOf (moV t x y z))) true 1)).next=H1.next+1:=rfl
   clear g0 g1
   cases hf1:fitB w.1 o with
   |true=>
    rw[if_pos rfl]
    refine yM ?_;refine yE ?_;refine yE ?_;refine wO_val (a_new) ?_
    refine yS ?_;refine yM ?_;refine y3 ?_;refine y4 ?_;refine yM ?_;refine y3 ?_;refine yY ?_;refine y4 ?_;refine yM ?_;refine yM ?_;refine y3 ?_;refine wE_ret ?_;refine kS_r ?_
    exact endP_ret ((Heap.log_wr_new (by omega)).trans hL1) rfl rfl
   |false=>
    rw[if_neg (by simp)]
    refine yM ?_;refine yE ?_;refine yE ?_;refine wO_val (a_new) ?_
    refine yS ?_;refine yM ?_;refine y3 ?_;refine y4 ?_;refine yM ?_;refine y3 ?_;refine yX ?_;refine wE_skip ?_;refine kS_n ?_
    refine wE_seq ?_
    generalize((H1.push (.cells [I.O,I.O,I.O,I.O] true 1)).wr h.next H1.next (.cells (lputs [I.O,I.O,I.O,I.O] 0 (cellsOf (moV t x y z))) true 1))=H2 at*
    have ey2':=ey1'.trans x2
    have W2:=ey2'.wf hr.wf
    have hL2:=x2.log.trans hL1
    have g02:=(x2.old _ (by omega)).trans g01
    have g12:=(x2.old _ (by omega)).trans g11
    have C4:=fits34 F.fi (h:={H2 with log:=[]}) (.of W2) (show Tab H2 from hg.ext ey2' h2) (by show 2<H2.next;omega) hw.b ho
    clear g01 g11
    refine y4 ?_;refine yF ?_;refine wO_val (a_loadN (by exact rfl) (by assumption) (by assumption) (by assumption)) ?_;refine wO_val (a_loadN (by exact rfl) (by assumption) (by assumption) (by assumption)) ?_
    refine yC ?_
    refine FW.al C4 (fun v h' m q=>q) ?_
    rintro _ H3 x3 ⟨t',x',y',z',rfl⟩
    clear C4
    have n3:=x3.next
    have hL3:=x3.log.trans hL2
    cases hf2:fitB w.2 o with
    |true=>
     rw[if_pos rfl]
     refine yM ?_;refine yE ?_;refine yE ?_;refine wO_val (a_new) ?_
     refine yS ?_;refine yM ?_;refine y3 ?_;refine y4 ?_;refine yM ?_;refine y3 ?_;refine yY ?_;refine y4 ?_;refine yM ?_;refine yM ?_;refine y3 ?_;refine wE_ret ?_;refine kS_r ?_
     exact endP_ret ((Heap.log_wr_new (by omega)).trans hL3) rfl rfl
    |false=>
     rw[if_neg (by simp)]
     refine yM ?_;refine yE ?_;refine yE ?_;refine wO_val (a_new) ?_
     refine yS ?_;refine yM ?_;refine y3 ?_;refine y4 ?_;refine yM ?_;refine y3 ?_;refine yX ?_;refine wE_skip ?_;refine kS_n ?_
     refine y4 ?_;refine yM ?_;refine yM ?_;refine y3 ?_;refine wE_ret ?_
     exact endP_ret ((Heap.log_wr_new (by omega)).trans hL3) rfl rfl
end Go.A.Pk
end
section
set_option maxRecDepth 100000
namespace Go.A.Pk
theorem sHas_meet{a b:List Nat}(ha:IsS a)(hb:IsS b)(c:Ce):sHas (sMeet a b) c=(sHas a c&&sHas b c):=by
 by_cases hc:inG c=true
 ·obtain⟨z,i,hz,hi,rfl⟩:=inG_form hc
  rw[sHas_of hz hi,sHas_of hz hi,sHas_of hz hi]
  unfold sMeet sMap
  rw[getD_zip ha hb hz]
  exact Nat.testBit_and ..
 ·rw[sHas_out hc,sHas_out hc,sHas_out hc];rfl
theorem has_ext{a b:List Nat}(ha:IsS a)(hb:IsS b)(h:∀z i,z<8→i<64→sHas a (ceOf z i)=sHas b (ceOf z i)):a=b:=by
 apply List.ext_getElem?
 intro z
 rcases Nat.lt_or_ge z 8 with hz|hz
 ·rw[getD_at (by rw[ha.len];exact hz),getD_at (by rw[hb.len];exact hz)]
  congr 1
  apply Nat.eq_of_testBit_eq
  intro i
  rcases Nat.lt_or_ge i 64 with hi|hi
  ·have:=h z i hz hi
   rwa [sHas_of hz hi,sHas_of hz hi]at this
  ·have big:∀x:Nat,x<U64→x.testBit i=false:=fun x hx=>Nat.testBit_lt_two_pow (Nat.lt_of_lt_of_le hx (show 2 ^ 64≤2 ^ i from Nat.pow_le_pow_right (by omega) hi))
   rw[big _ (ha.getD_lt z),big _ (hb.getD_lt z)]
 ·rw[List.getElem?_eq_none (by rw[ha.len];exact hz),List.getElem?_eq_none (by rw[hb.len];exact hz)]
theorem ceOf_mem{z i:Nat}(hz:z<8)(hi:i<64):ceOf z i∈(List.range 512).map ceN:=by
 rw[←ceN_of hi]
 exact List.mem_map_of_mem (List.mem_range.2 (by omega))
end Go.A.Pk
end
section
set_option maxRecDepth 100000
namespace Go.A.Pk
def mlo(f:Ce→Int)(m:Int)(l:List Ce):Int:=l.foldl (fun m c=>mi m (f c)) m
def mhi(f:Ce→Int)(m:Int)(l:List Ce):Int:=l.foldl (fun m c=>mx m (f c)) m
theorem mi_le1(a b:Int):mi a b≤a:=by unfold mi;split<;>omega
theorem mi_le2(a b:Int):mi a b≤b:=by unfold mi;split<;>omega
theorem mx_ge1(a b:Int):a≤mx a b:=by unfold mx;split<;>omega
theorem mx_ge2(a b:Int):b≤mx a b:=by unfold mx;split<;>omega
theorem mi_ge{k a b:Int}(h1:k≤a)(h2:k≤b):k≤mi a b:=by unfold mi;split<;>omega
theorem mx_le{k a b:Int}(h1:a≤k)(h2:b≤k):mx a b≤k:=by unfold mx;split<;>omega
theorem mlo_le(f:Ce→Int):∀(l:List Ce) (m:Int),mlo f m l≤m∧∀c∈l,mlo f m l≤f c
 |[],m=>⟨Int.le_refl _,fun c hc=>by cases hc⟩
 |c::l,m=>by
  obtain⟨h1,h2⟩:=mlo_le f l (mi m (f c))
  refine⟨Int.le_trans h1 (mi_le1 _ _),fun d hd=> ?_⟩
  rcases List.mem_cons.1 hd with rfl|hd
  ·exact Int.le_trans h1 (mi_le2 _ _)
  ·exact h2 d hd
theorem mlo_ge(f:Ce→Int){k:Int}:∀(l:List Ce) (m:Int),k≤m→(∀c∈l,k≤f c)→k≤mlo f m l
 |[],_,h,_=>h
 |c::l,m,h,hl=>mlo_ge f l (mi m (f c)) (mi_ge h (hl c List.mem_cons_self)) fun d hd=>hl d (List.mem_cons_of_mem _ hd)
theorem mhi_ge(f:Ce→Int):∀(l:List Ce) (m:Int),m≤mhi f m l∧∀c∈l,f c≤mhi f m l
 |[],m=>⟨Int.le_refl _,fun c hc=>by cases hc⟩
 |c::l,m=>by
  obtain⟨h1,h2⟩:=mhi_ge f l (mx m (f c))
  refine⟨Int.le_trans (mx_ge1 _ _) h1,fun d hd=> ?_⟩
  rcases List.mem_cons.1 hd with rfl|hd
  ·exact Int.le_trans (mx_ge2 _ _) h1
  ·exact h2 d hd
theorem mhi_le(f:Ce→Int){k:Int}:∀(l:List Ce) (m:Int),m≤k→(∀c∈l,f c≤k)→mhi f m l≤k
 |[],_,h,_=>h
 |c::l,m,h,hl=>mhi_le f l (mx m (f c)) (mx_le h (hl c List.mem_cons_self)) fun d hd=>hl d (List.mem_cons_of_mem _ hd)
theorem mlo_sub(f:Ce→Int){l l':List Ce}(h:∀c∈l,c∈l')(m:Int):mlo f m l'≤mlo f m l:=
 mlo_ge f l m (mlo_le f l' m).1 fun c hc=>(mlo_le f l' m).2 c (h c hc)
theorem mhi_sub(f:Ce→Int){l l':List Ce}(h:∀c∈l,c∈l')(m:Int):mhi f m l≤mhi f m l':=
 mhi_le f l m (mhi_ge f l' m).1 fun c hc=>(mhi_ge f l' m).2 c (h c hc)
theorem bx_fold:∀(l:List Ce) (b:Bx),l.foldl bxUp b=⟨⟨mlo (·.x) b.lo.x l,mlo (·.y) b.lo.y l,mlo (·.z) b.lo.z l⟩,⟨mhi (·.x) b.hi.x l,mhi (·.y) b.hi.y l,mhi (·.z) b.hi.z l⟩⟩
 |[],b=>rfl
 |c::l,b=>by rw[List.foldl_cons,bx_fold l (bxUp b c)];rfl
theorem bxS_eq(l:List Ce):bxS l=⟨⟨mlo (·.x) 7 l,mlo (·.y) 7 l,mlo (·.z) 7 l⟩,⟨mhi (·.x) 0 l,mhi (·.y) 0 l,mhi (·.z) 0 l⟩⟩:=bx_fold l bx0
def Sub(a b:List Nat):Prop:=∀c,sHas a c=true→sHas b c=true
theorem Sub.cells{a b:List Nat}(h:Sub a b){n:Nat}{c:Ce}(hc:c∈cellsTo a n):c∈cellsTo b n:=by
 obtain⟨h1,h2⟩:=List.mem_filter.1 hc
 exact List.mem_filter.2 ⟨h1,h c h2⟩
theorem filter_le{α:Type}{p q:α→Bool}(h:∀x,p x=true→q x=true):∀l:List α,(l.filter p).length≤(l.filter q).length
 |[]=>Nat.le_refl _
 |x::l=>by
  have ih:=filter_le h l
  rw[List.filter_cons,List.filter_cons]
  by_cases hp:p x=true
  ·rw[if_pos hp,if_pos (h x hp)];simpa using ih
  ·rw[if_neg hp]
   split
   ·exact Nat.le_succ_of_le ih
   ·exact ih
theorem Sub.cnt{a b:List Nat}(h:Sub a b):cntS a≤cntS b:=filter_le h _
theorem sIn_iff{a b:List Nat}(ha:IsS a)(hb:IsS b):sIn a b=true↔Sub a b:=by
 unfold sIn
 rw[decide_eq_true_eq]
 constructor
 ·intro h c hc
  have e:sHas (sMeet a b) c=sHas a c:=by rw[h]
  rw[sHas_meet ha hb,hc,Bool.true_and]at e
  exact e
 ·intro h
  refine has_ext (ha.meet hb) ha fun z i hz hi=> ?_
  rw[sHas_meet ha hb]
  cases hc:sHas a (ceOf z i)with
  |false=>rfl
  |true=>rw[h _ hc];rfl
theorem zr_sub{lo hi lo' hi' z:Int}(h1:lo'≤lo)(h2:hi≤hi')(h:z∈zr lo hi):z∈zr lo' hi':=by
 obtain⟨n,hn,rfl⟩:=List.mem_map.1 h
 have hn:=List.mem_range.1 hn
 refine List.mem_map.2 ⟨(lo+(n:Nat)-lo').toNat,List.mem_range.2 (by omega),by omega⟩
theorem fits_more{a a' b:List Nat}(ha:IsS a)(ha':IsS a')(h:Sub a a'){f:Fi}(hf:f∈fitsL a b):f∈fitsL a' b:=by
 unfold fitsL at hf⊢
 split at hf
 ·cases hf
 ·rename_i hn
  have h0:¬a=s0:=fun q=>hn (.inl q)
  have h0':¬a'=s0:=fun q=>h0 (has_ext ha s0_ok fun z i hz hi=>by
   cases hc:sHas a (ceOf z i)with
   |false=>rw[sHas_s0]
   |true=>
    have:=h _ hc
    rw[q]at this
    rw[this])
  have hcn:¬cntS a'<cntS b:=fun q=>hn (.inr (Nat.lt_of_le_of_lt h.cnt q))
  rw[if_neg (fun q=>q.elim h0' hcn)]
  obtain⟨t,ht,hf⟩:=List.mem_flatMap.1 hf
  refine List.mem_flatMap.2 ⟨t,ht,?_⟩
  have e1:(bndS a).1=bxS (cellsTo a 512):=by unfold bndS;rw[if_neg h0]
  have e2:(bndS a').1=bxS (cellsTo a' 512):=by unfold bndS;rw[if_neg h0']
  have hs:∀c∈cellsTo a 512,c∈cellsTo a' 512:=fun c hc=>h.cells hc
  unfold fitT at hf⊢
  rw[e1,bxS_eq]at hf
  rw[e2,bxS_eq]
  unfold fitZ at hf⊢
  obtain⟨z,hz,hf⟩:=List.mem_flatMap.1 hf
  have m1:=mlo_sub (·.z) hs 7
  have m2:=mhi_sub (·.z) hs 0
  have m3:=mlo_sub (·.y) hs 7
  have m4:=mhi_sub (·.y) hs 0
  have m5:=mlo_sub (·.x) hs 7
  have m6:=mhi_sub (·.x) hs 0
  refine List.mem_flatMap.2 ⟨z,zr_sub (by dsimp only;omega) (by dsimp only;omega) hz,?_⟩
  unfold fitY at hf⊢
  obtain⟨y,hy,hf⟩:=List.mem_flatMap.1 hf
  refine List.mem_flatMap.2 ⟨y,zr_sub (by dsimp only;omega) (by dsimp only;omega) hy,?_⟩
  unfold fitX at hf⊢
  obtain⟨x,hx,hf⟩:=List.mem_flatMap.1 hf
  refine List.mem_flatMap.2 ⟨x,zr_sub (by dsimp only;omega) (by dsimp only;omega) hx,?_⟩
  unfold tryX at hf⊢
  split at hf
  ·rename_i hin
   have hl:=liftN_ok (spunS_ok b t) (bndS (spunS b t)).1.lo.z.toNat z (8*y+x) ((bndS (spunS b t)).1.hi.z-(bndS (spunS b t)).1.lo.z+1).toNat
   have hin2:sIn (liftS (spunS b t) (bndS (spunS b t)).1 x y z) a'=true:=(sIn_iff hl ha').2 fun c hc=>h c ((sIn_iff hl ha).1 hin c hc)
   rw[if_pos hin2];exact hf
  ·cases hf
theorem fitB_more{a a' b:List Nat}(ha:IsS a)(ha':IsS a')(h:Sub a a')(hf:fitB a b=true):fitB a' b=true:=by
 unfold fitB at hf⊢
 rw[Bool.or_eq_true]at hf⊢
 rcases hf with hf|hf
 ·exact .inl hf
 ·right
  cases hq:fitsL a b with
  |nil=>rw[hq]at hf;cases hf
  |cons f r=>
   have:=fits_more ha ha' h (f:=f) (by rw[hq];exact List.mem_cons_self)
   cases hq':fitsL a' b with
   |nil=>rw[hq']at this;cases this
   |cons _ _=>rfl
end Go.A.Pk
end
