/- Walks of functions, plain laws, the table. -/
import Derived.Test.YtgffeapobcfigaaGreatDoorKU0
import Derived.Test.YtgffeapobcfigaaGreatDoorKD
import Derived.Sort.Row
import Derived.Sort.Grow
import Derived.Carry
import Derived.Lib.SmallJoins
import Derived.Deep.Slices
import Derived.Deep.Fields
import Derived.Test.YtgffeapobcfigaaGreatDoorKH
import Derived.SizedLaws
import Derived.KernelRfl
import Derived.Lib.LaidTab
import Derived.Test.YtgffeapobcfigaaGreatDoorKT
import Derived.Shelf.Sort.Plain
import Derived.Shelf.Slices.In.SortNone
import Derived.Test.YtgffeapobcfigaaGreatDoorProg
set_option linter.all false
section
set_option maxRecDepth 100000
namespace Go.A.Pk
variable {T:Nat→Option AFunc}
def ints(l:List Int):List Value:=l.map fun x=> .int .i64 x
theorem ints_length(l:List Int):(ints l).length=l.length:=by simp[ints]
theorem ints_app(a b:List Int):ints (a++b)=ints a++ints b:=by simp[ints]
theorem ints_ones:∀l:List Int,ones (ints l)=true
 |[]=>rfl
 |x::l=>ints_ones l
def havQ(k:Nat)(c:Ce)(r:Rd):Bool:=(decide (k=0)||decide (r.kind=k))&&sHas r.cells c
def havR(k:Nat)(c:Ce)(l:List Rd):List Int:=(l.filter (havQ k c)).map (·.id)
theorem havR_step{k:Nat}{c:Ce}{l:List Rd}{i:Nat}{r:Rd}(hi:l[i]? =some r):havR k c (l.take (i+1))=havR k c (l.take i)++(if havQ k c r then [r.id]else []):=by
 unfold havR
 rw[take_at hi,List.map_append]
 cases havQ k c r<;>rfl
structure FnsHv (T:Nat→Option AFunc):Prop where
 h:FnsH T
 f125:T 125=some f125
theorem havR_le{k:Nat}{c:Ce}{l:List Rd}:(havR k c l).length≤l.length:=by
 unfold havR
 rw[List.length_map];exact List.length_filter_le ..
set_option maxHeartbeats 8000000 in
theorem having125(F:FnsHv T){h:Heap}(hr:Rdy h){a:Option Addr}{n c:Nat}{l:List Rd}(s:RdS h (.slice a n c) l)(hn:n<1000000){k:Nat}(hk:k<256)(ce:Ce):
 Al T 125 [.slice a n c, .int .u8 (k:Nat),ceV ce] h fun v h'=>Own h.next h' 1 v (havR k ce l).length (ints (havR k ce l)):=by
 refine .of F.h.p F.f125 hr ?_ ?_
 ·intro v h1 hv q
  generalize(havR k ce l).length=m at q⊢
  generalize ints (havR k ce l)=cs at q⊢
  cases q with
  |nil=>exact .nil
  |full=>cases hv
 obtain rfl:=s.len
 have g0:(h.push (.cells (cellsOf (ceV ce)) true 1)).get h.next=some (.cells (cellsOf (ceV ce)) true 1):=z3 h _
 have x0:Ext h (h.push (.cells (cellsOf (ceV ce)) true 1)):=(Ext.refl h).push _
 have n0:(h.push (.cells (cellsOf (ceV ce)) true 1)).next=h.next+1:=rfl
 refine y4 ?_;refine yB ?_;refine yM ?_;refine y3 ?_
 generalize(h.push (.cells (cellsOf (ceV ce)) true 1))=H at*
 refine y4 ?_;refine yM ?_;refine y3 ?_;refine wE_seq ?_;refine y4 ?_;refine yM ?_;refine yD ?_;refine yM ?_
 refine y3 ?_;refine wE_block ?_
 refine wE_loop (fun m e ds h'=>∃(i:Nat) (v:Value),i≤l.length∧m=l.length-i∧e=[(1, .int .u8 (k:Nat)),(5, .pointer (some ⟨h.next,0,none⟩)),(7,v),(10, .slice a l.length c),(11, .int .i64 (l.length:Nat)),(12, .int .i64 (i:Nat))]∧ds=[]∧Ext h h'∧h.next<h'.next∧h'.get h.next=some (.cells (ceL ce) true 1)∧Own (h.next+1) h' 1 v (havR k ce (l.take i)).length (ints (havR k ce (l.take i))))
  ⟨0,_,Nat.zero_le _,rfl,rfl,rfl,x0,by omega,g0, .nil⟩ ?_
 rintro m e ds H1 ⟨i,v,hin,rfl,rfl,rfl,x1,n1,g1,ow⟩
 have W1:=x1.wf hr.wf
 have hL1:=x1.log.trans hr.log
 by_cases hlt:i<l.length
 ·obtain⟨r,hri⟩:∃r,l[i]? =some r:=⟨l[i],List.getElem?_eq_getElem hlt⟩
  have hR:=s.ok r (List.mem_of_getElem? hri)
  obtain⟨b,o,vs,own,t,rfl,e1,e2,hbb,_⟩:=(s.ext x1).elem hri
  have k1:=e2.all
  have k2:=rdL_llen hR
  have rl2:=rdL_length hR
  have ro:=rdL_ones r
  have ral:=rdL_all hR
  have rc:=rdL_cells hR
  have rk8:=us_llen hR.cells.len
  have ck:ltake 3 (ldrop 0 (ceL ce))=ceL ce:=rfl
  have ckl:Nat.beq (llen (ceL ce)) 3=true:=rfl
  have hst:=havR_step (k:=k) (c:=ce) hri
  have hle:(havR k ce (l.take i)).length<1000000:=Nat.lt_of_le_of_lt havR_le (by rw[List.length_take];omega)
  have m1:numOp .eql (.int .u8 (k:Nat)) (.int .u8 0)=_:=m_eqI (c:=0) rfl
  have m2:numOp .eql (.int .u8 (r.kind:Nat)) (.int .u8 (k:Nat))=_:=m_eqI (c:=k) rfl
  have x2:=ext_pw (h:=H1) (base:=h.next) (by omega) (.cells zR true 1) (.cells (rdL r) true 1)
  have q2:=get_pw (h:=H1) (base:=h.next) zR (rdL r)
  have n2:((H1.push (.cells zR true 1)).wr h.next H1.next (.cells (rdL r) true 1)).next=H1.next+1:=rfl
  refine y4 ?_;refine yt ?_;refine y3 ?_;refine wE_seq ?_;refine yY ?_;refine wE_skip ?_;refine kS_n ?_;refine wE_seq ?_;refine wE_block ?_;refine y4 ?_;refine wO_val (a_iaddrS (by exact rfl) (by exact rfl) (by omega)) ?_;refine wO_val (a_loadN (by exact rfl) (by assumption) (by assumption) (by assumption)) ?_;refine wO_val (a_new) ?_
  refine wO_val (a_storeAll (by exact rfl) (by exact rfl) (by(simp(disch:=first|omega|(simp only[z1,z2];omega))only[z3,z4,z5,z6,z7,z1,z2,g0,g1,e1,q2];exact rfl)) (by assumption) (by exact rfl) (by assumption)) ?_;refine y3 ?_
  unfold zR at*
  generalize((H1.push (.cells _ true 1)).wr h.next H1.next (.cells (rdL r) true 1))=H2 at*
  have W2:=x2.wf W1
  have hL2:=x2.log.trans hL1
  have g2:=(x2.old _ n1).trans g1
  have ow2:=ow.ext x2
  have C:=has38 F.h (.of W2) hR.cells ce
  have ey0:=x1.trans x2
  unfold havQ at hst
  generalize decide (k=0)=d1 at*
  generalize decide (r.kind=k)=d2 at*
  clear g1 ow e1
  generalize hb:sHas r.cells ce=b3 at*
  refine wE_cutE (E:=[(1, .int .u8 (k:Nat)),(5, .pointer (some ⟨h.next,0,none⟩)),(7,v),(9, .pointer (some ⟨H1.next,0,none⟩)),(10, .slice (some ⟨b,o,none⟩) l.length c),(11, .int .i64 (l.length:Nat)),(12, .int .i64 (i:Nat)),(29, .bool ((d1||d2)&&b3))]) (H:=H2) ?_ ?_
  ·cases d1 with
   |true=>
    refine wE_region ?_;refine yM ?_;refine wO_val (a_num (by exact rfl) (by exact rfl) (by with_reducible assumption)) ?_;refine yM ?_;refine yP ?_;refine yP ?_;refine yP ?_;refine yP ?_
    refine yT ?_;refine yM ?_;refine yO ?_;refine yF ?_;refine yO ?_;refine wO_val (a_loadN (by exact rfl) (by assumption) (by assumption) (by assumption)) ?_;refine yO ?_
    refine yN ?_;refine yO ?_
    refine yC ?_
    refine FW.pu C ?_
    refine yT ?_;refine wO_nil ?_;refine y1 ?_
    exact⟨rfl,rfl,rfl,rfl⟩
   |false=>
    cases d2 with
    |true=>
     refine wE_region ?_;refine yM ?_;refine wO_val (a_num (by exact rfl) (by exact rfl) (by with_reducible assumption)) ?_;refine yM ?_;refine yO ?_;refine yF ?_;refine yO ?_;refine yL ?_;refine yO ?_
     refine yM ?_;refine yO ?_;refine wO_val (a_num (by exact rfl) (by exact rfl) (by with_reducible assumption)) ?_;refine yU ?_;refine yM ?_;refine yO ?_;refine yF ?_;refine yO ?_
     refine wO_val (a_loadN (by exact rfl) (by assumption) (by assumption) (by assumption)) ?_;refine yO ?_;refine yN ?_;refine yO ?_
     refine yC ?_
     refine FW.pu C ?_
     refine yT ?_;refine wO_nil ?_;refine y1 ?_
     exact⟨rfl,rfl,rfl,rfl⟩
    |false=>
     refine wE_region ?_;refine yM ?_;refine wO_val (a_num (by exact rfl) (by exact rfl) (by with_reducible assumption)) ?_;refine yM ?_;refine yO ?_;refine yF ?_;refine yO ?_;refine yL ?_;refine yO ?_
     refine yM ?_;refine yO ?_;refine wO_val (a_num (by exact rfl) (by exact rfl) (by with_reducible assumption)) ?_;refine yU ?_;refine yM ?_;refine yP ?_;refine yP ?_;refine yP ?_
     refine yP ?_;refine yU ?_;refine wO_nil ?_;refine y1 ?_
     exact⟨rfl,rfl,rfl,rfl⟩
  clear C m1 m2
  generalize((d1||d2)&&b3)=d at*
  cases d with
  |false=>
   refine yX ?_;refine wE_skip ?_;refine kB_n ?_;refine kS_n ?_;refine wE_region ?_;refine yinc ?_;refine yM ?_;refine y3 ?_
   refine⟨l.length-(i+1),by omega,i+1,v,by omega,rfl,rfl,rfl,ey0,by omega,g2,?_⟩
   rw[hst,if_neg (by simp),List.append_nil];exact ow2
  |true=>
   refine yY ?_;refine wE_region ?_;refine yM ?_;refine yF ?_;refine yL ?_;refine wO_val (a_bslice (by exact rfl) (by exact rfl)) ?_
   refine wO_app1 (lo:=h.next+1) (sz:=1) (v:=v) (c1:=[.int .i64 r.id]) (ow2.ext ((Ext.refl H2).push _)) hle (by omega) (by omega) (by show h.next+1≤H2.next+1;omega) (by omega) (by exact rfl) (by exact rfl) (src_slice (cs:=[.int .i64 r.id]) (by(simp(disch:=first|omega|(simp only[z1,z2];omega))only[z3,z4,z5,z6,z7,z1,z2,g0,q2,g2];exact rfl)) rfl rfl) rfl rfl ?_
   intro v' h3 o3 x3
   have ey3':Lx (h.next+1) H2 h3:=((Lx.refl (h.next+1) H2).push (by omega) _).trans x3
   have n3:=ey3'.next
   refine yM ?_;refine wO_nil ?_;refine y1 ?_;refine kB_n ?_;refine kS_n ?_;refine wE_region ?_;refine yinc ?_;refine yM ?_;refine y3 ?_
   refine⟨l.length-(i+1),by omega,i+1,v',by omega,rfl,rfl,rfl,⟨Nat.le_trans ey0.next n3,ey3'.log.trans ey0.log,fun b hb=>(ey3'.old b (by omega)).trans (ey0.old b hb),fun w=>ey3'.wf (ey0.wf w)⟩,by omega,(ey3'.old _ (by omega)).trans g2,?_⟩
   rw[hst,if_pos rfl,List.length_append,ints_app];exact o3
 ·obtain rfl:i=l.length:=by omega
  rw[List.take_length]at ow
  refine y4 ?_;refine yf ?_;refine y3 ?_;refine wE_seq ?_;refine yX ?_;refine wE_exit ?_;refine kS_e ?_;refine kS_e ?_;refine kB_e ?_;refine kS_n ?_
  refine y4 ?_;refine yM ?_;refine yM ?_;refine y3 ?_;refine wE_ret ?_
  exact endA_ret hL1 rfl (ow.low (Nat.le_succ _))
end Go.A.Pk
end
section
set_option maxRecDepth 100000
namespace Go.A.Pk
variable {T:Nat→Option AFunc}
structure FnsHr (T:Nat→Option AFunc):Prop where
 p:primAS T
 f171:T 171=some f171
 f225:T 225=some f225
set_option maxHeartbeats 4000000 in
theorem has171(F:FnsHr T){h:Heap}(hr:Rdy h){s:List Nat}(hs:IsS s)(c:Ce):Pu T 171 [sv s,ceV c] h (.bool (sHas s c)):=by
 refine .of F.p F.f171 hr rfl ?_
 have W:=(hr.wf.push (.cells (cellsOf (sv s)) true 1)).push (.cells (cellsOf (ceV c)) true 1)
 have C:=inGrid225 F.p F.f225 (.of W) c
 by_cases hc:inG c=true
 ·obtain⟨z,i,hz,hi,rfl⟩:=inG_form hc
  rw[hc]at C
  rw[sHas_of hz hi,←land_ne]
  have e1:=us_get (getD_at (s:=s) (i:=z) (by rw[hs.len];exact hz))
  have k1:=m_and (hs.getD_lt z) (pow_lt64 hi)
  have k2:numOp .neq (.int .u64 ((Nat.land (s.getD z 0) (2 ^ i):Nat):Int)) (.int .u64 0)=some (.bool (decide (Nat.land (s.getD z 0) (2 ^ i)≠0))):=by
   rw[m_neq]
   by_cases q:Nat.land (s.getD z 0) (2 ^ i)=0
   ·rw[q];rfl
   ·rw[decide_eq_true q]
    have:((Nat.land (s.getD z 0) (2 ^ i):Nat):Int)≠0:=by omega
    simp only[bne,beq_eq_false_iff_ne.2 this];rfl
  have k4:numOp .mul (.int .i64 8) (.int .i64 (ceOf z i).y)=some (.int .i64 (8*((i / 8:Nat):Int))):=m_mul (b:=((i / 8:Nat):Int)) (by omega) (by omega)
  have k5:numOp .add (.int .i64 (8*((i / 8:Nat):Int))) (.int .i64 (ceOf z i).x)=some (.int .i64 ((i:Nat):Int)):=m_add (b:=((i % 8:Nat):Int)) (by rw[wrapA_i64]<;>omega)
  have k6:=m_shl1 (k:= .u64) hi
  have k7:wrapA .u64 ((i:Nat):Int)=((i:Nat):Int):=wrapA_u64 (by omega)
  refine y4 ?_;refine yB ?_;refine yB ?_;refine yM ?_;refine y3 ?_;refine wE_seq ?_;refine wE_draw ?_
  refine qN ?_
  refine qC ?_
  refine FW.puD C (by apply ra_dropC rfl;exact ra_nil) ?_
  clear C
  refine qM ?_;refine qF ?_
  refine qL ?_
  refine wD_quiet rfl rfl rfl (by exact rfl) (by exact rfl) (by exact rfl) (a_iaddrA (by exact rfl) (by exact rfl) (by omega)) ?_
  refine wD_quiet rfl rfl rfl (by exact rfl) (by exact rfl) (by exact rfl) (a_load (by exact rfl) (by(simp(disch:=first|omega|(simp only[z1,z2];omega))only[z3,z4,z5,z6,z7,z1,z2];exact rfl)) (by assumption)) ?_
  refine qF ?_
  refine qL ?_
  refine wD_quiet rfl rfl rfl (by exact rfl) (by exact rfl) (by exact rfl) (a_num (by exact rfl) (by exact rfl) (by with_reducible assumption)) ?_;refine qF ?_
  refine qL ?_
  refine wD_quiet rfl rfl rfl (by exact rfl) (by exact rfl) (by exact rfl) (a_num (by exact rfl) (by exact rfl) (by with_reducible assumption)) ?_;refine wD_quiet rfl rfl rfl (by exact rfl) (by exact rfl) (by exact rfl) (a_conv (by exact rfl) (by assumption)) ?_
  refine wD_quiet rfl rfl rfl (by exact rfl) (by exact rfl) (by exact rfl) (a_num (by exact rfl) (by exact rfl) (by with_reducible assumption)) ?_;refine wD_quiet rfl rfl rfl (by exact rfl) (by exact rfl) (by exact rfl) (a_num (by exact rfl) (by exact rfl) (by with_reducible assumption)) ?_
  refine wD_quiet rfl rfl rfl (by exact rfl) (by exact rfl) (by exact rfl) (a_num (by exact rfl) (by exact rfl) (by with_reducible assumption)) ?_;refine wD_quiet rfl rfl rfl (by exact rfl) (by exact rfl) (by exact rfl) (a_pickT (by exact rfl) (by exact rfl)) ?_;refine qM ?_;refine wD_nil ?_
  refine y1 ?_;refine kS_n ?_;refine wE_ret ?_
  exact endP_ret hr.log rfl rfl
 ·have hc:inG c=false:=by simpa using hc
  rw[hc]at C
  rw[show sHas s c=false by unfold sHas;rw[hc];rfl]
  refine y4 ?_;refine yB ?_;refine yB ?_;refine yM ?_;refine y3 ?_;refine wE_seq ?_;refine wE_draw ?_
  refine qN ?_
  refine qC ?_
  refine FW.puD C (by apply ra_dropC rfl;exact ra_nil) ?_
  clear C
  refine qM ?_;refine wD_off rfl rfl rfl (by exact rfl) ?_;refine wD_off rfl rfl rfl (by exact rfl) ?_;refine wD_off rfl rfl rfl (by exact rfl) ?_;refine wD_off rfl rfl rfl (by exact rfl) ?_;refine wD_off rfl rfl rfl (by exact rfl) ?_;refine wD_off rfl rfl rfl (by exact rfl) ?_
  refine wD_off rfl rfl rfl (by exact rfl) ?_;refine wD_off rfl rfl rfl (by exact rfl) ?_;refine wD_off rfl rfl rfl (by exact rfl) ?_;refine wD_off rfl rfl rfl (by exact rfl) ?_;refine wD_off rfl rfl rfl (by exact rfl) ?_;refine wD_off rfl rfl rfl (by exact rfl) ?_;refine wD_off rfl rfl rfl (by exact rfl) ?_;refine wD_off rfl rfl rfl (by exact rfl) ?_
  refine wD_quiet rfl rfl rfl (by exact rfl) (by exact rfl) (by exact rfl) (a_pickF (by exact rfl) (by exact rfl)) ?_;refine qM ?_;refine wD_nil ?_;refine y1 ?_;refine kS_n ?_;refine wE_ret ?_
  exact endP_ret hr.log rfl rfl
end Go.A.Pk
end
section
set_option maxRecDepth 100000
namespace Go.A.Pk
variable {T:Nat→Option AFunc}
abbrev InS(h:Heap)(v:Value)(l:List Int):Prop:=SliceOf h 1 v l.length (ints l)
theorem InS.elem{h:Heap}{a:Option Addr}{n c:Nat}{l:List Int}(s:InS h (.slice a n c) l){i:Nat}{x:Int}(hi:l[i]? =some x):
 ∃b o vs own t,a=some ⟨b,o,none⟩∧h.get b=some (.cells vs own t)∧lget vs (o+i*1)=some (.int .i64 x):=by
 have hlt:=(List.getElem?_eq_some_iff.1 hi).1
 rcases SliceOf.inv s with⟨_,_,h0,_⟩|⟨b,o,cap,hv,s1,hc⟩
 ·omega
 ·cases hv
  obtain⟨vs,own,t,g1,g2⟩:=s1.obj
  refine⟨b,o,vs,own,t,rfl,g1,?_⟩
  rw[lget_eq]
  have e:(ints l)[i]? =some (.int .i64 x):=by simp[ints,hi]
  rw[←g2,ltake_eq,ldrop_eq,List.getElem?_take_of_lt (by omega),List.getElem?_drop]at e
  rw[Nat.mul_one];exact e
theorem InS.len{h:Heap}{a:Option Addr}{n c:Nat}{l:List Int}(s:InS h (.slice a n c) l):n=l.length:=by
 rcases SliceOf.inv s with⟨_,hv,h0,_⟩|⟨b,o,cap,hv,s1,hc⟩
 ·cases hv;exact h0.symm
 ·cases hv;rfl
set_option maxHeartbeats 4000000 in
theorem sameInts75(hp:primAS T)(hf:T 75=some f75){h:Heap}(hr:Rdy h){a b:Option Addr}{n c n2 c2:Nat}{l k:List Int}(s:InS h (.slice a n c) l)(s2:InS h (.slice b n2 c2) k)(hn:n<1000000)(hn2:n2<1000000):Pu T 75 [.slice a n c, .slice b n2 c2] h (.bool (decide (l=k))):=by
 refine .of hp hf hr rfl ?_
 obtain rfl:=s.len
 obtain rfl:=s2.len
 by_cases hlen:l.length=k.length
 ·have m1:numOp .neq (.int .i64 (l.length:Nat)) (.int .i64 (k.length:Nat))=some (.bool false):=by rw[hlen];exact m_neqF rfl
  refine y4 ?_;refine yM ?_;refine y3 ?_;refine wE_seq ?_;refine y4 ?_;refine yM ?_;refine yD ?_;refine yM ?_
  refine yD ?_;refine wO_val (a_num (by exact rfl) (by exact rfl) (by with_reducible assumption)) ?_;refine y3 ?_;refine yX ?_;refine wE_skip ?_;refine kS_n ?_;refine wE_seq ?_;refine y4 ?_
  refine yM ?_;refine y3 ?_;refine wE_block ?_
  refine wE_loop (fun m e ds h'=>∃i:Nat,i≤l.length∧m=l.length-i∧e=[(0, .slice a l.length c),(1, .slice b k.length c2),(5, .int .i64 (i:Nat))]∧ds=[]∧h=h'∧l.take i=k.take i)
   ⟨0,Nat.zero_le _,rfl,rfl,rfl,rfl,rfl⟩ ?_
  rintro m e ds _ ⟨i,hin,rfl,rfl,rfl,rfl,hi⟩
  by_cases hlt:i<l.length
  ·obtain⟨x,hx⟩:∃x,l[i]? =some x:=⟨l[i],List.getElem?_eq_getElem hlt⟩
   obtain⟨y,hy⟩:∃y,k[i]? =some y:=⟨k[i]'(by omega),List.getElem?_eq_getElem _⟩
   obtain⟨b1,o1,vs1,own1,t1,rfl,e1,e2⟩:=s.elem hx
   obtain⟨b2,o2,vs2,own2,t2,rfl,j1,j2⟩:=s2.elem hy
   have hT1:l.take (i+1)=l.take i++[x]:=by
    obtain⟨q,rfl⟩:=List.getElem?_eq_some_iff.1 hx
    exact List.take_succ_eq_append_getElem q
   have hT2:k.take (i+1)=k.take i++[y]:=by
    obtain⟨q,rfl⟩:=List.getElem?_eq_some_iff.1 hy
    exact List.take_succ_eq_append_getElem q
   by_cases hxy:x=y
   ·have m2:numOp .neq (.int .i64 x) (.int .i64 y)=some (.bool false):=m_neqF hxy
    refine wE_seq ?_;refine y4 ?_;refine yM ?_;refine yM ?_;refine yD ?_;refine yt ?_;refine y3 ?_
    refine yY ?_;refine wE_skip ?_;refine kS_n ?_;refine wE_seq ?_;refine wE_block ?_;refine wE_seq ?_;refine wE_draw ?_;refine qM ?_;refine qM ?_
    refine wD_quiet rfl rfl rfl (by exact rfl) (by exact rfl) (by exact rfl) (a_iaddrS (by exact rfl) (by exact rfl) (by omega)) ?_;refine wD_quiet rfl rfl rfl (by exact rfl) (by exact rfl) (by exact rfl) (a_load (by exact rfl) (by assumption) (by assumption)) ?_;refine qM ?_
    refine qM ?_;refine wD_quiet rfl rfl rfl (by exact rfl) (by exact rfl) (by exact rfl) (a_iaddrS (by exact rfl) (by exact rfl) (by omega)) ?_;refine wD_quiet rfl rfl rfl (by exact rfl) (by exact rfl) (by exact rfl) (a_load (by exact rfl) (by assumption) (by assumption)) ?_
    refine wD_quiet rfl rfl rfl (by exact rfl) (by exact rfl) (by exact rfl) (a_num (by exact rfl) (by exact rfl) (by with_reducible assumption)) ?_;refine wD_nil ?_;refine y1 ?_;refine kS_n ?_;refine yX ?_;refine wE_skip ?_;refine kB_n ?_;refine kS_n ?_;refine wE_region ?_
    refine yM ?_;refine yinc ?_;refine yM ?_;refine y3 ?_
    exact⟨l.length-(i+1),by omega,i+1,by omega,rfl,rfl,rfl,rfl,by rw[hT1,hT2,hi,hxy]⟩
   ·have m2:numOp .neq (.int .i64 x) (.int .i64 y)=some (.bool true):=m_neqT hxy
    have:l≠k:=by
     intro q
     rw[q,hy]at hx
     exact hxy (Option.some.inj hx).symm
    rw[decide_eq_false this]
    refine wE_seq ?_;refine y4 ?_;refine yM ?_;refine yM ?_;refine yD ?_;refine yt ?_;refine y3 ?_
    refine yY ?_;refine wE_skip ?_;refine kS_n ?_;refine wE_seq ?_;refine wE_block ?_;refine wE_seq ?_;refine wE_draw ?_;refine qM ?_;refine qM ?_
    refine wD_quiet rfl rfl rfl (by exact rfl) (by exact rfl) (by exact rfl) (a_iaddrS (by exact rfl) (by exact rfl) (by omega)) ?_;refine wD_quiet rfl rfl rfl (by exact rfl) (by exact rfl) (by exact rfl) (a_load (by exact rfl) (by assumption) (by assumption)) ?_;refine qM ?_
    refine qM ?_;refine wD_quiet rfl rfl rfl (by exact rfl) (by exact rfl) (by exact rfl) (a_iaddrS (by exact rfl) (by exact rfl) (by omega)) ?_;refine wD_quiet rfl rfl rfl (by exact rfl) (by exact rfl) (by exact rfl) (a_load (by exact rfl) (by assumption) (by assumption)) ?_
    refine wD_quiet rfl rfl rfl (by exact rfl) (by exact rfl) (by exact rfl) (a_num (by exact rfl) (by exact rfl) (by with_reducible assumption)) ?_;refine wD_nil ?_;refine y1 ?_;refine kS_n ?_;refine yY ?_;refine y4 ?_;refine yM ?_
    refine y3 ?_;refine wE_ret ?_;refine kB_r ?_;refine kS_r ?_;refine kS_r ?_;refine kB_r ?_;refine kS_r ?_
    exact endP_ret hr.log rfl rfl
  ·obtain rfl:i=l.length:=by omega
   rw[List.take_length,hlen,List.take_length]at hi
   rw[decide_eq_true hi]
   refine wE_seq ?_;refine y4 ?_;refine yM ?_;refine yM ?_;refine yD ?_;refine yf ?_;refine y3 ?_
   refine yX ?_;refine wE_exit ?_;refine kS_e ?_;refine kS_e ?_;refine kB_e ?_;refine kS_n ?_;refine y4 ?_;refine yM ?_;refine y3 ?_;refine wE_ret ?_
   exact endP_ret hr.log rfl rfl
 ·have m1:numOp .neq (.int .i64 (l.length:Nat)) (.int .i64 (k.length:Nat))=some (.bool true):=m_neqT (by omega)
  rw[decide_eq_false (fun q=>hlen (by rw[q]))]
  refine y4 ?_;refine yM ?_;refine y3 ?_;refine wE_seq ?_;refine y4 ?_;refine yM ?_;refine yD ?_;refine yM ?_
  refine yD ?_;refine wO_val (a_num (by exact rfl) (by exact rfl) (by with_reducible assumption)) ?_;refine y3 ?_;refine yY ?_;refine y4 ?_;refine yM ?_;refine y3 ?_;refine wE_ret ?_;refine kS_r ?_
  exact endP_ret hr.log rfl rfl
end Go.A.Pk
end
section
set_option maxRecDepth 100000
namespace Go.A.Pk
variable {T:Nat→Option AFunc}
def ceN(n:Nat):Ce:=⟨(n % 8:Nat),(n / 8 % 8:Nat),(n / 64:Nat)⟩
def ceS(l:List Ce):List Value:=l.flatMap ceL
theorem ceS_app(a b:List Ce):ceS (a++b)=ceS a++ceS b:=by simp[ceS]
def cellsTo(s:List Nat)(n:Nat):List Ce:=((List.range n).map ceN).filter (sHas s)
theorem cellsTo_step(s:List Nat)(n:Nat):cellsTo s (n+1)=cellsTo s n++(if sHas s (ceN n)then [ceN n]else []):=by
 unfold cellsTo
 rw[List.range_succ,List.map_append,List.filter_append]
 congr 1
 simp only[List.map_cons,List.map_nil,List.filter_cons,List.filter_nil]
theorem cellsTo_le(s:List Nat)(n:Nat):(cellsTo s n).length≤n:=by
 unfold cellsTo
 exact Nat.le_trans (List.length_filter_le ..) (by simp)
structure FnsCr (T:Nat→Option AFunc):Prop where
 hr:FnsHr T
 f170:T 170=some f170
set_option maxHeartbeats 8000000 in
theorem cells170(F:FnsCr T){h:Heap}(hr:Rdy h){s:List Nat}(hs:IsS s):Al T 170 [sv s] h fun v h'=>Own h.next h' 3 v (cellsTo s 512).length (ceS (cellsTo s 512)):=by
 refine .of F.hr.p F.f170 hr ?_ ?_
 ·intro v h1 hv q
  generalize(cellsTo s 512).length=m at q⊢
  generalize ceS (cellsTo s 512)=cs at q⊢
  cases q with
  |nil=>exact .nil
  |full=>cases hv
 have k8:=us_llen hs.len
 have k9:=us_take8 hs.len
 have g0:(h.push (.cells (cellsOf (sv s)) true 1)).get h.next=some (.cells (us s) true 1):=z3 h _
 have x0:Ext h (h.push (.cells (cellsOf (sv s)) true 1)):=(Ext.refl h).push _
 have n0:(h.push (.cells (cellsOf (sv s)) true 1)).next=h.next+1:=rfl
 refine y4 ?_;refine yB ?_;refine yM ?_;refine y3 ?_
 generalize(h.push (.cells (cellsOf (sv s)) true 1))=H at*
 refine y4 ?_;refine yM ?_;refine y3 ?_;refine wE_seq ?_;refine y4 ?_;refine yM ?_;refine y3 ?_;refine wE_block ?_
 let J:=fun(n:Nat) (v:Value) (h':Heap)=>Ext h h'∧h.next<h'.next∧h'.get h.next=some (.cells (us s) true 1)∧Own (h.next+1) h' 3 v (cellsTo s n).length (ceS (cellsTo s n))
 refine wE_loop (fun m e ds h'=>∃(z:Nat) (v:Value),z≤8∧m=8-z∧e=[(1, .pointer (some ⟨h.next,0,none⟩)),(3,v),(4, .int .i64 (z:Nat))]∧ds=[]∧J (z*64) v h')
  ⟨0,_,by omega,rfl,rfl,rfl,x0,by omega,g0, .nil⟩ ?_
 rintro m e ds H1 ⟨z,v,hz8,rfl,rfl,rfl,j1⟩
 by_cases hz:z<8
 ·refine wE_seq ?_;refine y4 ?_;refine yM ?_;refine yt ?_;refine y3 ?_;refine yY ?_;refine wE_skip ?_;refine kS_n ?_
  refine wE_seq ?_;refine wE_block ?_;refine y4 ?_;refine yM ?_;refine y3 ?_;refine wE_block ?_
  refine wE_loop (fun m e ds h'=>∃(y:Nat) (v:Value),y≤8∧m=8-y∧e=[(1, .pointer (some ⟨h.next,0,none⟩)),(3,v),(4, .int .i64 (z:Nat)),(5, .int .i64 (y:Nat))]∧ds=[]∧J (z*64+y*8) v h')
   ⟨0,v,by omega,rfl,rfl,rfl,j1⟩ ?_
  rintro m e ds H2 ⟨y,v,hy8,rfl,rfl,rfl,j2⟩
  clear j1
  by_cases hy:y<8
  ·refine wE_seq ?_;refine y4 ?_;refine yM ?_;refine yt ?_;refine y3 ?_;refine yY ?_;refine wE_skip ?_;refine kS_n ?_
   refine wE_seq ?_;refine wE_block ?_;refine y4 ?_;refine yM ?_;refine y3 ?_;refine wE_block ?_
   refine wE_loop (fun m e ds h'=>∃(x:Nat) (v:Value),x≤8∧m=8-x∧e=[(1, .pointer (some ⟨h.next,0,none⟩)),(3,v),(4, .int .i64 (z:Nat)),(5, .int .i64 (y:Nat)),(6, .int .i64 (x:Nat))]∧ds=[]∧J (z*64+y*8+x) v h')
    ⟨0,v,by omega,rfl,rfl,rfl,j2⟩ ?_
   rintro m e ds H3 ⟨x,v,hx8,rfl,rfl,rfl,j3⟩
   clear j2
   by_cases hx:x<8
   ·obtain⟨x3,n3,g3,ow⟩:=j3
    refine wE_seq ?_;refine y4 ?_;refine yM ?_;refine yt ?_;refine y3 ?_;refine yY ?_;refine wE_skip ?_;refine kS_n ?_
    refine wE_seq ?_;refine wE_block ?_
    refine wE_cutP (E0:=[(1, .pointer (some ⟨h.next,0,none⟩)),(3,v),(4, .int .i64 (z:Nat)),(5, .int .i64 (y:Nat)),(6, .int .i64 (x:Nat)),(7, .pointer (some ⟨H3.next,0,none⟩))]) (P:=fun h'=>Ext H3 h'∧h'.next=H3.next+1∧h'.get H3.next=some (.cells (ceL ⟨(x:Nat),(y:Nat),(z:Nat)⟩) true 1)) ?_ ?_
    ·refine wE_region ?_;refine yM ?_;refine yM ?_;refine yM ?_;refine wO_val (a_build (by exact rfl)) ?_;refine wO_val (a_new) ?_
     refine yS ?_;refine wO_nil ?_
     refine y1 ?_
     exact⟨rfl,rfl,rfl,ext_pw (by omega) _ _,rfl,get_pw _ _⟩
    rintro H4 ⟨x4,n4,g4⟩
    have hce:ceN (z*64+y*8+x)=⟨(x:Nat),(y:Nat),(z:Nat)⟩:=by
     unfold ceN
     rw[show(z*64+y*8+x) % 8=x by omega,show(z*64+y*8+x) / 8 % 8=y by omega,show(z*64+y*8+x) / 64=z by omega]
    have hst:=cellsTo_step s (z*64+y*8+x)
    rw[hce]at hst
    have hle:=cellsTo_le s (z*64+y*8+x)
    have ey0':=x3.trans x4
    have W4:=ey0'.wf hr.wf
    have g5:=(x4.old _ n3).trans g3
    have ow5:=ow.ext x4
    generalize hce2:(⟨(x:Nat),(y:Nat),(z:Nat)⟩:Ce)=ce at*
    have C:=has171 F.hr (.of W4) hs ce
    have ck:ltake 3 (ldrop 0 (ceL ce))=ceL ce:=rfl
    have ckl:Nat.beq (llen (ceL ce)) 3=true:=rfl
    clear g3 ow
    refine y4 ?_;refine wO_val (a_loadN (by exact rfl) (by assumption) (by assumption) (by assumption)) ?_;refine yN ?_
    refine yC ?_
    refine FW.pu C ?_
    clear C
    cases hb:sHas s ce with
    |false=>
     rw[hb,if_neg (by simp),List.append_nil]at hst
     refine y3 ?_;refine yX ?_;refine wE_skip ?_;refine kB_n ?_;refine kS_n ?_;refine wE_region ?_;refine yM ?_;refine yinc ?_
     refine yM ?_;refine y3 ?_
     refine⟨8-(x+1),by omega,x+1,v,by omega,rfl,rfl,rfl,ey0',by omega,g5,?_⟩
     show Own _ _ _ _ (cellsTo s (z*64+y*8+x+1)).length (ceS (cellsTo s (z*64+y*8+x+1)))
     rw[hst];exact ow5
    |true=>
     rw[hb,if_pos rfl]at hst
     refine y3 ?_;refine yY ?_;refine wE_region ?_;refine yM ?_;refine yN ?_;refine wO_val (a_bslice (by exact rfl) (by exact rfl)) ?_
     refine wO_app1 (lo:=h.next+1) (sz:=3) (v:=v) (c1:=ceL ce) (ow5.ext ((Ext.refl H4).push _)) (by omega) (by omega) (by omega) (by show h.next+1≤H4.next+1;omega) (by omega) (by exact rfl) (by exact rfl) (src_slice (cs:=ceL ce) (by(simp(disch:=first|omega|(simp only[z1,z2];omega))only[z3,z4,z5,z6,z7,z1,z2,g0,g5,g4];exact rfl)) rfl rfl) rfl rfl ?_
     intro v' h5 o5 x5
     have ey5:Lx (h.next+1) H4 h5:=((Lx.refl (h.next+1) H4).push (by omega) _).trans x5
     have n5:=ey5.next
     refine yM ?_;refine wO_nil ?_;refine y1 ?_;refine kB_n ?_;refine kS_n ?_;refine wE_region ?_;refine yM ?_;refine yinc ?_;refine yM ?_;refine y3 ?_
     refine⟨8-(x+1),by omega,x+1,v',by omega,rfl,rfl,rfl,⟨Nat.le_trans ey0'.next n5,ey5.log.trans ey0'.log,fun b hb=>(ey5.old b (by omega)).trans (ey0'.old b hb),fun w=>ey5.wf (ey0'.wf w)⟩,by omega,(ey5.old _ (by omega)).trans g5,?_⟩
     show Own _ _ _ _ (cellsTo s (z*64+y*8+x+1)).length (ceS (cellsTo s (z*64+y*8+x+1)))
     rw[hst,List.length_append,ceS_app]
     have e:ceS [ce]=ceL ce:=by simp[ceS]
     rw[e];exact o5
   ·obtain rfl:x=8:=by omega
    refine wE_seq ?_;refine y4 ?_;refine yM ?_;refine yf ?_;refine y3 ?_;refine yX ?_;refine wE_exit ?_;refine kS_e ?_
    refine kS_e ?_;refine kB_e ?_;refine kB_n ?_;refine kS_n ?_;refine wE_region ?_;refine yM ?_;refine yinc ?_;refine yM ?_;refine y3 ?_
    refine⟨8-(y+1),by omega,y+1,v,by omega,rfl,rfl,rfl,?_⟩
    rw[show z*64+(y+1)*8=z*64+y*8+8 by omega];exact j3
  ·obtain rfl:y=8:=by omega
   refine wE_seq ?_;refine y4 ?_;refine yM ?_;refine yf ?_;refine y3 ?_;refine yX ?_;refine wE_exit ?_;refine kS_e ?_
   refine kS_e ?_;refine kB_e ?_;refine kB_n ?_;refine kS_n ?_;refine wE_region ?_;refine yM ?_;refine yinc ?_;refine yM ?_;refine y3 ?_
   refine⟨8-(z+1),by omega,z+1,v,by omega,rfl,rfl,rfl,?_⟩
   rw[show(z+1)*64=z*64+8*8 by omega];exact j2
 ·obtain rfl:z=8:=by omega
  obtain⟨x1,n1,g1,ow⟩:=j1
  refine wE_seq ?_;refine y4 ?_;refine yM ?_;refine yf ?_;refine y3 ?_;refine yX ?_;refine wE_exit ?_;refine kS_e ?_
  refine kS_e ?_;refine kB_e ?_;refine kS_n ?_;refine y4 ?_;refine yM ?_;refine yM ?_;refine y3 ?_;refine wE_ret ?_
  exact endA_ret (x1.log.trans hr.log) rfl (ow.low (Nat.le_succ _))
end Go.A.Pk
end
section
set_option maxRecDepth 100000
namespace Go.A.Pk
def planeC(s:List Nat)(z:Nat):List Ce:=(bitsOf (s.getD z 0)).map (ceOf z)
theorem ceN_of{z i:Nat}(hi:i<64):ceN (z*64+i)=ceOf z i:=by
 unfold ceN ceOf
 rw[show(z*64+i) % 8=i % 8 by omega,show(z*64+i) / 8 % 8=i / 8 by omega,show(z*64+i) / 64=z by omega]
theorem cellsTo_plane(s:List Nat){z:Nat}(hz:z<8):cellsTo s ((z+1)*64)=cellsTo s (z*64)++planeC s z:=by
 unfold cellsTo planeC bitsOf
 rw[show(z+1)*64=z*64+64 by omega,List.range_add,List.map_append,List.filter_append]
 congr 1
 rw[List.map_map,List.filter_map]
 have e1:(List.range 64).filter (sHas s ∘ (ceN ∘ fun x=>z*64+x))=(List.range 64).filter (Nat.testBit (s.getD z 0)):=by
  apply List.filter_congr
  intro i hi
  have hi:=List.mem_range.1 hi
  show sHas s (ceN (z*64+i))=_
  rw[ceN_of hi,sHas_of hz hi]
 rw[e1]
 apply List.map_congr_left
 intro i hi
 have hi:=List.mem_range.1 (List.mem_filter.1 hi).1
 exact ceN_of hi
end Go.A.Pk
end
section
set_option maxRecDepth 100000
namespace Go.A.Pk
theorem getD_zip{f:Nat→Nat→Nat}{a b:List Nat}(ha:IsS a)(hb:IsS b){z:Nat}(hz:z<8):(List.zipWith f a b).getD z 0=f (a.getD z 0) (b.getD z 0):=by
 have e1:=getD_at (s:=a) (i:=z) (by rw[ha.len];exact hz)
 have e2:=getD_at (s:=b) (i:=z) (by rw[hb.len];exact hz)
 rw[List.getD_eq_getElem?_getD,List.getElem?_zipWith,e1,e2];rfl
theorem sHas_out{s:List Nat}{c:Ce}(hc:¬inG c=true):sHas s c=false:=by
 unfold sHas
 rw[Bool.not_eq_true]at hc
 rw[hc];rfl
theorem sHas_join{a b:List Nat}(ha:IsS a)(hb:IsS b)(c:Ce):sHas (sJoin a b) c=(sHas a c||sHas b c):=by
 by_cases hc:inG c=true
 ·obtain⟨z,i,hz,hi,rfl⟩:=inG_form hc
  rw[sHas_of hz hi,sHas_of hz hi,sHas_of hz hi]
  unfold sJoin sMap
  rw[getD_zip ha hb hz]
  exact Nat.testBit_or ..
 ·rw[sHas_out hc,sHas_out hc,sHas_out hc];rfl
theorem sHas_less{a b:List Nat}(ha:IsS a)(hb:IsS b)(c:Ce):sHas (sLess a b) c=(sHas a c&& !sHas b c):=by
 by_cases hc:inG c=true
 ·obtain⟨z,i,hz,hi,rfl⟩:=inG_form hc
  rw[sHas_of hz hi,sHas_of hz hi,sHas_of hz hi]
  unfold sLess sMap
  rw[getD_zip ha hb hz]
  simp only[aNot]
  show Nat.testBit (a.getD z 0 ^^^ (a.getD z 0&&&b.getD z 0)) i=_
  rw[Nat.testBit_xor,Nat.testBit_and]
  cases (a.getD z 0).testBit i<;>cases (b.getD z 0).testBit i<;>rfl
 ·rw[sHas_out hc,sHas_out hc];rfl
theorem sHas_s0(c:Ce):sHas s0 c=false:=by
 by_cases hc:inG c=true
 ·obtain⟨z,i,hz,hi,rfl⟩:=inG_form hc
  rw[sHas_of hz hi]
  have:∀z:Fin 8,s0.getD z.val 0=0:=by decide
  rw[this ⟨z,hz⟩]
  exact Nat.zero_testBit i
 ·exact sHas_out hc
theorem fold_has(c:Ce):∀(l:List Rd) (w:List Nat×List Nat),IsW w→(∀r∈l,IsR r)→
 sHas (l.foldl seeR w).1 c=(sHas w.1 c||l.any fun r=>decide (r.kind=1)&&sHas r.cells c)∧
 sHas (l.foldl seeR w).2 c=(sHas w.2 c&& !l.any fun r=> !decide (r.kind=1)&&sHas r.cells c)
 |[],w,_,_=>⟨by simp,by simp⟩
 |r::l,w,hw,hl=>by
  have hr:=hl r List.mem_cons_self
  obtain⟨e1,e2⟩:=fold_has c l (seeR w r) (hw.see hr) fun x hx=>hl x (List.mem_cons_of_mem _ hx)
  rw[List.foldl_cons,e1,e2,List.any_cons,List.any_cons]
  unfold seeR
  by_cases hk:r.kind=1
  ·rw[if_pos hk,decide_eq_true hk]
   dsimp only
   rw[sHas_join hw.a hr.cells]
   constructor
   ·cases sHas w.1 c<;>cases sHas r.cells c<;>rfl
   ·cases sHas w.2 c<;>rfl
  ·rw[if_neg hk,decide_eq_false hk]
   dsimp only
   rw[sHas_less hw.b hr.cells]
   constructor
   ·cases sHas w.1 c<;>rfl
   ·cases sHas w.2 c<;>cases sHas r.cells c<;>rfl
theorem seen_has{bl:List Nat}(hb:IsS bl){l:List Rd}(hl:∀r∈l,IsR r)(c:Ce):
 sHas (seenW bl l).1 c=(l.any fun r=>decide (r.kind=1)&&sHas r.cells c)∧
 sHas (seenW bl l).2 c=(sHas bl c&& !l.any fun r=> !decide (r.kind=1)&&sHas r.cells c):=by
 obtain⟨e1,e2⟩:=fold_has c l (s0,bl) ⟨s0_ok,hb⟩ hl
 refine⟨e1.trans ?_,e2⟩
 rw[sHas_s0];rfl
theorem mem_cells{s:List Nat}{n:Nat}{c:Ce}(h:c∈cellsTo s n):sHas s c=true:=(List.mem_filter.1 h).2
theorem refR_ck{l:List Rd}{r:Rd}(h:refR l r=0):ckOk r=true:=by
 unfold refR at h
 split at h
 ·cases h
 ·split at h
  ·cases h
  ·rename_i _ h2
   unfold ckR at h2
   cases hk:ckOk r with
   |true=>rfl
   |false=>rw[hk]at h2;simp at h2
theorem chkF_all{l:List Rd}:∀m i,i+m=l.length→(chkF refR l m i).2=0→∀j r,i≤j→l[j]? =some r→refR (l.take j) r=0
 |0,i,hi,_,j,r,hj,hr=>by
  have:=(List.getElem?_eq_some_iff.1 hr).1
  omega
 |m+1,i,hi,h,j,r,hj,hr=>by
  have hlt:i<l.length:=by omega
  have e3:l[i]? =some l[i]:=List.getElem?_eq_getElem hlt
  rw[chkF,e3]at h
  dsimp only at h
  by_cases hz:refR (l.take i) l[i]=0
  ·rw[if_neg (fun q=>q hz)]at h
   rcases Nat.lt_or_ge i j with hij|hij
   ·exact chkF_all m (i+1) (by omega) h j r hij hr
   ·obtain rfl:i=j:=by omega
    rw[e3]at hr;cases hr;exact hz
  ·rw[if_pos hz]at h
   exact(hz h).elim
theorem chk_all{l:List Rd}(h:(chkR refR l).2=0){j:Nat}{r:Rd}(hr:l[j]? =some r):refR (l.take j) r=0:=
 chkF_all l.length 0 (by omega) h j r (Nat.zero_le _) hr
theorem chk_kind{l:List Rd}(h:(chkR refR l).2=0){r:Rd}(hr:r∈l):r.kind=1∨r.kind=2∨r.kind=3:=by
 obtain⟨j,hj⟩:=List.getElem?_of_mem hr
 have:=refR_ck (chk_all h hj)
 unfold ckOk at this
 by_cases h1:r.kind=1
 ·exact .inl h1
 ·by_cases h2:r.kind=2
  ·exact .inr (.inl h2)
  ·by_cases h3:r.kind=3
   ·exact .inr (.inr h3)
   ·simp[h1,h2,h3]at this
def firstI(k:Nat)(c:Ce)(l:List Rd):Int:=(havR k c l).headD 0
theorem firstI_cons(k:Nat)(c:Ce)(r:Rd)(l:List Rd):firstI k c (r::l)=if havQ k c r then r.id else firstI k c l:=by
 unfold firstI havR
 rw[List.filter_cons]
 cases havQ k c r<;>rfl
theorem havR_ne{k:Nat}{c:Ce}{l:List Rd}{r:Rd}(hr:r∈l)(hq:havQ k c r=true):∃y,havR k c l=firstI k c l::y:=by
 unfold firstI
 cases h:havR k c l with
 |cons x y=>exact⟨y,rfl⟩
 |nil=>
  unfold havR at h
  rw[List.map_eq_nil_iff,List.filter_eq_nil_iff]at h
  exact absurd hq (h r hr)
structure Dou where
 c:Ce
 ids:List Int
 is:Bool
 e:Int
def c0:Ce:=⟨0,0,0⟩
def inDoubt(bl:List Nat)(r:List Rd):List Ce:=cellsTo (sLess (seenW bl r).1 (seenW bl r).2) 512
def douI(bl:List Nat)(r:List Rd)(c:Ce):List Int:=firstI 1 c r::if sHas bl c then [firstI 2 c r]else []
def douS(bl:List Nat)(r:List Rd):List Ce→Dou
 |[]=>⟨c0,[],false,0⟩
 |c::_=>⟨c,douI bl r c,true,0⟩
def douR(bl:List Nat)(l:List Rd)(day:Int):Dou:=
 if(chkR refR l).2≠0 then⟨c0,[],false,(chkR refR l).2⟩else douS bl (cntR day l) (inDoubt bl (cntR day l))
theorem dou_seen{bl:List Nat}(hb:IsS bl){r:List Rd}(hl:∀x∈r,IsR x){c:Ce}(hc:c∈inDoubt bl r):∃y,havR 1 c r=firstI 1 c r::y:=by
 have hw:=seenW_ok hb hl
 have h:=mem_cells hc
 rw[sHas_less hw.a hw.b,(seen_has hb hl c).1,Bool.and_eq_true,List.any_eq_true]at h
 obtain⟨⟨x,hx,q⟩,_⟩:=h
 rw[Bool.and_eq_true]at q
 exact havR_ne hx (by unfold havQ;rw[q.1,q.2];rfl)
theorem dou_bare{bl:List Nat}(hb:IsS bl){r:List Rd}(hl:∀x∈r,IsR x)(hk:∀x∈r,x.kind=1∨x.kind=2){c:Ce}(hc:c∈inDoubt bl r)(hs:sHas bl c=true):∃y,havR 2 c r=firstI 2 c r::y:=by
 have hw:=seenW_ok hb hl
 have h:=mem_cells hc
 rw[sHas_less hw.a hw.b,(seen_has hb hl c).2,hs,Bool.and_eq_true]at h
 obtain⟨_,h⟩:=h
 rw[Bool.true_and,Bool.not_not,List.any_eq_true]at h
 obtain⟨x,hx,q⟩:=h
 rw[Bool.and_eq_true]at q
 have h2:x.kind=2:=by
  rcases hk x hx with h1|h2
  ·rw[decide_eq_true h1]at q;cases q.1
  ·exact h2
 exact havR_ne hx (by unfold havQ;rw[decide_eq_true h2,q.2];rfl)
theorem cnt_kind{l:List Rd}(h:(chkR refR l).2=0){day:Int}{x:Rd}(hx:x∈cntR day l):x.kind=1∨x.kind=2:=by
 obtain⟨hm,hq⟩:=List.mem_filter.1 hx
 rcases chk_kind h hm with h1|h1|h1
 ·exact .inl h1
 ·exact .inr h1
 ·unfold cntQ at hq
  simp[h1]at hq
theorem inDoubt_lt{bl:List Nat}{r:List Rd}:(inDoubt bl r).length≤512:=cellsTo_le _ _
def DouQ(p:Dou)(v:Value)(h:Heap):Prop:=∃u,v= .tuple #[ceV p.c,u, .bool p.is, .int .i64 p.e]∧InS h u p.ids
theorem DouQ.flat{p:Dou}{v:Value}{h h':Heap}(hv:noRef v=true)(q:DouQ p v h):DouQ p v h':=by
 obtain⟨u,rfl,s⟩:=q
 refine⟨u,rfl,?_⟩
 rcases SliceOf.inv s with⟨c',rfl,h0,e1⟩|⟨b,o,cap',rfl,s1,hc⟩
 ·show SliceOf _ _ _ _ _
  rw[h0,e1];exact .nil
 ·simp[noRef,flatL,scalL,ceV,flat]at hv
  cases hv.2.1
theorem InS.nil{h:Heap}{c:Nat}:InS h (.slice none 0 c) []:=SliceOf.nil
theorem DouQ.none{h:Heap}(p:Dou)(hi:p.ids=[]){c:Nat}:DouQ p (.tuple #[ceV p.c, .slice none 0 c, .bool p.is, .int .i64 p.e]) h:=⟨_,rfl,by rw[hi];exact .nil⟩
end Go.A.Pk
end
section
set_option maxRecDepth 100000
namespace Go.A.Pk
variable {T:Nat→Option AFunc}
section
open I
def asg264:ACode:=I.R [g 5 (.new [O,O,O]),S 3 5 7] [2,5]
def bod264:ACode:= .block 1 (I.R [L 8 2,N 9 3 5,g 10 (.bslice [O,O,O] 1 [(0,3,(t 9))]),g 11 (.append 3 24 (t 8) (t 10)),S 1 2 11] [])
end
theorem WE.genC{base:Nat}{rnd:Option Nat}{c:ACode}{Q:XQ}{e:Env}{ds:Dfs}{h:Heap}(hK:∀hA,hA=h→WE T base rnd c Q e ds hA):WE T base rnd c Q e ds h:=hK h rfl
theorem wO_app1w{base:Nat}{rnd:Option Nat}{Q:XQ}{e:Env}{ds:Dfs}{h:Heap}{lo sz bytes n:Nat}{dst:Option Nat}{os:List AOper}{x y:Operand}{v u:Value}{cs c1:List Value}(s:Own lo h sz v n cs)(hn:n<1000000)(hsz:0<sz)(hb:bytes≤100000)
 (hx:ev h e x=some v)(hy:ev h e y=some u)(hs:srcCells h sz u=some (c1,1))(hl1:c1.length=sz)(h1:ones c1=true)
 (hK:∀h',Own h.next h' sz (.slice (some ⟨h.next,0,none⟩) (n+1) UNK) (n+1) (cs++c1)→h'.next=h.next+1→(∀z∈h'.log,lo≤z∨z∈h.log)→(WF h→WF h')→(∀z,z<h.next→z<lo→h'.get z=h.get z)→WO T base rnd Q os (dstE e dst (.slice (some ⟨h.next,0,none⟩) (n+1) UNK)) ds h'):WO T base rnd Q (⟨dst, .append sz bytes x y,none⟩::os) e ds h:=by
 have hbd:(2*(n+1)+768)*bytes≤281474976710656:=by
  have:(2*(n+1)+768)*bytes≤2000768*100000:=Nat.mul_le_mul (by omega) hb
  omega
 cases s with
 |nil=>
  refine wO_val (a_app_nil (n:=1) hx hy hs (by omega) (by simpa using hbd) rfl) ?_
  exact hK _ (Own.full (lo:=h.next) (h:=h.push (.cells c1 true sz)) (sz:=sz) (q:=h.next) (n:=1) (cs:=c1) (Nat.le_refl _) (Nat.lt_succ_self _) (z3 _ _) (by omega) (by omega)) rfl (fun z hz=> .inr hz) (fun w=>w.push _) (fun z hz _=>z4 hz)
 | @full q _ _ q1 q2 q3 q4 q5=>
   refine wO_val (a_app_open (n:=1) (vs:=cs) (ws:=cs++c1) hx hy hs (by omega) q3 q4 hsz h1 hbd (lcat_eq _ _)) ?_
   exact hK _ (.full (Nat.le_refl _) (Nat.lt_succ_self _) (z3 _ _) (by rw[List.length_append,q4,hl1,Nat.add_mul,Nat.one_mul]) (by omega)) rfl (fun z hz=>by
    rcases wr_log_old (b:=q) (o:= .dead) hz with rfl|hz
    ·exact .inl q1
    ·exact .inr hz) (fun w=>(w.as (AS.wr base _ q .dead)).push _) (fun z hz hne=>(z4 (by exact hz)).trans (z5 (by omega)))
set_option maxHeartbeats 8000000 in
theorem cell_round(hp:primAS T){H:Heap}(hr:Rdy H){q l lo lo2:Nat}{fv v:Value}{cs:List Ce}{c:Ce}(hm:cs.length<1000000)(hlo:lo≤q)
 (gl:H.get l=some (.loop [(2, .pointer (some ⟨q,0,none⟩)),(6,fv)] [7] asg264 bod264 0 .normal))
 (go:H.get q=some (.cells [v] true 1))(own:Own lo2 H 3 v cs.length (ceS cs))(hlo2:lo≤lo2)(hq2:q<lo2)(hl2:l<lo2)(h2n:lo2≤H.next):
 FW T (.yield l) [ceV c] H fun r H'=>r= .ret (.bool true)∧(∀z∈H'.log,lo≤z)∧q∈H'.log∧∃v',H'.get q=some (.cells [v'] true 1)∧scalL [v']=false∧Own lo2 H' 3 v' (cs++[c]).length (ceS (cs++[c]))∧(∀z,z<lo2→z≠q→H'.get z=H.get z)∧WF H'∧H.next≤H'.next:=by
 have no:q≠l:=fun e=>by subst e;rw[go]at gl;cases gl
 have ko:=hr.wf.get_lt go
 have kl:=hr.wf.get_lt gl
 refine FW.yieldK hp (q:=q) (R:=fun H'=>∃v',H'.get q=some (.cells [v'] true 1)∧scalL [v']=false∧Own lo2 H' 3 v' (cs++[c]).length (ceS (cs++[c]))∧(∀z,z<lo2→z≠q→H'.get z=H.get z)∧WF H'∧H.next≤H'.next) gl rfl kl ko no ?_
 unfold asg264
 refine wE_region ?_;refine wO_val (a_new) ?_;refine yS ?_;refine wO_nil ?_
 refine y1 ?_
 refine⟨rfl,by(simp(disch:=first|omega|(simp only[z1,z2];omega))only[z3,z4,z5,z6,z7,z1,z2,gl,go];exact rfl),?_⟩
 unfold bod264
 refine wE_block ?_
 refine WE.genC ?_
 intro hA hAe
 have A1:∀z,z<H.next→z≠l→H.get z=hA.get z:=fun z hz hne=>by rw[hAe];symm;simp(disch:=first|omega|(simp only[z1,z2];omega))only[z5,z4]
 have A3:hA.get H.next=some (.cells (ceL c) true 1):=by rw[hAe];(simp(disch:=first|omega|(simp only[z1,z2];omega))only[z3,z4,z5,z6,z7,z1,z2,gl,go];exact rfl)
 have A2:hA.get l=some (.loop [(2, .pointer (some ⟨q,0,none⟩)),(6,fv)] [7] asg264 bod264 1 .normal):=by rw[hAe];(simp(disch:=first|omega|(simp only[z1,z2];omega))only[z3,z4,z5,z6,z7,z1,z2,gl,go,A3];exact rfl)
 have A5:hA.next=H.next+1:=by rw[hAe];rfl
 have A6:hA.log=[]:=by rw[hAe];simp(disch:=first|omega|(simp only[z1,z2];omega))only[Heap.log_wr_new,Heap.log_push];exact hr.log
 have A7:WF hA:=by rw[hAe];exact(((hr.wf.push _).as (AS.wr _ _ _ _)).as (AS.wr _ _ _ _))
 clear hAe
 have Bo:=(A1 q ko no).symm.trans go
 have ck:ltake 3 (ldrop 0 (ceL c))=ceL c:=rfl
 have ckl:Nat.beq (llen (ceL c)) 3=true:=rfl
 have ownA:Own lo2 hA 3 v cs.length (ceS cs):=own.keep (by omega) fun z hz hz2=>(A1 z hz2 (by omega)).symm
 clear go
 refine wE_region ?_;refine yL ?_;refine yN ?_;refine wO_val (a_bslice (by exact rfl) (by exact rfl)) ?_
 refine wO_app1w (lo:=lo2) (c1:=ceL c) (ownA.ext ((Ext.refl hA).push _)) hm (by omega) (by omega) (by exact rfl) (by exact rfl) (src_slice (cs:=ceL c) (by(simp(disch:=first|omega|(simp only[z1,z2];omega))only[z3,z4,z5,z6,z7,z1,z2,gl,A3,A2,Bo];exact rfl)) rfl rfl) rfl rfl ?_
 intro h3 own3 n3 l3 w3 o3
 have own3:Own (H.next+2) h3 3 (.slice (some ⟨H.next+2,0,none⟩) (cs.length+1) UNK) (cs.length+1) (ceS cs++ceL c):=by
  have e:(hA.push (.cells (ceL c) true 3)).next=H.next+2:=by show hA.next+1=_;omega
  rw[←e];exact own3
 have n3:h3.next=H.next+3:=by rw[n3];show hA.next+1+1=_;omega
 have l3:∀z∈h3.log,lo2≤z:=fun z hz=>(l3 z hz).elim id fun e=>by
  have e:z∈hA.log:=e
  rw[A6]at e;cases e
 have o3:∀z,z<lo2→h3.get z=hA.get z:=fun z hz=>(o3 z (by show z<hA.next+1;omega) hz).trans (z4 (by omega))
 have W3:WF h3:=w3 (A7.push _)
 have e5:∀o,(hA.push o).next=H.next+2:=fun o=>by show hA.next+1=_;omega
 rw[e5]
 have Co:=(o3 q (by omega)).trans Bo
 have Cl:=(o3 l (by omega)).trans A2
 have hce:ceS (cs++[c])=ceS cs++ceL c:=by rw[ceS_app,show ceS [c]=ceL c by simp[ceS]]
 have hcl:(cs++[c]).length=cs.length+1:=by simp
 clear Bo A3 A2
 refine yS ?_;refine wO_nil ?_;refine y1 ?_;refine kB_n ?_
 refine⟨rfl,⟨_,by(simp(disch:=first|omega|(simp only[z1,z2];omega))only[z3,z4,z5,z6,z7,z1,z2,gl,Co,Cl];exact rfl),rfl⟩,fun z hz=> ?_,wr_log_has (by omega),⟨_,_,_,Heap.get_wr_new Co,rfl⟩, .slice (some ⟨H.next+2,0,none⟩) (cs.length+1) UNK,(z5 no).trans (Heap.get_wr_new Co),rfl,?_,fun z hz h1=> ?_,?_,?_⟩
 ·rcases wr_log_old hz with rfl|hz
  ·exact hlo
  ·exact Nat.le_trans hlo2 (l3 z hz)
 ·rw[hce,hcl]
  exact Own.low (lo:=H.next+2) (Own.keep own3 (Nat.le_refl _) fun z hz _=>(z5 (by omega)).trans (z5 (by omega))) (by omega)
 ·by_cases hl:z=l
  ·subst hl
   rw[gl]
   exact Heap.get_wr_new ((z5 (Ne.symm no)).trans Cl)
  ·exact(z5 hl).trans ((z5 h1).trans ((o3 z hz).trans (A1 z (by omega) hl).symm))
 ·exact(W3.as (AS.wr _ _ _ _)).as (AS.wr _ _ _ _)
 ·show H.next≤h3.next
  omega
theorem cells_pre(s:List Nat){n:Nat}:∀m,∃r,cellsTo s (n+m)=cellsTo s n++r
 |0=>⟨[],by simp⟩
 |m+1=>by
  obtain⟨r,e⟩:=cells_pre s (n:=n) m
  exact⟨r++(if sHas s (ceN (n+m))then [ceN (n+m)]else []),by rw[←Nat.add_assoc,cellsTo_step,e,List.append_assoc]⟩
structure FnsCp (T:Nat→Option AFunc):Prop where
 p:primAS T
 f123:T 123=some f123
 f213:T 213=some f213
 f214:T 214=some f214
 f264:T 264=some f264
 f265:T 265=some f265
 f266:T 266=some f266
set_option maxHeartbeats 8000000 in
theorem cells265(F:FnsCp T){h:Heap}(hr:Rdy h){q0 l N lo:Nat}{s:List Nat}(hs:IsS s){P:List Ce→Heap→Prop}(hN:N≤h.next)(hlo:lo≤h.next){q:Nat}(Y:YldK T lo N l q ceV (cellsTo s 512) P)
 (g0:h.get q0=some (.cells (us s) true 1))(htab:∀d H,P d H→Tab H)(h0:P [] h):
 Gr T 265 [.func (.yield l) #[] #[], .pointer (some ⟨q0,0,none⟩)] h lo fun v h'=>v= .tuple #[]∧P (cellsTo s 512) h':=by
 have hqn:q<h.next:=Nat.lt_of_lt_of_le Y.hq hN
 have hp:=F.p
 have k8:=us_llen hs.len
 have k9:=us_take8 hs.len
 refine Gr.ofK hp F.f265 hlo (fun v h1 hA p=>kept_gc Y hqn hA hr.log p) ?_
 refine y4 ?_;refine wO_val (a_loadN (by exact rfl) (by assumption) (by assumption) (by assumption)) ?_;refine yM ?_;refine y3 ?_;refine wE_block ?_
 refine wE_loop (fun k e ds h'=>∃z:Nat,z≤8∧8-z=k∧e=[(0, .func (.yield l) #[] #[]),(6,sv s),(7, .int .i64 (z:Nat))]∧ds=[]∧Lk lo h h'∧P (cellsTo s (z*64)) h'∧(h'=h∨q∈h'.log∧Dirty h' q))
  ⟨0,by omega,rfl,rfl,rfl, .refl _ _,h0, .inl rfl⟩ ?_
 rintro k e ds h' ⟨z,hz8,rfl,rfl,rfl,hk,hP,hm⟩
 by_cases hz:z<8
 ·have e1:lget (us s).toArray.toList (z*1)=some (.int .u64 ((s.getD z 0:Nat):Int)):=by
   rw[List.toList_toArray,Nat.mul_one,lget_eq]
   unfold us
   rw[List.getElem?_map,getD_at (by rw[hs.len];exact hz)];rfl
  have hx0:=hs.getD_lt z
  obtain⟨rest,hrest⟩:∃r,cellsTo s 512=cellsTo s (z*64)++planeC s z++r:=by
   obtain⟨r,e⟩:=cells_pre s (n:=(z+1)*64) (512-(z+1)*64)
   rw[show(z+1)*64+(512-(z+1)*64)=512 by omega,cellsTo_plane s hz]at e
   exact⟨r,e⟩
  have hplane:=cellsTo_plane s hz
  have hpl:planeC s z=(bitsOf (s.getD z 0)).map (ceOf z):=rfl
  generalize hx:s.getD z 0=x0 at*
  generalize planeC s z=pl at*
  refine y4 ?_;refine yt ?_;refine y3 ?_;refine wE_seq ?_;refine yY ?_;refine wE_skip ?_;refine kS_n ?_;refine wE_seq ?_;refine wE_block ?_;refine y4 ?_;refine yM ?_;refine wO_val (a_idxA (by exact rfl) (by exact rfl) (by omega) (by assumption)) ?_;refine yM ?_;refine yM ?_;refine y3 ?_;refine wE_block ?_
  refine wE_loop (fun k e ds h''=>∃(x:Nat) (d:List Ce),x<U64∧d++(bitsOf x).map (ceOf z)=pl∧(bitsOf x).length=k∧e=[(0, .func (.yield l) #[] #[]),(3, .int .i64 (z:Nat)),(4, .int .u64 (x:Nat)),(6,sv s),(7, .int .i64 (z:Nat))]∧ds=[]∧Lk lo h h''∧P (cellsTo s (z*64)++d) h''∧(h''=h∨q∈h''.log∧Dirty h'' q))
   ⟨x0,[],hx0,by rw[hpl];rfl,rfl,rfl,rfl,hk,by rw[List.append_nil];exact hP,hm⟩ ?_
  clear hP hk hm h'
  rintro k e ds h' ⟨x,d,hxl,hd,rfl,rfl,rfl,hk,hP,hm⟩
  by_cases hx:x=0
  ·subst hx
   rw[bitsOf_zero]at hd
   have hd:d=pl:=by simpa using hd
   subst hd
   rw[←hplane]at hP
   refine wE_seq ?_;refine y4 ?_;refine yM ?_;refine yf ?_;refine y3 ?_;refine yX ?_;refine wE_exit ?_;refine kS_e ?_
   refine kS_e ?_;refine kB_e ?_;refine kB_n ?_;refine kS_n ?_;refine wE_region ?_;refine yinc ?_;refine yM ?_;refine y3 ?_
   exact⟨8-(z+1),by omega,z+1,by omega,rfl,rfl,rfl,hk,hP,hm⟩
  ·obtain⟨b,m,hform⟩:=odd_form x hx
   have hb64:=(low_and hform hxl).1
   have hstep:=bitsOf_step hform hxl
   have m1:numOp .neq (.int .u64 (x:Nat)) (.int .u64 0)=some (.bool true):=m_neqT (by omega)
   have C:=tz266 F.p F.f266 (h:={h' with log:=[]}) (.of (hk.wf hr.wf)) (show Tab h' from htab _ _ hP) hxl hform
   have m2:numOp .rem (.int .i64 (b:Nat)) (.int .i64 8)=some (.int .i64 ((b % 8:Nat):Int)):=m_rem8
   have m3:numOp .quo (.int .i64 (b:Nat)) (.int .i64 8)=some (.int .i64 ((b / 8:Nat):Int)):=m_quo8 (by omega)
   have m4:numOp .sub (.int .u64 (x:Nat)) (.int .u64 1)=some (.int .u64 ((x-1:Nat):Int)):=m_sub (by rw[show(x:Int)-1=((x-1:Nat):Int)by omega];exact wrapA_u64 (by unfold U64 at hxl;omega))
   have m5:=m_and (a:=x) (b:=x-1) hxl (Nat.lt_of_le_of_lt (Nat.sub_le x 1) hxl)
   rw[hstep]at hd⊢
   have hlt:Nat.land x (x-1)<U64:=land_lt hxl
   generalize Nat.land x (x-1)=x' at*
   rw[List.map_cons]at hd
   have hsp:cellsTo s 512=(cellsTo s (z*64)++d)++ceOf z b::((bitsOf x').map (ceOf z)++rest):=by
    rw[hrest,←hd];simp
   refine wE_seq ?_;refine y4 ?_;refine yM ?_;refine wO_val (a_num (by exact rfl) (by exact rfl) (by with_reducible assumption)) ?_;refine y3 ?_;refine yY ?_;refine wE_skip ?_;refine kS_n ?_
   refine wE_seq ?_;refine wE_block ?_;refine y4 ?_;refine yM ?_
   refine yC ?_
   refine FW.pu C ?_
   clear C
   refine yM ?_;refine y3 ?_;refine y4 ?_;refine yM ?_;refine yM ?_;refine wO_val (a_num (by exact rfl) (by exact rfl) (by with_reducible assumption)) ?_
   refine yM ?_;refine wO_val (a_num (by exact rfl) (by exact rfl) (by with_reducible assumption)) ?_;refine yM ?_;refine wO_val (a_build (by exact rfl)) ?_
   refine wO_call (fn:= .yield l) (args:=[ceV (ceOf z b)]) (by rfl) ?_
   refine Y.call hp hsp (hk.wf hr.wf) (Nat.le_trans hlo hk.next) (Nat.le_trans hN hk.next) hqn hP ?_
   intro h2 hk2 hm2 hP2
   refine yA ?_;refine y3 ?_;refine yX ?_;refine wE_skip ?_;refine kB_n ?_;refine kS_n ?_;refine wE_region ?_;refine yM ?_;refine yM ?_
   refine wO_val (a_num (by exact rfl) (by exact rfl) (by with_reducible assumption)) ?_;refine wO_val (a_num (by exact rfl) (by exact rfl) (by with_reducible assumption)) ?_;refine yM ?_;refine y3 ?_
   exact⟨(bitsOf x').length,by simp,x',d++[ceOf z b],hlt,by rw[←hd];simp,rfl,rfl,rfl,hk.trans hk2,by rw[←List.append_assoc];exact hP2, .inr hm2⟩
 ·obtain rfl:z=8:=by omega
  refine y4 ?_;refine yf ?_;refine y3 ?_;refine wE_seq ?_;refine yX ?_;refine wE_exit ?_;refine kS_e ?_;refine kS_e ?_;refine kB_e ?_
  exact endG_end (hk.log (by rw[hr.log];exact LogGe.nil _)) rfl ⟨rfl,hP,hm⟩
structure PCe (l q:Nat) (H0:Heap) (L:AObj) (done:List Ce) (H:Heap):Prop where
 old:∀z,z<q→H.get z=H0.get z
 loop:H.get l=some L
 nx:l<H.next
 val:∃v,H.get q=some (.cells [v] true 1)∧Own (l+1) H 3 v done.length (ceS done)
theorem PCe.stable{l q:Nat}{H0:Heap}{L:AObj}(hq:q<l)(done:List Ce)(H H':Heap)(p:PCe l q H0 L done H)(hn:H.next≤H'.next)(h:∀x,x<H.next→H'.get x=H.get x):PCe l q H0 L done H':=by
 obtain⟨p1,p2,p3,v,p4,p5⟩:=p
 exact⟨fun z hz=>(h z (by omega)).trans (p1 z hz),(h l p3).trans p2,by omega,v,(h q (by omega)).trans p4,p5.keep hn fun z _ hz=>h z hz⟩
def fnC(q0:Nat):Value:= .func (.func 265) #[] #[.pointer (some ⟨q0,0,none⟩)]
theorem Own.flat{lo lo' sz n:Nat}{h h':Heap}{v:Value}{cs:List Value}(hv:noRef v=true)(s:Own lo h sz v n cs):Own lo' h' sz v n cs:=by
 cases s with
 |nil=>exact .nil
 |full=>cases hv
set_option maxHeartbeats 8000000 in
theorem append264(F:FnsCp T){h:Heap}(hr:Rdy h)(hg:Tab h)(h2:2<h.next){q0:Nat}{s:List Nat}(hs:IsS s)(g0:h.get q0=some (.cells (us s) true 1)):
 Al T 264 [.slice none 0 0,fnC q0] h fun v h'=>Own h.next h' 3 v (cellsTo s 512).length (ceS (cellsTo s 512)):=by
 have hp:=F.p
 refine .of hp F.f264 hr (fun v h1 hv q=>Own.flat hv q) ?_
 have kq:=hr.wf.get_lt g0
 have hl5:=cellsTo_le s 512
 have x1:Ext h (h.push (.cells (cellsOf (Value.slice none 0 0)) true 1)):=(Ext.refl h).push _
 have q1:(h.push (.cells (cellsOf (Value.slice none 0 0)) true 1)).get h.next=some (.cells [.slice none 0 0] true 1):=z3 _ _
 have n1:(h.push (.cells (cellsOf (Value.slice none 0 0)) true 1)).next=h.next+1:=rfl
 refine y4 ?_;refine yB ?_;refine yM ?_;refine y3 ?_
 generalize(h.push (.cells (cellsOf (Value.slice none 0 0)) true 1))=H at*
 have W:=x1.wf hr.wf
 have hL:=x1.log.trans hr.log
 refine wE_seq ?_;refine y4 ?_;refine yM ?_;refine y3 ?_;refine wE_block ?_
 refine wE_rangeK (lo:=h.next) (P:=PCe H.next h.next H (.loop [(2, .pointer (some ⟨h.next,0,none⟩)),(6,fnC q0)] [7] asg264 bod264 0 .normal) (cellsTo s 512)) rfl (by rfl) (by rw[F.f265];rfl) (by omega) (by omega) hL W ?_ (fun H p=>⟨_,_,_,_,p.loop⟩) ?_
 ·have Y:YldK T h.next (H.next+1) H.next h.next ceV (cellsTo s 512) (PCe H.next h.next H (.loop [(2, .pointer (some ⟨h.next,0,none⟩)),(6,fnC q0)] [7] asg264 bod264 0 .normal)):=by
   refine⟨by omega,fun done x rest Hh hsp hrH hN hP=> ?_,PCe.stable (by omega)⟩
   obtain⟨p1,p2,p3,v,p4,p5⟩:=hP
   have hdl:done.length<1000000:=by
    have:=congrArg List.length hsp
    rw[List.length_append]at this
    omega
   refine FW.mono' (cell_round hp hrH (lo:=h.next) (lo2:=H.next+1) (cs:=done) hdl (Nat.le_refl _) p2 p4 p5 (by omega) (by omega) (by omega) hN) ?_
   rintro r' H' ⟨r1,r2,r3,v',r4,r5,r6,r7,r8,r9⟩
   exact⟨r1,r2,r3,⟨_,_,_,r4,r5⟩,fun z hz=>(r7 z (by omega) (by omega)).trans (p1 z hz),(r7 _ (by omega) (by omega)).trans p2,by omega,v',r4,r6⟩
  exact cells265 F (.of (W.push _)) (q0:=q0) (l:=H.next) (N:=H.next+1) (lo:=h.next) hs (Nat.le_refl _) (by show h.next≤H.next+1;omega) Y ((z4 (by omega)).trans ((x1.old _ kq).trans g0)) (fun d H' hP=>(hP.old 2 h2).trans (hg.ext x1 h2))
   ⟨fun z hz=>z4 (by omega),z3 _ _,Nat.lt_succ_self _,_,(z4 (by omega)).trans q1, .nil⟩
 intro h4 h5 k1 k2 k3 k4 k5 k6 hP
 obtain⟨p1,p2,p3,v,p4,p5⟩:=hP
 have D:=(k5 h.next (by omega)).trans p4
 have ow:=p5.keep (h':=h5) (by omega) fun z hz _=>k5 z (by omega)
 generalize cellsTo s 512=cs at*
 refine kB_n ?_;refine kS_n ?_;refine y4 ?_;refine yL ?_;refine yM ?_;refine y3 ?_;refine wE_ret ?_
 exact endA_ret k1 rfl (ow.low (by omega))
theorem collect213(F:FnsCp T){h:Heap}(hr:Rdy h)(hg:Tab h)(h2:2<h.next){q0:Nat}{s:List Nat}(hs:IsS s)(g0:h.get q0=some (.cells (us s) true 1)):
 Al T 213 [fnC q0] h fun v h'=>Own h.next h' 3 v (cellsTo s 512).length (ceS (cellsTo s 512)):=by
 refine .of F.p F.f213 hr (fun v h1 hv q=>Own.flat hv q) ?_
 have C:=append264 F (h:={h with log:=[]}) (.of hr.wf) hg h2 hs g0
 refine y4 ?_;refine yM ?_;refine y3 ?_;refine y4 ?_;refine yM ?_
 refine yC ?_
 refine FW.al C (fun v h' m q=>q.log m) ?_
 rintro v H1 x1 q1
 clear C
 refine yM ?_;refine y3 ?_;refine wE_ret ?_
 exact endA_ret (x1.log.trans hr.log) rfl q1
theorem cells214(F:FnsCp T){h:Heap}(hr:Rdy h){s:List Nat}(hs:IsS s):
 Al T 214 [sv s] h fun v h'=>∃q,v=fnC q∧h'.get q=some (.cells (us s) true 1)∧h.next≤q∧q<h'.next:=by
 refine .of F.p F.f214 hr ?_ ?_
 ·rintro v h1 hv ⟨q,rfl,_⟩
  cases hv
 refine y4 ?_;refine yB ?_;refine yM ?_;refine y3 ?_;refine y4 ?_;refine wO_val (a_mkFunc (by exact rfl) (by exact rfl)) ?_
 refine yM ?_;refine y3 ?_;refine wE_ret ?_
 exact endA_ret hr.log rfl ⟨h.next,rfl,z3 _ _,Nat.le_refl _,Nat.lt_succ_self _⟩
theorem cells123(F:FnsCp T){h:Heap}(hr:Rdy h)(hg:Tab h)(h2:2<h.next){s:List Nat}(hs:IsS s):
 Al T 123 [sv s] h fun v h'=>Own h.next h' 3 v (cellsTo s 512).length (ceS (cellsTo s 512)):=by
 refine .of F.p F.f123 hr (fun v h1 hv q=>Own.flat hv q) ?_
 have k8:=us_llen hs.len
 have k9:=us_take8 hs.len
 have x0:Ext h (h.push (.cells (cellsOf (sv s)) true 1)):=(Ext.refl h).push _
 have g0:(h.push (.cells (cellsOf (sv s)) true 1)).get h.next=some (.cells (us s) true 1):=z3 h _
 have n0:(h.push (.cells (cellsOf (sv s)) true 1)).next=h.next+1:=rfl
 refine y4 ?_;refine yB ?_;refine yM ?_;refine y3 ?_
 generalize(h.push (.cells (cellsOf (sv s)) true 1))=H at*
 have W:=x0.wf hr.wf
 have hL:=x0.log.trans hr.log
 have C:=cells214 F (h:={H with log:=[]}) (.of W) hs
 refine y4 ?_;refine wO_val (a_loadN (by exact rfl) (by assumption) (by assumption) (by assumption)) ?_
 refine yC ?_
 refine FW.al C (fun v h' m q=>q) ?_
 rintro _ H1 x1 ⟨q,rfl,gq,q1,q2⟩
 clear C
 have W1:=x1.wf W
 have hL1:=x1.log.trans hL
 have n1:=x1.next
 have hg1:Tab H1:=hg.ext (x0.trans x1) h2
 have C:=collect213 F (h:={H1 with log:=[]}) (.of W1) hg1 (by show 2<H1.next;omega) hs gq
 generalize cellsTo s 512=cs at*
 skip
 refine yC ?_
 refine FW.al C (fun v h' m q=>q.log m) ?_
 rintro v H2 x2 q2'
 clear C
 refine yM ?_;refine y3 ?_;refine wE_ret ?_
 exact endA_ret (x2.log.trans hL1) rfl (q2'.low (by show h.next≤H1.next;omega))
end Go.A.Pk
end
section
set_option maxRecDepth 100000
namespace Go.A.Pk
variable {T:Nat→Option AFunc}
abbrev CeQ(h:Heap)(v:Value)(l:List Ce):Prop:=SliceOf h 3 v l.length (ceS l)
theorem CeQ.head{h:Heap}{a:Option Addr}{n c:Nat}{x:Ce}{l:List Ce}(s:CeQ h (.slice a n c) (x::l)):
 ∃b o vs own t,a=some ⟨b,o,none⟩∧h.get b=some (.cells vs own t)∧ltake 3 (ldrop (o+0*3) vs)=ceL x:=by
 rcases SliceOf.inv s with⟨_,_,h0,_⟩|⟨b,o,cap,hv,s1,hc⟩
 ·simp at h0
 ·cases hv
  obtain⟨vs,own,t,g1,g2⟩:=s1.obj
  refine⟨b,o,vs,own,t,rfl,g1,?_⟩
  have e:(ceS (x::l)).take 3=ceL x:=rfl
  rw[←e,←g2]
  simp only[ltake_eq,ldrop_eq,List.take_take,List.length_cons,Nat.zero_mul,Nat.add_zero]
  rw[Nat.min_eq_left (by omega)]
theorem Own.consI{lo:Nat}{h:Heap}{v:Value}{x:Int}{l:List Int}(s:Own lo h 1 v (x::l).length (ints (x::l))):
 ∃q,v= .slice (some ⟨q,0,none⟩) (l.length+1) UNK∧lo≤q∧q<h.next∧h.get q=some (.cells (.int .i64 x::ints l) true 1):=by
 generalize hn:(x::l).length=n at s
 generalize hc:ints (x::l)=cs at s
 cases s with
 |nil=>simp at hn
 |full h1 h2 h3 h4 h5=>subst hn;subst hc;exact⟨_,rfl,h1,h2,h3⟩
def zq3:List Value:=[.int .i64 0, .int .i64 0, .int .i64 0]
structure FnsD6 (T:Nat→Option AFunc):Prop where
 k7:FnsK7 T
 hv:FnsHv T
 f36:T 36=some f36
 cp:FnsCp T
set_option maxHeartbeats 16000000 in
theorem doubt36(F:FnsD6 T){h:Heap}(hr:Rdy h)(hg:Tab h)(h2:2<h.next){bl:List Nat}(hb:IsS bl){a:Option Addr}{n c:Nat}{l:List Rd}(s:RdS h (.slice a n c) l)(hn:n<1000000)(day:Int):Al T 36 [sv bl, .slice a n c, .int .i64 day] h (DouQ (douR bl l day)):=by
 refine .of F.k7.sn.p F.f36 hr (fun v h1 hv q=>DouQ.flat hv q) ?_
 obtain rfl:=s.len
 have k8:=us_llen hb.len
 have k9:=us_take8 hb.len
 have g0:((h.push (.cells (cellsOf (sv bl)) true 1)).push (.cells [.int .i64 0, .int .i64 0, .int .i64 0] true 1)).get h.next=some (.cells (us bl) true 1):=(z4 (Nat.lt_succ_self _)).trans (z3 h _)
 have n0:((h.push (.cells (cellsOf (sv bl)) true 1)).push (.cells [.int .i64 0, .int .i64 0, .int .i64 0] true 1)).next=h.next+2:=rfl
 have ga0:((h.push (.cells (cellsOf (sv bl)) true 1)).push (.cells [.int .i64 0, .int .i64 0, .int .i64 0] true 1)).get (h.next+1)=some (.cells zq3 true 1):=z3 _ _
 have x0:Ext h ((h.push (.cells (cellsOf (sv bl)) true 1)).push (.cells [.int .i64 0, .int .i64 0, .int .i64 0] true 1)):=((Ext.refl h).push _).push _
 refine y4 ?_;refine yB ?_;refine wO_val (a_new) ?_;refine yM ?_;refine yM ?_;refine yM ?_;refine y3 ?_
 generalize((h.push (.cells (cellsOf (sv bl)) true 1)).push (.cells [.int .i64 0, .int .i64 0, .int .i64 0] true 1))=H at*
 have hL:H.log=[]:=x0.log.trans hr.log
 have W:=x0.wf hr.wf
 have K:=counting44 F.k7.fo F.k7.f40 F.k7.f131 F.k7.f132 F.k7.f133 F.k7.f134 F.k7.f44 (.of W) ((s.ext x0).log []) hn day
 rw[chkR_law,cnt_law]at K
 have hlen:(cntR day l).length<1000000:=Nat.lt_of_le_of_lt (List.length_filter_le ..) hn
 have hkd:=fun h0 x hx=>cnt_kind (l:=l) h0 (day:=day) (x:=x) hx
 unfold douR
 generalize(chkR refR l).2=e0 at*
 refine y4 ?_;refine yM ?_;refine yM ?_
 refine yC ?_
 refine FW.al K (fun v h' m q=>by obtain⟨x,q1,q2⟩:=q;exact⟨x,q1,q2.log m⟩) ?_
 rintro _ H1 x1 ⟨v1,rfl,s1⟩
 clear K
 have W1:=x1.wf W
 have hL1:=x1.log.trans hL
 have ga1:=(x1.old _ (by omega)).trans ga0
 have g1:=(x1.old _ (by omega)).trans g0
 have n1:=x1.next
 have ck0:ltake 3 (ldrop 0 (ceL c0))=ceL c0:=rfl
 clear g0 ga0
 by_cases he:e0=0
 ·subst he
  rw[if_pos rfl]at s1
  rw[if_neg (fun q=>q rfl)]
  obtain⟨a1,c1,rfl⟩:=s1.sl.form
  have C1:=seen122 F.k7.sn (.of W1) hb (s1.log []) hlen
  have hw:=seenW_ok hb s1.ok
  have hkd:=hkd rfl
  have hdo:=fun c hc=>dou_seen hb s1.ok (c:=c) hc
  have hdb:=fun c hc hs=>dou_bare hb s1.ok hkd (c:=c) hc hs
  have hD:inDoubt bl (cntR day l)=cellsTo (sLess (seenW bl (cntR day l)).1 (seenW bl (cntR day l)).2) 512:=rfl
  have hDl:=inDoubt_lt (bl:=bl) (r:=cntR day l)
  generalize cntR day l=l1 at*
  generalize inDoubt bl l1=cs at*
  generalize seenW bl l1=w at*
  clear hkd
  have wl:=wL_length hw
  have wo:=wL_ones w
  have wa:=wL_a hw
  have wb:=wL_b hw
  have wka:=us_llen hw.a.len
  have wkb:=us_llen hw.b.len
  refine yM ?_;refine yE ?_;refine yE ?_;refine yM ?_;refine yM ?_;refine y3 ?_;refine wE_seq ?_
  refine y4 ?_;refine yM ?_;refine yf ?_;refine y3 ?_;refine yX ?_;refine wE_skip ?_;refine kS_n ?_;refine y4 ?_;refine wO_val (a_loadN (by exact rfl) (by assumption) (by assumption) (by assumption)) ?_;refine yM ?_
  refine yC ?_
  refine FW.pu C1 ?_
  clear C1
  have x2:=ext_pw (h:=H1) (base:=h.next) (by omega) (.cells (lrep 16 (.int .u64 0)) true 1) (.cells (wL w) true 1)
  have gq:=get_pw (h:=H1) (base:=h.next) (lrep 16 (.int .u64 0)) (wL w)
  have nq:((H1.push (.cells (lrep 16 (.int .u64 0)) true 1)).wr h.next H1.next (.cells (wL w) true 1)).next=H1.next+1:=rfl
  refine wO_val (a_new) ?_;refine wO_val (a_storeAll (by exact rfl) (by exact rfl) (by(simp(disch:=first|omega|(simp only[z1,z2];omega))only[z3,z4,z5,z6,z7,z1,z2,ga1,g1,gq];exact rfl)) (by assumption) (by exact rfl) (by assumption)) ?_;refine y3 ?_
  generalize((H1.push (.cells (lrep 16 (.int .u64 0)) true 1)).wr h.next H1.next (.cells (wL w) true 1))=H2 at*
  have ey2:=(x0.trans x1).trans x2
  have W2:=ey2.wf hr.wf
  have hL2:=ey2.log.trans hr.log
  have ga2:=(x2.old _ (by omega)).trans ga1
  have g2:=(x2.old _ (by omega)).trans g1
  have s2:=s1.ext x2
  have hg2:Tab H2:=hg.ext ey2 h2
  have ls:=hw.a.less hw.b
  have C2:=less124 F.k7.sn.p F.k7.sn.f124 (.of W2) hw.a hw.b
  have C3:=cells123 F.cp (h:={H2 with log:=[]}) (.of W2) hg2 (by show 2<H2.next;omega) ls
  rw[←hD]at C3
  have lk:=us_llen ls.len
  generalize sLess w.1 w.2=z at*
  clear ga1 g1
  refine wE_seq ?_;refine y4 ?_;refine yF ?_;refine wO_val (a_loadN (by exact rfl) (by assumption) (by assumption) (by assumption)) ?_;refine yF ?_;refine wO_val (a_loadN (by exact rfl) (by assumption) (by assumption) (by assumption)) ?_
  refine yC ?_
  refine FW.pu C2 ?_
  clear C2
  skip
  refine yC ?_
  refine FW.al C3 (fun v h' m q=>q.log m) ?_
  rintro v3 H3 x3 q3
  clear C3 hD
  have W3:=x3.wf W2
  have hL3:=x3.log.trans hL2
  have ga3:=(x3.old _ (by omega)).trans ga2
  have g3:=(x3.old _ (by omega)).trans g2
  have s3:=s2.ext x3
  have n3:=x3.next
  clear ga2 g2 s2 gq
  cases cs with
  |nil=>
   obtain rfl:v3= .slice none 0 0:=by
    cases q3 with
    |nil=>rfl
    |full a b c d e=>exact absurd rfl e
   refine yD ?_;refine yM ?_;refine y3 ?_;refine wE_block ?_
   refine wE_loop (fun m e ds h'=>m=0∧e=[(3, .pointer (some ⟨h.next,0,none⟩)),(6, .pointer (some ⟨h.next+1,0,none⟩)),(10, .slice a1 l1.length c1),(34, .slice none 0 0),(35, .int .i64 0),(36, .int .i64 0)]∧ds=[]∧H3=h') ⟨rfl,rfl,rfl,rfl⟩ ?_
   rintro m e ds h' ⟨rfl,rfl,rfl,rfl⟩
   refine y4 ?_;refine yf ?_;refine y3 ?_;refine wE_seq ?_;refine yX ?_;refine wE_exit ?_;refine kS_e ?_;refine kS_e ?_;refine kB_e ?_;refine kS_n ?_
   refine y4 ?_;refine wO_val (a_build (by exact rfl)) ?_;refine yS ?_;refine yM ?_;refine yM ?_;refine yM ?_;refine y3 ?_;refine wE_ret ?_
   refine endA_ret ?_ (res_cells (own:=true) (s:=1) (l:=ceL c0) rfl ?_ ck0 rfl rfl) (DouQ.none ⟨c0,[],false,0⟩ rfl)
   ·rw[Heap.log_wr_new (by first|omega|exact Nat.le_succ _)];exact hL3
   ·(simp(disch:=first|omega|(simp only[z1,z2];omega))only[z3,z4,z5,z6,z7,z1,z2,ga3,g3];exact rfl)
  |cons ce cs=>
   have hlt:(ce::cs).length<4000000:=by omega
   have s4:=q3.slice hlt
   obtain⟨a3,c3,rfl⟩:=s4.form
   obtain⟨b3,o3,vs3,own3,t3,rfl,e3,k3⟩:=CeQ.head s4
   have hlt2:cs.length+1≤512:=hDl
   obtain⟨yq1,hy1⟩:=hdo ce (by simp)
   have hy1l:yq1.length+1≤l1.length:=by
    have:=havR_le (k:=1) (c:=ce) (l:=l1)
    rw[hy1]at this;exact this
   have hdb:=hdb ce (by simp)
   clear hdo q3 s4
   refine yD ?_;refine yM ?_;refine y3 ?_;refine wE_block ?_
   refine wE_loop (fun m e ds h'=>m=0∧e=[(3, .pointer (some ⟨h.next,0,none⟩)),(6, .pointer (some ⟨h.next+1,0,none⟩)),(10, .slice a1 l1.length c1),(34, .slice (some ⟨b3,o3,none⟩) (cs.length+1) c3),(35, .int .i64 ((cs.length+1:Nat):Int)),(36, .int .i64 ((0:Nat):Int))]∧ds=[]∧H3=h') ⟨rfl,rfl,rfl,rfl⟩ ?_
   rintro m e ds h' ⟨rfl,rfl,rfl,rfl⟩
   refine y4 ?_;refine yt ?_;refine y3 ?_;refine wE_seq ?_;refine yY ?_;refine wE_skip ?_;refine kS_n ?_;refine wE_seq ?_;refine wE_block ?_
   refine wE_cutP (E0:=[(3, .pointer (some ⟨h.next,0,none⟩)),(6, .pointer (some ⟨h.next+1,0,none⟩)),(10, .slice a1 l1.length c1),(14, .pointer (some ⟨H3.next,0,none⟩))]) (P:=fun h'=>Ext H3 h'∧h'.next=H3.next+1∧h'.get H3.next=some (.cells (ceL ce) true 1)) ?_ ?_
   ·refine wE_region ?_;refine wO_val (a_iaddrS (by exact rfl) (by exact rfl) (by omega)) ?_;refine wO_val (a_loadN (by exact rfl) (by assumption) (by assumption) (by exact rfl)) ?_;refine wO_val (a_new) ?_
    refine yS ?_;refine wO_nil ?_
    refine y1 ?_
    exact⟨rfl,rfl,rfl,ext_pw (by omega) _ _,rfl,get_pw _ _⟩
   rintro H4 ⟨x4,n4,g4c⟩
   have W4:=x4.wf W3
   have hL4:=x4.log.trans hL3
   have ga4:=(x4.old _ (by omega)).trans ga3
   have g4:=(x4.old _ (by omega)).trans g3
   have s5:=s3.ext x4
   have C4:=having125 F.hv (.of W4) (s5.log []) hlen (k:=1) (by omega) ce
   rw[hy1]at C4
   have ck:ltake 3 (ldrop 0 (ceL ce))=ceL ce:=rfl
   have ckl:Nat.beq (llen (ceL ce)) 3=true:=rfl
   clear ga3 g3 s3 e3 k3
   refine y4 ?_;refine yM ?_;refine yN ?_
   refine yC ?_
   refine FW.al C4 (fun v h' m q=>q.log m) ?_
   rintro v5 H5 x5 q5
   clear C4
   obtain⟨q,rfl,hq1,hq2,hq3⟩:=Own.consI q5
   have W5:=x5.wf W4
   have hL5:=x5.log.trans hL4
   have n5:=x5.next
   have ga5:=(x5.old _ (by omega)).trans ga4
   have g5:=(x5.old _ (by omega)).trans g4
   have g5c:=(x5.old _ (by omega)).trans g4c
   have s6:=s5.ext x5
   have hq1:H4.next≤q:=hq1
   clear ga4 g4 g4c s5 q5
   refine wO_val (a_slice3 (i:=1) (by exact rfl) (by exact rfl) (by exact rfl) (by omega) (by unfold UNK;omega) (by omega) (.inr ⟨_,_,rfl⟩)) ?_
   have C5:=has38 F.hv.h (.of W5) hb ce
   have C6:=having125 F.hv (.of W5) (s6.log []) hlen (k:=2) (by omega) ce
   refine yM ?_;refine y3 ?_;refine wE_seq ?_;refine y4 ?_;refine wO_val (a_loadN (by exact rfl) (by assumption) (by assumption) (by assumption)) ?_
   refine yN ?_
   refine yC ?_
   refine FW.pu C5 ?_
   clear C5
   rw[show douS bl l1 (ce::cs)=⟨ce,douI bl l1 ce,true,0⟩from rfl]
   unfold douI
   cases hbc:sHas bl ce with
   |false=>
    clear C6
    refine y3 ?_;refine yX ?_;refine wE_skip ?_;refine kS_n ?_;refine y4 ?_;refine yN ?_;refine yM ?_
    refine yS ?_;refine yM ?_;refine yM ?_;refine yM ?_;refine y3 ?_;refine wE_ret ?_;refine kB_r ?_
    refine kS_r ?_;refine kS_r ?_;refine kB_r ?_;refine kS_r ?_
    refine endA_ret ?_ (res_cells (own:=true) (s:=1) (l:=ceL ce) rfl ?_ ck ckl rfl) ⟨_,rfl,?_⟩
    ·rw[Heap.log_wr_new (by first|omega|exact Nat.le_succ _)];exact hL5
    ·(simp(disch:=first|omega|(simp only[z1,z2];omega))only[z3,z4,z5,z6,z7,z1,z2,hq3,ga5,g5,g5c];exact rfl)
    ·rw[if_neg (by simp)]
     exact .mem ⟨hq2,⟨_,_,_,(z5 (by omega)).trans hq3,rfl⟩,rfl⟩ (by omega)
   |true=>
    obtain⟨yq2,hy2⟩:=hdb hbc
    have hy2l:yq2.length+1≤l1.length:=by
     have:=havR_le (k:=2) (c:=ce) (l:=l1)
     rw[hy2]at this;exact this
    rw[hy2]at C6
    refine y3 ?_;refine yY ?_;refine wE_region ?_;refine yM ?_;refine yM ?_;refine yN ?_
    refine yC ?_
    refine FW.al C6 (fun v h' m q=>q.log m) ?_
    rintro v7 H7 x7 q7
    clear C6
    obtain⟨p,rfl,hp1,hp2,hp3⟩:=Own.consI q7
    have W7:=x7.wf W5
    have hL7:=x7.log.trans hL5
    have n7:=x7.next
    have ga7:=(x7.old _ (by omega)).trans ga5
    have g7c:=(x7.old _ (by omega)).trans g5c
    have hq7:=(x7.old _ hq2).trans hq3
    have lgp:lget (Value.int .i64 (firstI 2 ce l1)::ints yq2) (0+0*1)=some (.int .i64 (firstI 2 ce l1)):=rfl
    clear ga5 g5 g5c hq3 q7
    skip
    refine wO_val (a_iaddrS (i:=0) (by exact rfl) (by exact rfl) (by omega)) ?_
    refine yL ?_;refine wO_val (a_bslice (by exact rfl) (by exact rfl)) ?_
    refine wO_val (a_app_full (n:=1) (cs:=[.int .i64 (firstI 2 ce l1)]) (ws:=[.int .i64 (firstI 1 ce l1), .int .i64 (firstI 2 ce l1)]) (vs:=Value.int .i64 (firstI 1 ce l1)::ints yq1) (by exact rfl) (by exact rfl) (src_slice (cs:=[.int .i64 (firstI 2 ce l1)]) (by(simp(disch:=first|omega|(simp only[z1,z2];omega))only[z3,z4,z5,z6,z7,z1,z2,hp3,ga7,g7c,hq7];exact rfl)) rfl rfl) (by omega) (by omega) (by unfold UNK;omega) ((z4 (by omega)).trans hq7) (by simp) (by omega) rfl) ?_
    refine yM ?_;refine y3 ?_;refine y4 ?_
    refine yN ?_;refine yM ?_
    refine yS ?_;refine yM ?_
    refine yM ?_;refine yM ?_;refine y3 ?_;refine wE_ret ?_;refine kB_r ?_;refine kS_r ?_;refine kS_r ?_;refine kB_r ?_;refine kS_r ?_
    refine endA_ret ?_ (res_cells (own:=true) (s:=1) (l:=ceL ce) rfl ?_ ck ckl rfl) ⟨_,rfl,?_⟩
    ·rw[Heap.log_wr_new (by first|omega|exact Nat.le_succ _)];exact hL7
    ·(simp(disch:=first|omega|(simp only[z1,z2];omega))only[z3,z4,z5,z6,z7,z1,z2,hp3,ga7,g7c,hq7];exact rfl)
    ·rw[if_pos rfl]
     exact .mem ⟨by show H7.next+1<H7.next+2;omega,⟨_,_,_,(z5 (by show H7.next+1≠h.next+1;omega)).trans (z3 _ _),rfl⟩,rfl⟩ (by unfold UNK;omega)
 ·rw[if_pos he]
  have m1:numOp .neq (.int .i64 e0) (.int .i64 0)=some (.bool true):=m_neqT he
  refine yM ?_;refine yE ?_;refine yE ?_;refine yM ?_;refine yM ?_;refine y3 ?_;refine wE_seq ?_
  refine y4 ?_;refine yM ?_;refine wO_val (a_num (by exact rfl) (by exact rfl) (by with_reducible assumption)) ?_;refine y3 ?_;refine yY ?_;refine y4 ?_
  refine wO_val (a_build (by exact rfl)) ?_;refine yM ?_;refine yS ?_;refine yM ?_;refine yM ?_;refine yM ?_;refine y3 ?_;refine wE_ret ?_;refine kS_r ?_
  refine endA_ret ?_ (res_cells (own:=true) (s:=1) (l:=ceL c0) rfl ?_ ck0 rfl rfl) (DouQ.none ⟨c0,[],false,e0⟩ rfl)
  ·rw[Heap.log_wr_new (by first|omega|exact Nat.le_succ _)];exact hL1
  ·(simp(disch:=first|omega|(simp only[z1,z2];omega))only[z3,z4,z5,z6,z7,z1,z2,ga1,g1];exact rfl)
end Go.A.Pk
end
section
set_option maxRecDepth 100000
namespace Go.A.Pk
variable {T:Nat→Option AFunc}
structure FnsD7 (T:Nat→Option AFunc):Prop where
 k7:FnsK7 T
 cr:FnsCr T
 f74:T 74=some f74
set_option maxHeartbeats 16000000 in
theorem doubt74(F:FnsD7 T){h:Heap}(hr:Rdy h){bl:List Nat}(hb:IsS bl){a:Option Addr}{n c:Nat}{l:List Rd}(s:RdS h (.slice a n c) l)(hn:n<1000000)(day:Int):Al T 74 [sv bl, .slice a n c, .int .i64 day] h (DouQ (douR bl l day)):=by
 refine .of F.k7.sn.p F.f74 hr (fun v h1 hv q=>DouQ.flat hv q) ?_
 obtain rfl:=s.len
 have k8:=us_llen hb.len
 have k9:=us_take8 hb.len
 have g0:((h.push (.cells (cellsOf (sv bl)) true 1)).push (.cells [.int .i64 0, .int .i64 0, .int .i64 0] true 1)).get h.next=some (.cells (us bl) true 1):=(z4 (Nat.lt_succ_self _)).trans (z3 h _)
 have n0:((h.push (.cells (cellsOf (sv bl)) true 1)).push (.cells [.int .i64 0, .int .i64 0, .int .i64 0] true 1)).next=h.next+2:=rfl
 have ga0:((h.push (.cells (cellsOf (sv bl)) true 1)).push (.cells [.int .i64 0, .int .i64 0, .int .i64 0] true 1)).get (h.next+1)=some (.cells zq3 true 1):=z3 _ _
 have x0:Ext h ((h.push (.cells (cellsOf (sv bl)) true 1)).push (.cells [.int .i64 0, .int .i64 0, .int .i64 0] true 1)):=((Ext.refl h).push _).push _
 refine y4 ?_;refine yB ?_;refine wO_val (a_new) ?_;refine yM ?_;refine yM ?_;refine yM ?_;refine y3 ?_
 generalize((h.push (.cells (cellsOf (sv bl)) true 1)).push (.cells [.int .i64 0, .int .i64 0, .int .i64 0] true 1))=H at*
 have hL:H.log=[]:=x0.log.trans hr.log
 have W:=x0.wf hr.wf
 have K:=check41 F.k7.rf F.k7.f41 (.of W) ((s.ext x0).log []) hn
 have C1:=known169 F.k7.kn (.of W) hb ((s.ext x0).log []) hn day
 have hlen:(cntR day l).length<1000000:=Nat.lt_of_le_of_lt (List.length_filter_le ..) hn
 have ck0:ltake 3 (ldrop 0 (ceL c0))=ceL c0:=rfl
 unfold douR
 unfold ckV at K
 generalize(chkR refR l).2=e0 at*
 generalize(chkR refR l).1=i0 at*
 refine y4 ?_;refine yM ?_
 refine yC ?_
 refine FW.pu K ?_
 clear K
 by_cases he:e0=0
 ·subst he
  rw[if_neg (fun q=>q rfl)]
  have hw:=seenW_ok hb (l:=cntR day l) fun z hz=>s.ok z (List.mem_filter.1 hz).1
  have hD:inDoubt bl (cntR day l)=cellsTo (sLess (seenW bl (cntR day l)).1 (seenW bl (cntR day l)).2) 512:=rfl
  have hDl:=inDoubt_lt (bl:=bl) (r:=cntR day l)
  generalize hl1:cntR day l=l1 at*
  generalize inDoubt bl l1=cs at*
  generalize seenW bl l1=w at*
  have wl:=wL_length hw
  have wo:=wL_ones w
  have wa:=wL_a hw
  have wb:=wL_b hw
  have wka:=us_llen hw.a.len
  have wkb:=us_llen hw.b.len
  refine yM ?_;refine yE ?_;refine yE ?_;refine yM ?_;refine yM ?_;refine y3 ?_;refine wE_seq ?_
  refine y4 ?_;refine yM ?_;refine yf ?_;refine y3 ?_;refine yX ?_;refine wE_skip ?_;refine kS_n ?_;refine y4 ?_;refine wO_val (a_loadN (by exact rfl) (by assumption) (by assumption) (by assumption)) ?_;refine yM ?_;refine yM ?_
  refine yC ?_
  refine FW.pu C1 ?_
  clear C1
  have x2:=ext_pw (h:=H) (base:=h.next) (by omega) (.cells (lrep 16 (.int .u64 0)) true 1) (.cells (wL w) true 1)
  have gq:=get_pw (h:=H) (base:=h.next) (lrep 16 (.int .u64 0)) (wL w)
  have nq:((H.push (.cells (lrep 16 (.int .u64 0)) true 1)).wr h.next H.next (.cells (wL w) true 1)).next=H.next+1:=rfl
  refine wO_val (a_new) ?_;refine wO_val (a_storeAll (by exact rfl) (by exact rfl) (by(simp(disch:=first|omega|(simp only[z1,z2];omega))only[z3,z4,z5,z6,z7,z1,z2,g0,ga0,gq];exact rfl)) (by assumption) (by exact rfl) (by assumption)) ?_;refine y3 ?_
  generalize((H.push (.cells (lrep 16 (.int .u64 0)) true 1)).wr h.next H.next (.cells (wL w) true 1))=H2 at*
  have ey2:=x0.trans x2
  have W2:=ey2.wf hr.wf
  have hL2:=ey2.log.trans hr.log
  have ga2:=(x2.old _ (by omega)).trans ga0
  have g2:=(x2.old _ (by omega)).trans g0
  have s2:=s.ext ey2
  have ls:=hw.a.less hw.b
  have C2:=rless140 F.k7.sn.p F.k7.kn.f140 (.of W2) hw.a hw.b
  have C3:=cells170 F.cr (h:={H2 with log:=[]}) (.of W2) ls
  rw[←hD]at C3
  have lk:=us_llen ls.len
  generalize sLess w.1 w.2=z at*
  clear ga0 g0
  refine y4 ?_;refine yF ?_;refine wO_val (a_loadN (by exact rfl) (by assumption) (by assumption) (by assumption)) ?_;refine yF ?_;refine wO_val (a_loadN (by exact rfl) (by assumption) (by assumption) (by assumption)) ?_
  refine yC ?_
  refine FW.pu C2 ?_
  clear C2
  skip
  refine yC ?_
  refine FW.al C3 (fun v h' m q=>q.log m) ?_
  rintro v3 H3 x3 q3
  clear C3 hD
  have W3:=x3.wf W2
  have hL3:=x3.log.trans hL2
  have ga3:=(x3.old _ (by omega)).trans ga2
  have g3:=(x3.old _ (by omega)).trans g2
  have s3:=s2.ext x3
  have n3:=x3.next
  clear ga2 g2 s2 gq
  cases cs with
  |nil=>
   obtain rfl:v3= .slice none 0 0:=by
    cases q3 with
    |nil=>rfl
    |full a b c d e=>exact absurd rfl e
   refine yM ?_;refine y3 ?_;refine wE_seq ?_;refine y4 ?_;refine yM ?_;refine yD ?_;refine yt ?_
   refine y3 ?_;refine yY ?_;refine y4 ?_;refine wO_val (a_build (by exact rfl)) ?_;refine yS ?_;refine yM ?_
   refine yM ?_;refine yM ?_;refine y3 ?_;refine wE_ret ?_;refine kS_r ?_
   refine endA_ret ?_ (res_cells (own:=true) (s:=1) (l:=ceL c0) rfl ?_ ck0 rfl rfl) (DouQ.none ⟨c0,[],false,0⟩ rfl)
   ·rw[Heap.log_wr_new (by first|omega|exact Nat.le_succ _)];exact hL3
   ·(simp(disch:=first|omega|(simp only[z1,z2];omega))only[z3,z4,z5,z6,z7,z1,z2,ga3,g3];exact rfl)
  |cons ce cs=>
   have hlt:(ce::cs).length<4000000:=by omega
   have s4:=q3.slice hlt
   obtain⟨a3,c3,rfl⟩:=s4.form
   have hlt2:cs.length+1≤512:=hDl
   have C4:=counting136 F.k7.sn.p F.k7.kn.f136 (.of W3) (s3.log []) hn day
   rw[hl1]at C4
   have m0:numOp .eql (.int .i64 ((cs.length+1:Nat):Int)) (.int .i64 0)=some (.bool false):=m_eqlF (by omega)
   refine yM ?_;refine y3 ?_;refine wE_seq ?_;refine y4 ?_;refine yM ?_;refine yD ?_;refine wO_val (a_num (by exact rfl) (by exact rfl) (by exact m_eql)) ?_
   refine y3 ?_;refine yX ?_;refine wE_skip ?_;refine kS_n ?_;refine y4 ?_;refine yM ?_;refine y3 ?_;refine y4 ?_;refine yM ?_;refine y3 ?_;refine y4 ?_
   refine yM ?_;refine yM ?_
   refine yC ?_
   refine FW.al C4 (fun v h' m q=>q.log m) ?_
   rintro v5 H5 x5 s6
   clear C4
   obtain⟨a6,c6,rfl⟩:=s6.sl.form
   have W5:=x5.wf W3
   have hL5:=x5.log.trans hL3
   have n5:=x5.next
   have ga5:=(x5.old _ (by omega)).trans ga3
   have g5:=(x5.old _ (by omega)).trans g3
   obtain⟨b3,o3,vs3,own3,t3,rfl,e3,k3⟩:=CeQ.head (s4.ext x5)
   have ck:ltake 3 (ldrop 0 (ceL ce))=ceL ce:=rfl
   have ckl:Nat.beq (llen (ceL ce)) 3=true:=rfl
   have ms0:numOp .sub (.int .i64 ((l1.length:Nat):Int)) (.int .i64 1)=some (.int .i64 (((l1.length:Nat):Int)-1)):=m_sub (wrapA_i64 (by omega) (by omega))
   clear ga3 g3 s3 s4 q3
   refine yM ?_;refine y3 ?_;refine wE_seq ?_;refine y4 ?_;refine yM ?_;refine yD ?_;refine wO_val (a_num (by exact rfl) (by exact rfl) (by with_reducible assumption)) ?_
   refine yM ?_;refine y3 ?_;refine wE_block ?_
   refine wE_loop (fun m e ds h'=>∃(i:Nat) (z:Int),z=(i:Int)-1∧i≤l1.length∧i=m∧e=[(3, .pointer (some ⟨h.next,0,none⟩)),(6, .pointer (some ⟨h.next+1,0,none⟩)),(13, .slice (some ⟨b3,o3,none⟩) (cs.length+1) c3),(14, .int .i64 (firstI 1 ce (l1.drop i))),(15, .int .i64 (firstI 2 ce (l1.drop i))),(16, .slice a6 l1.length c6),(17, .int .i64 z)]∧ds=[]∧H5=h')
    ⟨l1.length,_,rfl,Nat.le_refl _,rfl,by rw[List.drop_length];rfl,rfl,rfl⟩ ?_
   rintro m e ds h' ⟨i,zq1,hz1,hin,rfl,rfl,rfl,rfl⟩
   cases i with
   |zero=>
    obtain rfl:zq1= -1:=by omega
    rw[List.drop_zero]
    have C5:=has171 F.cr.hr (.of W5) hb ce
    refine wE_seq ?_;refine y4 ?_;refine yM ?_;refine yf ?_;refine y3 ?_;refine yX ?_;refine wE_exit ?_;refine kS_e ?_
    refine kS_e ?_;refine kB_e ?_;refine kS_n ?_;refine wE_seq ?_;refine wE_seq ?_;refine wE_draw ?_;refine wD_quiet rfl rfl rfl (by exact rfl) (by exact rfl) (by exact rfl) (a_loadN (by exact rfl) (by assumption) (by assumption) (by assumption)) ?_;refine qM ?_
    refine wD_quiet rfl rfl rfl (by exact rfl) (by exact rfl) (by exact rfl) (a_iaddrS (i:=0) (by exact rfl) (by exact rfl) (by omega)) ?_;refine wD_quiet rfl rfl rfl (by exact rfl) (by exact rfl) (by exact rfl) (a_loadN (by exact rfl) (by assumption) (by assumption) (by exact rfl)) ?_
    refine qC ?_
    refine FW.puD C5 (by apply ra_dropC rfl;apply ra_dropC rfl;apply ra_dropC rfl;apply ra_dropC rfl;exact ra_nil) ?_
    clear C5
    rw[show douS bl l1 (ce::cs)=⟨ce,douI bl l1 ce,true,0⟩from rfl]
    unfold douI
    cases hbc:sHas bl ce with
    |false=>
     refine wD_quiet rfl rfl rfl (by exact rfl) (by exact rfl) (by exact rfl) (a_not (by exact rfl)) ?_;refine wD_nil ?_;refine y1 ?_;refine kS_n ?_;refine yY ?_;refine y4 ?_;refine yM ?_
     refine wO_val (a_iaddrS (i:=0) (by exact rfl) (by exact rfl) (by omega)) ?_;refine wO_val (a_loadN (by exact rfl) (by assumption) (by assumption) (by exact rfl)) ?_;refine yM ?_;refine wO_val (a_bslice (by exact rfl) (by exact rfl)) ?_
     refine yS ?_;refine yM ?_
     refine yM ?_;refine yM ?_;refine y3 ?_;refine wE_ret ?_;refine kS_r ?_
     refine endA_ret ?_ (res_cells (own:=true) (s:=1) (l:=ceL ce) rfl ?_ ck ckl rfl) ⟨_,rfl,?_⟩
     ·rw[Heap.log_wr_new (by first|omega|exact Nat.le_succ _)];exact hL5
     ·(simp(disch:=first|omega|(simp only[z1,z2];omega))only[z3,z4,z5,z6,z7,z1,z2,ga5,g5,e3];exact rfl)
     ·rw[if_neg (by simp)]
      exact .mem ⟨Nat.lt_succ_self _,⟨_,_,_,(z5 (by omega)).trans (z3 _ _),rfl⟩,rfl⟩ (Nat.le_refl _)
    |true=>
     refine wD_quiet rfl rfl rfl (by exact rfl) (by exact rfl) (by exact rfl) (a_not (by exact rfl)) ?_;refine wD_nil ?_;refine y1 ?_;refine kS_n ?_;refine yX ?_;refine wE_skip ?_;refine kS_n ?_;refine y4 ?_;refine yM ?_
     refine wO_val (a_iaddrS (i:=0) (by exact rfl) (by exact rfl) (by omega)) ?_;refine wO_val (a_loadN (by exact rfl) (by assumption) (by assumption) (by exact rfl)) ?_;refine yM ?_;refine yM ?_;refine wO_val (a_bslice (by exact rfl) (by exact rfl)) ?_
     refine yS ?_;refine yM ?_
     refine yM ?_;refine yM ?_;refine y3 ?_;refine wE_ret ?_
     refine endA_ret ?_ (res_cells (own:=true) (s:=1) (l:=ceL ce) rfl ?_ ck ckl rfl) ⟨_,rfl,?_⟩
     ·rw[Heap.log_wr_new (by first|omega|exact Nat.le_succ _)];exact hL5
     ·(simp(disch:=first|omega|(simp only[z1,z2];omega))only[z3,z4,z5,z6,z7,z1,z2,ga5,g5,e3];exact rfl)
     ·rw[if_pos rfl]
      exact .mem ⟨Nat.lt_succ_self _,⟨_,_,_,(z5 (by omega)).trans (z3 _ _),rfl⟩,rfl⟩ (Nat.le_refl _)
   |succ j=>
    obtain rfl:zq1=((j:Nat):Int):=by omega
    obtain⟨r,hri⟩:∃r,l1[j]? =some r:=⟨l1[j]'(by omega),List.getElem?_eq_getElem _⟩
    have hR:=s6.ok r (List.mem_of_getElem? hri)
    obtain⟨b,o,vs,own,t,rfl,e1,e2,hbb,_⟩:=s6.elem hri
    have f1:=e2.id
    have f2:=e2.kind
    have rc:=e2.cells
    have rk8:=us_llen hR.cells.len
    have hdr:l1.drop j=r::l1.drop (j+1):=by
     obtain⟨hj,rfl⟩:=List.getElem?_eq_some_iff.1 hri
     exact List.drop_eq_getElem_cons hj
    have hf1:firstI 1 ce (l1.drop j)=if havQ 1 ce r then r.id else firstI 1 ce (l1.drop (j+1)):=by rw[hdr];exact firstI_cons 1 ce r _
    have hf2:firstI 2 ce (l1.drop j)=if havQ 2 ce r then r.id else firstI 2 ce (l1.drop (j+1)):=by rw[hdr];exact firstI_cons 2 ce r _
    generalize firstI 1 ce (l1.drop (j+1))=y1' at*
    generalize firstI 2 ce (l1.drop (j+1))=y2' at*
    have C5:=has171 F.cr.hr (.of W5) hR.cells ce
    have m1:numOp .eql (.int .u8 (r.kind:Nat)) (.int .u8 1)=_:=m_eqI (c:=1) rfl
    have m2:numOp .eql (.int .u8 (r.kind:Nat)) (.int .u8 2)=_:=m_eqI (c:=2) rfl
    have ms:numOp .sub (.int .i64 ((j:Nat):Int)) (.int .i64 1)=some (.int .i64 (((j:Nat):Int)-1)):=m_sub (wrapA_i64 (by omega) (by omega))
    unfold havQ at hf1 hf2
    rw[show decide (1=0)=false from rfl,Bool.false_or]at hf1
    rw[show decide (2=0)=false from rfl,Bool.false_or]at hf2
    refine wE_seq ?_;refine y4 ?_;refine yM ?_;refine yt ?_;refine y3 ?_;refine yY ?_;refine wE_skip ?_;refine kS_n ?_
    refine wE_seq ?_;refine wE_block ?_;refine wE_seq ?_;refine wE_draw ?_;refine qM ?_;refine qM ?_;refine wD_quiet rfl rfl rfl (by exact rfl) (by exact rfl) (by exact rfl) (a_iaddrS (by exact rfl) (by exact rfl) (by omega)) ?_
    refine qF ?_;refine wD_quiet rfl rfl rfl (by exact rfl) (by exact rfl) (by exact rfl) (a_loadN (by exact rfl) (by assumption) (by assumption) (by assumption)) ?_;refine qM ?_
    refine wD_quiet rfl rfl rfl (by exact rfl) (by exact rfl) (by exact rfl) (a_iaddrS (i:=0) (by exact rfl) (by exact rfl) (by omega)) ?_;refine wD_quiet rfl rfl rfl (by exact rfl) (by exact rfl) (by exact rfl) (a_loadN (by exact rfl) (by assumption) (by assumption) (by exact rfl)) ?_
    refine qC ?_
    refine FW.puD C5 (by apply ra_dropC rfl;apply ra_dropC rfl;apply ra_dropC rfl;apply ra_dropC rfl;apply ra_dropC rfl;apply ra_dropC rfl;apply ra_dropC rfl;apply ra_dropC rfl;exact ra_nil) ?_
    clear C5
    cases hbc:sHas r.cells ce with
    |false=>
     rw[hbc,Bool.and_false,if_neg (by simp)]at hf1 hf2
     refine qM ?_;refine wD_nil ?_;refine y1 ?_;refine kS_n ?_;refine wE_seq ?_;refine y4 ?_;refine yM ?_;refine yM ?_
     refine yP ?_;refine yP ?_;refine yP ?_;refine yP ?_;refine yP ?_;refine yP ?_;refine yU ?_;refine y3 ?_;refine yX ?_;refine wE_skip ?_;refine kS_n ?_;refine y4 ?_;refine yM ?_;refine yM ?_;refine yP ?_
     refine yP ?_;refine yP ?_;refine yP ?_;refine yP ?_;refine yP ?_;refine yU ?_;refine y3 ?_;refine yX ?_;refine wE_skip ?_;refine kB_n ?_;refine kS_n ?_;refine wE_region ?_;refine yM ?_;refine wO_val (a_num (by exact rfl) (by exact rfl) (by with_reducible assumption)) ?_;refine yM ?_
     refine y3 ?_
     exact⟨j,by omega,j,_,rfl,by omega,rfl,by rw[hf1,hf2],rfl,rfl⟩
    |true=>
     rw[hbc,Bool.and_true]at hf1 hf2
     by_cases h1:r.kind=1
     ·rw[decide_eq_true h1]at m1 hf1
      rw[decide_eq_false (show¬r.kind=2 by omega)]at m2 hf2
      rw[if_pos rfl]at hf1
      rw[if_neg (by simp)]at hf2
      refine qM ?_;refine wD_nil ?_;refine y1 ?_;refine kS_n ?_;refine wE_seq ?_;refine y4 ?_;refine yM ?_;refine yM ?_
      refine yO ?_;refine yM ?_;refine yO ?_;refine yM ?_;refine yO ?_;refine wO_val (a_iaddrS (by exact rfl) (by exact rfl) (by omega)) ?_;refine yO ?_;refine yF ?_;refine yO ?_
      refine wO_val (a_load (by exact rfl) (by assumption) (by assumption)) ?_;refine yO ?_;refine wO_val (a_num (by exact rfl) (by exact rfl) (by with_reducible assumption)) ?_;refine yT ?_;refine y3 ?_
      refine yY ?_;refine wE_region ?_;refine yM ?_;refine yM ?_;refine wO_val (a_iaddrS (by exact rfl) (by exact rfl) (by omega)) ?_;refine yF ?_;refine wO_val (a_load (by exact rfl) (by assumption) (by assumption)) ?_;refine yM ?_;refine y3 ?_;refine y4 ?_;refine yM ?_;refine yM ?_;refine yO ?_;refine yM ?_;refine yO ?_;refine yM ?_
      refine yO ?_;refine wO_val (a_iaddrS (by exact rfl) (by exact rfl) (by omega)) ?_;refine yO ?_;refine yF ?_;refine yO ?_;refine wO_val (a_load (by exact rfl) (by assumption) (by assumption)) ?_;refine yO ?_;refine wO_val (a_num (by exact rfl) (by exact rfl) (by with_reducible assumption)) ?_
      refine yT ?_;refine y3 ?_;refine yX ?_;refine wE_skip ?_;refine kB_n ?_;refine kS_n ?_;refine wE_region ?_;refine yM ?_
      refine wO_val (a_num (by exact rfl) (by exact rfl) (by with_reducible assumption)) ?_;refine yM ?_;refine y3 ?_
      exact⟨j,by omega,j,_,rfl,by omega,rfl,by rw[hf1,hf2],rfl,rfl⟩
     ·rw[decide_eq_false h1]at m1 hf1
      rw[if_neg (by simp)]at hf1
      by_cases h2:r.kind=2
      ·rw[decide_eq_true h2]at m2 hf2
       rw[if_pos rfl]at hf2
       refine qM ?_;refine wD_nil ?_;refine y1 ?_;refine kS_n ?_;refine wE_seq ?_;refine y4 ?_;refine yM ?_;refine yM ?_
       refine yO ?_;refine yM ?_;refine yO ?_;refine yM ?_;refine yO ?_;refine wO_val (a_iaddrS (by exact rfl) (by exact rfl) (by omega)) ?_;refine yO ?_;refine yF ?_;refine yO ?_
       refine wO_val (a_load (by exact rfl) (by assumption) (by assumption)) ?_;refine yO ?_;refine wO_val (a_num (by exact rfl) (by exact rfl) (by with_reducible assumption)) ?_;refine yT ?_;refine y3 ?_
       refine yX ?_;refine wE_skip ?_;refine kS_n ?_;refine y4 ?_;refine yM ?_;refine yM ?_;refine yO ?_;refine yM ?_;refine yO ?_;refine yM ?_;refine yO ?_
       refine wO_val (a_iaddrS (by exact rfl) (by exact rfl) (by omega)) ?_;refine yO ?_;refine yF ?_;refine yO ?_;refine wO_val (a_load (by exact rfl) (by assumption) (by assumption)) ?_;refine yO ?_;refine wO_val (a_num (by exact rfl) (by exact rfl) (by with_reducible assumption)) ?_
       refine yT ?_;refine y3 ?_;refine yY ?_;refine wE_region ?_;refine yM ?_;refine yM ?_;refine wO_val (a_iaddrS (by exact rfl) (by exact rfl) (by omega)) ?_
       refine yF ?_;refine wO_val (a_load (by exact rfl) (by assumption) (by assumption)) ?_;refine yM ?_;refine wO_nil ?_;refine y1 ?_;refine kB_n ?_;refine kS_n ?_;refine wE_region ?_;refine yM ?_
       refine wO_val (a_num (by exact rfl) (by exact rfl) (by with_reducible assumption)) ?_;refine yM ?_;refine y3 ?_
       exact⟨j,by omega,j,_,rfl,by omega,rfl,by rw[hf1,hf2],rfl,rfl⟩
      ·rw[decide_eq_false h2]at m2 hf2
       rw[if_neg (by simp)]at hf2
       refine qM ?_;refine wD_nil ?_;refine y1 ?_;refine kS_n ?_;refine wE_seq ?_;refine y4 ?_;refine yM ?_;refine yM ?_
       refine yO ?_;refine yM ?_;refine yO ?_;refine yM ?_;refine yO ?_;refine wO_val (a_iaddrS (by exact rfl) (by exact rfl) (by omega)) ?_;refine yO ?_;refine yF ?_;refine yO ?_
       refine wO_val (a_load (by exact rfl) (by assumption) (by assumption)) ?_;refine yO ?_;refine wO_val (a_num (by exact rfl) (by exact rfl) (by with_reducible assumption)) ?_;refine yT ?_;refine y3 ?_
       refine yX ?_;refine wE_skip ?_;refine kS_n ?_;refine y4 ?_;refine yM ?_;refine yM ?_;refine yO ?_;refine yM ?_;refine yO ?_;refine yM ?_;refine yO ?_
       refine wO_val (a_iaddrS (by exact rfl) (by exact rfl) (by omega)) ?_;refine yO ?_;refine yF ?_;refine yO ?_;refine wO_val (a_load (by exact rfl) (by assumption) (by assumption)) ?_;refine yO ?_;refine wO_val (a_num (by exact rfl) (by exact rfl) (by with_reducible assumption)) ?_
       refine yT ?_;refine y3 ?_;refine yX ?_;refine wE_skip ?_;refine kB_n ?_;refine kS_n ?_;refine wE_region ?_;refine yM ?_
       refine wO_val (a_num (by exact rfl) (by exact rfl) (by with_reducible assumption)) ?_;refine yM ?_;refine y3 ?_
       exact⟨j,by omega,j,_,rfl,by omega,rfl,by rw[hf1,hf2],rfl,rfl⟩
 ·rw[if_pos he]
  have m1:numOp .neq (.int .i64 e0) (.int .i64 0)=some (.bool true):=m_neqT he
  clear C1
  refine yM ?_;refine yE ?_;refine yE ?_;refine yM ?_;refine yM ?_;refine y3 ?_;refine wE_seq ?_
  refine y4 ?_;refine yM ?_;refine wO_val (a_num (by exact rfl) (by exact rfl) (by with_reducible assumption)) ?_;refine y3 ?_;refine yY ?_;refine y4 ?_
  refine wO_val (a_build (by exact rfl)) ?_;refine yM ?_;refine yS ?_;refine yM ?_;refine yM ?_;refine yM ?_;refine y3 ?_;refine wE_ret ?_;refine kS_r ?_
  refine endA_ret ?_ (res_cells (own:=true) (s:=1) (l:=ceL c0) rfl ?_ ck0 rfl rfl) (DouQ.none ⟨c0,[],false,e0⟩ rfl)
  ·rw[Heap.log_wr_new (by first|omega|exact Nat.le_succ _)];exact hL
  ·(simp(disch:=first|omega|(simp only[z1,z2];omega))only[z3,z4,z5,z6,z7,z1,z2,g0,ga0];exact rfl)
end Go.A.Pk
end
section
set_option maxRecDepth 100000
namespace Go.A.Pk
variable {T:Nat→Option AFunc}
inductive OwE (lo:Nat) (h:Heap) (sz:Nat):Value→Nat→List Value→Prop
 |own {v n cs}:Own lo h sz v n cs→OwE lo h sz v n cs
 |lit {b}:lo≤b→b<h.next→h.get b=some (.cells [] true sz)→OwE lo h sz (.slice (some ⟨b,0,none⟩) 0 0) 0 []
theorem OwE.keep{lo sz n:Nat}{h h':Heap}{v:Value}{cs:List Value}(s:OwE lo h sz v n cs)(hn:h.next≤h'.next)(ha:∀z,lo≤z→z<h.next→h'.get z=h.get z):OwE lo h' sz v n cs:=by
 cases s with
 |own s=>exact .own (s.keep hn ha)
 |lit h1 h2 h3=>exact .lit h1 (by omega) ((ha _ h1 h2).trans h3)
theorem OwE.ext{lo sz n:Nat}{h h':Heap}{v:Value}{cs:List Value}(s:OwE lo h sz v n cs)(x:Ext h h'):OwE lo h' sz v n cs:=s.keep x.next fun z _ hz=>x.old z hz
section
variable {base:Nat} {rnd:Option Nat} {Q:XQ} {e:Env} {ds:Dfs} {h:Heap} {dst:Option Nat} {os:List AOper} {x y:Operand} {v u:Value} {lo sz n i:Nat} {cs:List Value} {k:IntKind}
theorem a_sliceNilLo(hx:ev h e x=some (.slice none 0 0))(hy:ev h e y=some (.int k ((0:Nat):Int))):aop h base e (.slice (.sl sz) x (some y) none none)=some (.val (.slice none 0 0) h):=by
 simp only[aop,hx,sliceOp,bnd_some hy,bnd_none]
 rfl
theorem wO_cutHi(s:Own lo h sz v n cs)(hi:i≤n)(hx:ev h e x=some v)(hy:ev h e y=some (.int k (i:Nat)))
 (hK:∀u,srcCells h sz u=some (cs.take (i*sz),i)→WO T base rnd Q os (dstE e dst u) ds h):WO T base rnd Q (⟨dst, .slice (.sl sz) x none (some y) none,none⟩::os) e ds h:=by
 cases s with
 |nil=>
  obtain rfl:i=0:=by omega
  refine wO_val (a_sliceNil hx (bnd_some hy)) (hK _ ?_)
  simp[srcCells]
 |full h1 h2 h3 h4 h5=>
  refine wO_val (a_slice_hi hx hy h3 hi (by omega)) (hK _ ?_)
  exact src_slice h3 (by rw[ldrop_eq,List.drop_zero,ltake_eq]) (by rw[List.length_take,h4,Nat.min_eq_left (Nat.mul_le_mul_right _ hi)])
theorem wO_cutLo(s:Own lo h sz v n cs)(hi:i≤n)(hx:ev h e x=some v)(hy:ev h e y=some (.int k (i:Nat)))
 (hK:∀u h',srcCells h' sz u=some (cs.drop (i*sz),n-i)→Ext h h'→WO T base rnd Q os (dstE e dst u) ds h'):WO T base rnd Q (⟨dst, .slice (.sl sz) x (some y) none none,none⟩::os) e ds h:=by
 cases s with
 |nil=>
  obtain rfl:i=0:=by omega
  refine wO_val (a_sliceNilLo hx hy) (hK _ _ ?_ (.refl h))
  simp[srcCells]
 |full h1 h2 h3 h4 h5=>
  rcases Nat.lt_or_ge i n with hlt|hge
  ·refine wO_val (a_slice_lo hx hy h3 hlt) (hK _ _ ?_ (.refl h))
   have e1:(cs.drop (i*sz)).length=(n-i)*sz:=by rw[List.length_drop,h4,Nat.sub_mul]
   exact src_slice h3 (by rw[ldrop_eq,Nat.zero_add,ltake_eq,List.take_of_length_le (by omega)]) e1
  ·obtain rfl:i=n:=by omega
   refine wO_val (a_slice_end hx hy h3 h5) (hK _ _ ?_ ((Ext.refl h).push _))
   rw[List.drop_of_length_le (by omega),Nat.sub_self]
   exact src_slice (z3 h _) (by simp[ltake_eq]) (by simp)
theorem wO_appLit{bytes b:Nat}(hb:h.get b=some (.cells [] true sz))(hbn:b<h.next)(hlo:lo≤b)(hn:n<1000000)(hby:bytes≤100000)(hx:ev h e x=some (.slice (some ⟨b,0,none⟩) 0 0))(hy:ev h e y=some u)(hs:srcCells h sz u=some (cs,n))(hcs:cs.length=n*sz)
 (hK:∀v' h',OwE lo h' sz v' n cs→Ext h h'→WO T base rnd Q os (dstE e dst v') ds h'):WO T base rnd Q (⟨dst, .append sz bytes x y,none⟩::os) e ds h:=by
 by_cases h0:n=0
 ·subst h0
  obtain rfl:cs=[]:=List.length_eq_zero_iff.1 (by omega)
  exact wO_val (a_app_zero hx hy hs (Nat.le_refl _)) (hK _ _ (.lit hlo hbn hb) (.refl h))
 ·have hbd:(2*(0+n)+768)*bytes≤281474976710656:=by
   have:(2*(0+n)+768)*bytes≤2000768*100000:=Nat.mul_le_mul (by omega) hby
   omega
  refine wO_val (a_app_full (len:=0) (c:=0) (ws:=cs) hx hy hs h0 (by omega) (by decide) hb (by simp) hbd (by simp[ltake_eq,lcat_eq])) ?_
  refine hK _ _ (.own ?_) ((Ext.refl h).push _)
  rw[Nat.zero_add]
  exact .full (by omega) (Nat.lt_succ_self _) (z3 _ _) hcs h0
theorem wO_app1E{bytes:Nat}{c1:List Value}(s:OwE lo h sz v n cs)(hn:n<1000000)(hsz:0<sz)(hby:bytes≤100000)(hlo:lo≤h.next)(hbase:base≤lo)
 (hx:ev h e x=some v)(hy:ev h e y=some u)(hs:srcCells h sz u=some (c1,1))(hl1:c1.length=sz)(h1:ones c1=true)
 (hK:∀v' h',Own lo h' sz v' (n+1) (cs++c1)→Lx lo h h'→WO T base rnd Q os (dstE e dst v') ds h'):WO T base rnd Q (⟨dst, .append sz bytes x y,none⟩::os) e ds h:=by
 cases s with
 |own s=>exact wO_app1 s hn hsz hby hlo hbase hx hy hs hl1 h1 hK
 | @lit b q1 q2 q3=>
   have hbd:(2*(0+1)+768)*bytes≤281474976710656:=by
    have:(2*(0+1)+768)*bytes≤770*100000:=Nat.mul_le_mul (by omega) hby
    omega
   refine wO_val (a_app_full (len:=0) (c:=0) (n:=1) (ws:=c1) hx hy hs (by omega) (by omega) (by decide) q3 (by simp) hbd (by simp[ltake_eq,lcat_eq])) ?_
   refine hK _ _ ?_ ((Lx.refl lo h).push hlo _)
   exact .full hlo (Nat.lt_succ_self _) (z3 _ _) (by simp[hl1]) (by omega)
theorem wO_appN{bytes m:Nat}{c2:List Value}(s:Own lo h sz v n cs)(h0:n≠0)(hn:n+m<1000000)(hsz:0<sz)(hby:bytes≤100000)(hlo:lo≤h.next)(hbase:base≤lo)
 (hx:ev h e x=some v)(hy:ev h e y=some u)(hs:srcCells h sz u=some (c2,m))(hl1:c2.length=m*sz)(h1:ones c2=true)
 (hK:∀v' h',Own lo h' sz v' (n+m) (cs++c2)→Lx lo h h'→WO T base rnd Q os (dstE e dst v') ds h'):WO T base rnd Q (⟨dst, .append sz bytes x y,none⟩::os) e ds h:=by
 have hbd:(2*(n+m)+768)*bytes≤281474976710656:=by
  have:(2*(n+m)+768)*bytes≤2000768*100000:=Nat.mul_le_mul (by omega) hby
  omega
 cases s with
 |nil=>exact absurd rfl h0
 | @full q _ _ q1 q2 q3 q4 q5=>
   by_cases hm:m=0
   ·subst hm
    obtain rfl:c2=[]:=List.length_eq_zero_iff.1 (by omega)
    refine wO_val (a_app_zero hx hy hs (by unfold UNK;omega)) (hK _ _ ?_ (.refl lo h))
    rw[List.append_nil]
    exact .full q1 q2 q3 q4 q5
   ·refine wO_val (a_app_open (n:=m) (vs:=cs) (ws:=cs++c2) hx hy hs hm q3 q4 hsz h1 hbd (lcat_eq _ _)) ?_
    refine hK _ _ ?_ (((Lx.refl lo h).wr q1 (by omega)).push hlo _)
    exact .full hlo (Nat.lt_succ_self _) (z3 _ _) (by rw[List.length_append,q4,hl1,Nat.add_mul]) (by omega)
end
def atF(x:Int)(l:List Int):Nat→Nat
 |0=>0
 |k+1=>if x<l.getD k 0 then atF x l k else k+1
theorem atF_le(x:Int)(l:List Int):∀k,atF x l k≤k
 |0=>Nat.le_refl _
 |k+1=>by
  unfold atF
  split
  ·exact Nat.le_succ_of_le (atF_le x l k)
  ·exact Nat.le_refl _
def insA(l:List Int)(x:Int):List Int:=l.take (atF x l l.length)++[x]++l.drop (atF x l l.length)
def insL(l:List Int):List Int:=l.foldl insA []
theorem insA_len(l:List Int)(x:Int):(insA l x).length=l.length+1:=by
 have:=atF_le x l l.length
 simp only[insA,List.length_append,List.length_take,List.length_drop,List.length_singleton]
 omega
theorem insL_len(l:List Int):(insL l).length=l.length:=by
 have:∀(l m:List Int),(l.foldl insA m).length=m.length+l.length:=by
  intro l
  induction l with
  |nil=>intro m;rfl
  |cons x l ih=>intro m;rw[List.foldl_cons,ih,insA_len,List.length_cons];omega
 rw[insL,this];simp
theorem ints_take(l:List Int)(i:Nat):(ints l).take (i*1)=ints (l.take i):=by rw[Nat.mul_one];simp[ints,List.map_take]
theorem ints_drop(l:List Int)(i:Nat):(ints l).drop (i*1)=ints (l.drop i):=by rw[Nat.mul_one];simp[ints,List.map_drop]
def grdE(e:Int)(c:Ce):Int:=if e≠0 then e else if inG c then 0 else 1
def resR(l:List Rd)(day:Int)(c:Ce):List Int×Int:=
 if grdE (chkR refR l).2 c≠0 then([],grdE (chkR refR l).2 c)else(insL (havR 0 c (cntR day l)),0)
def ResQ(lo:Nat)(p:List Int×Int)(v:Value)(h:Heap):Prop:=∃u,v= .tuple #[u, .int .i64 p.2]∧Own lo h 1 u p.1.length (ints p.1)
theorem ResQ.flat{lo:Nat}{p:List Int×Int}{v:Value}{h h':Heap}(hv:noRef v=true)(q:ResQ lo p v h):ResQ lo p v h':=by
 obtain⟨u,rfl,s⟩:=q
 refine⟨u,rfl,?_⟩
 generalize p.1.length=m at s⊢
 generalize ints p.1=cs at s⊢
 cases s with
 |nil=>exact .nil
 |full h1 h2 h3 h4 h5=>
  simp[noRef,flatL,scalL,flat,scal,scal1]at hv
  cases hv.1
theorem Own.intAt{lo:Nat}{h:Heap}{v:Value}{l:List Int}(s:Own lo h 1 v l.length (ints l)){k:Nat}(hk:k<l.length):
 ∃q,v= .slice (some ⟨q,0,none⟩) l.length UNK∧q<h.next∧h.get q=some (.cells (ints l) true 1)∧lget (ints l) (0+k*1)=some (.int .i64 (l.getD k 0)):=by
 have e:lget (ints l) (0+k*1)=some (.int .i64 (l.getD k 0)):=by
  rw[lget_eq,Nat.zero_add,Nat.mul_one,List.getD_eq_getElem?_getD,List.getElem?_eq_getElem hk]
  simp[ints,hk]
 generalize hn:l.length=n at s
 generalize hc:ints l=cs at s
 cases s with
 |nil=>omega
 |full h1 h2 h3 h4 h5=>subst hn;subst hc;exact⟨_,rfl,h2,h3,e⟩
structure FnsR7 (T:Nat→Option AFunc):Prop where
 k7:FnsK7 T
 hr:FnsHr T
 f77:T 77=some f77
 f113:T 113=some f113
set_option maxHeartbeats 16000000 in
theorem rests77(F:FnsR7 T){h:Heap}(hr:Rdy h){bl:List Nat}(hb:IsS bl){a:Option Addr}{n c:Nat}{l:List Rd}(s:RdS h (.slice a n c) l)(hn:n<900000)(day:Int)(ce:Ce):Al T 77 [sv bl, .slice a n c, .int .i64 day,ceV ce] h (ResQ h.next (resR l day ce)):=by
 refine .of F.k7.sn.p F.f77 hr (fun v h1 hv q=>ResQ.flat hv q) ?_
 obtain rfl:=s.len
 have g0:((h.push (.cells (cellsOf (sv bl)) true 1)).push (.cells (cellsOf (ceV ce)) true 1)).get (h.next+1)=some (.cells (ceL ce) true 1):=z3 _ _
 have n0:((h.push (.cells (cellsOf (sv bl)) true 1)).push (.cells (cellsOf (ceV ce)) true 1)).next=h.next+2:=rfl
 have x0:Ext h ((h.push (.cells (cellsOf (sv bl)) true 1)).push (.cells (cellsOf (ceV ce)) true 1)):=((Ext.refl h).push _).push _
 refine y4 ?_;refine yB ?_;refine yB ?_;refine yM ?_;refine yM ?_;refine y3 ?_
 generalize((h.push (.cells (cellsOf (sv bl)) true 1)).push (.cells (cellsOf (ceV ce)) true 1))=H at*
 have hL:H.log=[]:=x0.log.trans hr.log
 have W:=x0.wf hr.wf
 have K:=check41 F.k7.rf F.k7.f41 (.of W) ((s.ext x0).log []) (by omega)
 have hlen:(cntR day l).length<900000:=Nat.lt_of_le_of_lt (List.length_filter_le ..) hn
 unfold resR
 unfold ckV at K
 generalize(chkR refR l).2=e0 at*
 generalize(chkR refR l).1=i0 at*
 skip
 refine wE_cutE (E:=[(1, .slice a l.length c),(2, .int .i64 day),(7, .pointer (some ⟨h.next+1,0,none⟩)),(11, .int .i64 e0)]) (H:=H) ?_ ?_
 ·refine wE_region ?_;refine yM ?_
  refine yC ?_
  refine FW.pu K ?_
  refine yM ?_;refine yE ?_;refine yE ?_;refine yM ?_;refine yM ?_;refine wO_nil ?_;refine y1 ?_
  exact⟨rfl,rfl,rfl,rfl⟩
 clear K
 refine wE_cut (E0:=fun r=>(1, .slice a l.length c)::(2, .int .i64 day)::(7, .pointer (some ⟨h.next+1,0,none⟩))::(11, .int .i64 (grdE e0 ce))::r) (P:=fun h'=>H=h') ?_ ?_
 ·unfold grdE
  by_cases he:e0=0
  ·subst he
   rw[if_neg (fun q=>q rfl)]
   obtain⟨x,y,z⟩:=ce
   have C:=fun n=>in113 F.k7.sn.p F.f113 (.of W) n 0 7
   unfold inG
   unfold ceL at g0
   dsimp only at g0⊢
   by_cases h1:0≤x∧x≤7
   ·have C1:=C x
    rw[show inR x 0 7=true from decide_eq_true h1]at C1
    by_cases h2:0≤y∧y≤7
    ·have C2:=C y
     rw[show inR y 0 7=true from decide_eq_true h2]at C2
     have C3:=C z
     by_cases h3:0≤z∧z≤7
     ·rw[show inR z 0 7=true from decide_eq_true h3]at C3
      rw[if_pos (decide_eq_true ⟨h1,h2,h3⟩)]
      clear C
      refine y4 ?_;refine yM ?_;refine yt ?_;refine yM ?_;refine yO ?_;refine yF ?_;refine yO ?_;refine yL ?_
      refine yO ?_
      refine yC ?_
      refine FW.pu C1 ?_
      refine yO ?_;refine yA ?_;refine yO ?_;refine yM ?_;refine yO ?_;refine yF ?_;refine yO ?_;refine yL ?_;refine yO ?_
      refine yC ?_
      refine FW.pu C2 ?_
      refine yO ?_;refine yA ?_;refine yO ?_;refine yU ?_;refine yO ?_;refine yM ?_;refine yO ?_;refine yF ?_;refine yO ?_
      refine yL ?_;refine yO ?_
      refine yC ?_
      refine FW.pu C3 ?_
      refine yO ?_;refine yA ?_;refine yO ?_;refine yU ?_;refine yT ?_;refine y3 ?_;refine yX ?_
      refine wE_skip ?_
      exact⟨rfl,⟨_,rfl⟩,rfl,rfl⟩
     ·rw[show inR z 0 7=false from decide_eq_false h3]at C3
      rw[if_neg (by rw[decide_eq_false fun q=>h3 q.2.2];simp)]
      clear C
      refine y4 ?_;refine yM ?_;refine yt ?_;refine yM ?_;refine yO ?_;refine yF ?_;refine yO ?_;refine yL ?_
      refine yO ?_
      refine yC ?_
      refine FW.pu C1 ?_
      refine yO ?_;refine yA ?_;refine yO ?_;refine yM ?_;refine yO ?_;refine yF ?_;refine yO ?_;refine yL ?_;refine yO ?_
      refine yC ?_
      refine FW.pu C2 ?_
      refine yO ?_;refine yA ?_;refine yO ?_;refine yU ?_;refine yO ?_;refine yM ?_;refine yO ?_;refine yF ?_;refine yO ?_
      refine yL ?_;refine yO ?_
      refine yC ?_
      refine FW.pu C3 ?_
      refine yO ?_;refine yA ?_;refine yO ?_;refine yU ?_;refine yT ?_;refine y3 ?_;refine yY ?_
      refine wE_region ?_;refine yM ?_;refine wO_nil ?_;refine y1 ?_
      exact⟨rfl,⟨_,rfl⟩,rfl,rfl⟩
    ·have C2:=C y
     rw[show inR y 0 7=false from decide_eq_false h2]at C2
     rw[if_neg (by rw[decide_eq_false fun q=>h2 q.2.1];simp)]
     clear C
     refine y4 ?_;refine yM ?_;refine yt ?_;refine yM ?_;refine yO ?_;refine yF ?_;refine yO ?_;refine yL ?_
     refine yO ?_
     refine yC ?_
     refine FW.pu C1 ?_
     refine yO ?_;refine yA ?_;refine yO ?_;refine yM ?_;refine yO ?_;refine yF ?_;refine yO ?_;refine yL ?_;refine yO ?_
     refine yC ?_
     refine FW.pu C2 ?_
     refine yO ?_;refine yA ?_;refine yO ?_;refine yU ?_;refine yO ?_;refine yM ?_;refine yP ?_;refine yP ?_;refine yP ?_
     refine yP ?_;refine yO ?_;refine yT ?_;refine yT ?_;refine y3 ?_;refine yY ?_;refine wE_region ?_
     refine yM ?_;refine wO_nil ?_;refine y1 ?_
     exact⟨rfl,⟨_,rfl⟩,rfl,rfl⟩
   ·have C1:=C x
    rw[show inR x 0 7=false from decide_eq_false h1]at C1
    rw[if_neg (by rw[decide_eq_false fun q=>h1 q.1];simp)]
    clear C
    refine y4 ?_;refine yM ?_;refine yt ?_;refine yM ?_;refine yO ?_;refine yF ?_;refine yO ?_;refine yL ?_
    refine yO ?_
    refine yC ?_
    refine FW.pu C1 ?_
    refine yO ?_;refine yA ?_;refine yO ?_;refine yM ?_;refine yP ?_;refine yP ?_;refine yP ?_;refine yP ?_;refine yO ?_
    refine yT ?_;refine yO ?_;refine yM ?_;refine yP ?_;refine yP ?_;refine yP ?_;refine yP ?_;refine yO ?_
    refine yT ?_;refine yT ?_;refine y3 ?_;refine yY ?_;refine wE_region ?_;refine yM ?_;refine wO_nil ?_
    refine y1 ?_
    exact⟨rfl,⟨_,rfl⟩,rfl,rfl⟩
  ·rw[if_pos he]
   have m1:numOp .eql (.int .i64 e0) (.int .i64 0)=some (.bool false):=m_eqlF he
   refine y4 ?_;refine yM ?_;refine wO_val (a_num (by exact rfl) (by exact rfl) (by with_reducible assumption)) ?_;refine yM ?_;refine yP ?_;refine yP ?_;refine yP ?_;refine yP ?_
   refine yP ?_;refine wO_off2 (by exact rfl) ?_;refine wO_off2 (by exact rfl) ?_;refine wO_off2 (by exact rfl) ?_;refine wO_off2 (by exact rfl) ?_;refine yP ?_;refine yP ?_;refine wO_off2 (by exact rfl) ?_;refine wO_off2 (by exact rfl) ?_;refine wO_off2 (by exact rfl) ?_
   refine wO_off2 (by exact rfl) ?_;refine yP ?_;refine yU ?_;refine y3 ?_;refine yX ?_;refine wE_skip ?_
   exact⟨rfl,⟨_,rfl⟩,rfl,rfl⟩
 rintro er _ rfl
 generalize grdE e0 ce=e1 at*
 by_cases he:e1=0
 ·subst he
  rw[if_neg (fun q=>q rfl)]
  have C4:=counting136 F.k7.sn.p F.k7.kn.f136 (.of W) ((s.ext x0).log []) (by omega) day
  generalize cntR day l=l1 at*
  refine wE_seq ?_;refine y4 ?_;refine yM ?_;refine yf ?_;refine y3 ?_;refine yX ?_;refine wE_skip ?_;refine kS_n ?_
  refine y4 ?_;refine yM ?_;refine yM ?_
  refine yC ?_
  refine FW.al C4 (fun v h' m q=>q.log m) ?_
  rintro v5 H5 x5 s6
  clear C4
  obtain⟨a6,c6,rfl⟩:=s6.sl.form
  have W5:=x5.wf W
  have hL5:=x5.log.trans hL
  have n5:=x5.next
  have g5:=(x5.old _ (by omega)).trans g0
  clear g0
  refine yM ?_;refine y3 ?_;refine y4 ?_;refine yM ?_;refine y3 ?_
  refine wE_seq ?_;refine y4 ?_;refine yM ?_;refine y3 ?_;refine wE_block ?_
  refine wE_loop (fun m e ds h'=>∃(i:Nat) (v:Value),i≤l1.length∧m=l1.length-i∧e=[(7, .pointer (some ⟨h.next+1,0,none⟩)),(12, .slice a6 l1.length c6),(13,v),(14, .int .i64 (i:Nat))]∧ds=[]∧Ext H5 h'∧Own H5.next h' 1 v (insL (havR 0 ce (l1.take i))).length (ints (insL (havR 0 ce (l1.take i)))))
   ⟨0,_,Nat.zero_le _,rfl,rfl,rfl, .refl H5, .nil⟩ ?_
  rintro m e ds H6 ⟨i,v,hin,rfl,rfl,rfl,x6,ow⟩
  have W6:=x6.wf W5
  have hL6:=x6.log.trans hL5
  have n6:=x6.next
  have g6:=(x6.old _ (by omega)).trans g5
  by_cases hlt:i<l1.length
  ·obtain⟨r,hri⟩:∃r,l1[i]? =some r:=⟨l1[i],List.getElem?_eq_getElem hlt⟩
   have hR:=s6.ok r (List.mem_of_getElem? hri)
   obtain⟨b,o,vs,own,t,rfl,e1,e2,hbb,_⟩:=(s6.ext x6).elem hri
   have f1:=e2.id
   have rc:=e2.cells
   have rk8:=us_llen hR.cells.len
   have ck:ltake 3 (ldrop 0 (ceL ce))=ceL ce:=rfl
   have ckl:Nat.beq (llen (ceL ce)) 3=true:=rfl
   have C5:=has171 F.hr (.of W6) hR.cells ce
   have hst:=havR_step (k:=0) (c:=ce) hri
   have hq:havQ 0 ce r=sHas r.cells ce:=by unfold havQ;rw[show decide (0=0)=true from rfl,Bool.true_or,Bool.true_and]
   rw[hq]at hst
   have hll:(insL (havR 0 ce (l1.take i))).length≤l1.length:=by
    rw[insL_len]
    exact Nat.le_trans havR_le (by rw[List.length_take];omega)
   refine wE_seq ?_;refine y4 ?_;refine yM ?_;refine yM ?_;refine yD ?_;refine yt ?_;refine y3 ?_
   refine yY ?_;refine wE_skip ?_;refine kS_n ?_;refine wE_seq ?_;refine wE_block ?_;refine wE_seq ?_;refine wE_seq ?_;refine wE_draw ?_;refine qM ?_;refine qM ?_
   refine wD_quiet rfl rfl rfl (by exact rfl) (by exact rfl) (by exact rfl) (a_iaddrS (by exact rfl) (by exact rfl) (by omega)) ?_;refine qF ?_;refine wD_quiet rfl rfl rfl (by exact rfl) (by exact rfl) (by exact rfl) (a_loadN (by exact rfl) (by assumption) (by assumption) (by assumption)) ?_
   refine qN ?_
   refine qC ?_
   refine FW.puD C5 (by apply ra_dropC rfl;apply ra_dropC rfl;apply ra_dropC rfl;apply ra_dropC rfl;apply ra_dropC rfl;apply ra_dropC rfl;exact ra_nil) ?_
   clear C5
   cases hbc:sHas r.cells ce with
   |false=>
    rw[hbc,if_neg (by simp),List.append_nil]at hst
    refine wD_quiet rfl rfl rfl (by exact rfl) (by exact rfl) (by exact rfl) (a_not (by exact rfl)) ?_;refine wD_nil ?_;refine y1 ?_;refine kS_n ?_;refine yY ?_;refine wE_exit ?_;refine kS_e ?_;refine kB_e ?_;refine kS_n ?_;refine wE_region ?_;refine yM ?_
    refine yinc ?_;refine yM ?_;refine y3 ?_
    refine⟨l1.length-(i+1),by omega,i+1,v,by omega,rfl,rfl,rfl,x6,?_⟩
    rw[hst];exact ow
   |true=>
    rw[hbc,if_pos rfl]at hst
    have hin2:insL (havR 0 ce (l1.take (i+1)))=insA (insL (havR 0 ce (l1.take i))) r.id:=by
     rw[hst,insL,List.foldl_append];rfl
    generalize insL (havR 0 ce (l1.take i))=L at*
    have hform:∃a2 c2,v= .slice a2 L.length c2:=by
     have:=(ow.slice (by omega)).form
     exact this
    have hat0:atF r.id L L.length≤L.length:=atF_le _ _ _
    obtain⟨a2,c2,rfl⟩:=hform
    refine wD_quiet rfl rfl rfl (by exact rfl) (by exact rfl) (by exact rfl) (a_not (by exact rfl)) ?_;refine wD_nil ?_;refine y1 ?_;refine kS_n ?_;refine yX ?_;refine wE_skip ?_;refine kS_n ?_;refine y4 ?_;refine yM ?_
    refine yD ?_;refine yM ?_;refine y3 ?_
    refine wE_cutE (E:=[(7, .pointer (some ⟨h.next+1,0,none⟩)),(12, .slice (some ⟨b,o,none⟩) l1.length c6),(13, .slice a2 L.length c2),(14, .int .i64 (i:Nat)),(15, .int .i64 ((atF r.id L L.length:Nat):Int)),(78, .bool false)]) (H:=H6) ?_ ?_
    ·refine wE_block ?_
     refine wE_loop (fun m e ds h'=>∃k:Nat,k≤L.length∧atF r.id L k=atF r.id L L.length∧k=m∧e=[(7, .pointer (some ⟨h.next+1,0,none⟩)),(12, .slice (some ⟨b,o,none⟩) l1.length c6),(13, .slice a2 L.length c2),(14, .int .i64 (i:Nat)),(15, .int .i64 (k:Nat))]∧ds=[]∧H6=h')
      ⟨L.length,Nat.le_refl _,rfl,rfl,rfl,rfl,rfl⟩ ?_
     rintro m e ds h' ⟨k,hk,hat,rfl,rfl,rfl,rfl⟩
     cases k with
     |zero=>
      have hat:0=atF r.id L L.length:=hat
      rw[←hat]
      refine wE_seq ?_;refine wE_seq ?_;refine wE_draw ?_;refine qM ?_;refine wD_quiet rfl rfl rfl (by exact rfl) (by exact rfl) (by exact rfl) (a_num (by exact rfl) (by exact rfl) (by exact m_gtrF (by omega))) ?_;refine qM ?_
      refine wD_off rfl rfl rfl (by exact rfl) ?_;refine wD_off rfl rfl rfl (by exact rfl) ?_;refine wD_off rfl rfl rfl (by exact rfl) ?_;refine wD_off rfl rfl rfl (by exact rfl) ?_;refine wD_off rfl rfl rfl (by exact rfl) ?_;refine wD_off rfl rfl rfl (by exact rfl) ?_;refine wD_off rfl rfl rfl (by exact rfl) ?_;refine wD_off rfl rfl rfl (by exact rfl) ?_
      refine wD_off rfl rfl rfl (by exact rfl) ?_;refine wD_off rfl rfl rfl (by exact rfl) ?_;refine wD_off rfl rfl rfl (by exact rfl) ?_;refine wD_quiet rfl rfl rfl (by exact rfl) (by exact rfl) (by exact rfl) (a_pickF (by exact rfl) (by exact rfl)) ?_;refine wD_nil ?_;refine y1 ?_;refine kS_n ?_
      refine yX ?_;refine wE_exit ?_;refine kS_e ?_;refine kS_e ?_;refine kB_e ?_
      exact⟨rfl,rfl,rfl,rfl⟩
     |succ k=>
      obtain⟨q,hv,hq1,hq2,hq3⟩:=Own.intAt ow (k:=k) (by omega)
      cases hv
      have ms:numOp .sub (.int .i64 ((k+1:Nat):Int)) (.int .i64 1)=some (.int .i64 ((k:Nat):Int)):=m_sub (by rw[wrapA_i64 (by omega) (by omega)];omega)
      have hstep:atF r.id L (k+1)=if r.id<L.getD k 0 then atF r.id L k else k+1:=rfl
      by_cases hx:r.id<L.getD k 0
      ·rw[if_pos hx]at hstep
       have m3:numOp .gtr (.int .i64 (L.getD k 0)) (.int .i64 r.id)=some (.bool true):=m_gtrT hx
       refine wE_seq ?_;refine wE_seq ?_;refine wE_draw ?_;refine qM ?_;refine wD_quiet rfl rfl rfl (by exact rfl) (by exact rfl) (by exact rfl) (a_num (by exact rfl) (by exact rfl) (by exact m_gtrT (by omega))) ?_;refine qM ?_
       refine qM ?_;refine qM ?_;refine wD_quiet rfl rfl rfl (by exact rfl) (by exact rfl) (by exact rfl) (a_num (by exact rfl) (by exact rfl) (by with_reducible assumption)) ?_
       refine wD_quiet rfl rfl rfl (by exact rfl) (by exact rfl) (by exact rfl) (a_iaddrS (by exact rfl) (by exact rfl) (by omega)) ?_;refine wD_quiet rfl rfl rfl (by exact rfl) (by exact rfl) (by exact rfl) (a_load (by exact rfl) (by assumption) (by assumption)) ?_;refine qM ?_
       refine qM ?_;refine wD_quiet rfl rfl rfl (by exact rfl) (by exact rfl) (by exact rfl) (a_iaddrS (by exact rfl) (by exact rfl) (by omega)) ?_;refine qF ?_
       refine wD_quiet rfl rfl rfl (by exact rfl) (by exact rfl) (by exact rfl) (a_load (by exact rfl) (by assumption) (by assumption)) ?_;refine wD_quiet rfl rfl rfl (by exact rfl) (by exact rfl) (by exact rfl) (a_num (by exact rfl) (by exact rfl) (by with_reducible assumption)) ?_;refine wD_quiet rfl rfl rfl (by exact rfl) (by exact rfl) (by exact rfl) (a_pickT (by exact rfl) (by exact rfl)) ?_
       refine wD_nil ?_;refine y1 ?_;refine kS_n ?_;refine yY ?_;refine wE_skip ?_;refine kS_n ?_;refine wE_block ?_;refine wE_region ?_;refine yM ?_;refine wO_val (a_num (by exact rfl) (by exact rfl) (by with_reducible assumption)) ?_
       refine yM ?_;refine wO_nil ?_;refine y1 ?_;refine kB_n ?_;refine kS_n ?_
       exact⟨k,by omega,k,by omega,hstep▸hat,rfl,rfl,rfl,rfl⟩
      ·rw[if_neg hx]at hstep
       have m3:numOp .gtr (.int .i64 (L.getD k 0)) (.int .i64 r.id)=some (.bool false):=m_gtrF (by omega)
       have hat2:k+1=atF r.id L L.length:=hstep▸hat
       rw[←hat2]
       refine wE_seq ?_;refine wE_seq ?_;refine wE_draw ?_;refine qM ?_;refine wD_quiet rfl rfl rfl (by exact rfl) (by exact rfl) (by exact rfl) (a_num (by exact rfl) (by exact rfl) (by exact m_gtrT (by omega))) ?_;refine qM ?_
       refine qM ?_;refine qM ?_;refine wD_quiet rfl rfl rfl (by exact rfl) (by exact rfl) (by exact rfl) (a_num (by exact rfl) (by exact rfl) (by with_reducible assumption)) ?_
       refine wD_quiet rfl rfl rfl (by exact rfl) (by exact rfl) (by exact rfl) (a_iaddrS (by exact rfl) (by exact rfl) (by omega)) ?_;refine wD_quiet rfl rfl rfl (by exact rfl) (by exact rfl) (by exact rfl) (a_load (by exact rfl) (by assumption) (by assumption)) ?_;refine qM ?_
       refine qM ?_;refine wD_quiet rfl rfl rfl (by exact rfl) (by exact rfl) (by exact rfl) (a_iaddrS (by exact rfl) (by exact rfl) (by omega)) ?_;refine qF ?_
       refine wD_quiet rfl rfl rfl (by exact rfl) (by exact rfl) (by exact rfl) (a_load (by exact rfl) (by assumption) (by assumption)) ?_;refine wD_quiet rfl rfl rfl (by exact rfl) (by exact rfl) (by exact rfl) (a_num (by exact rfl) (by exact rfl) (by with_reducible assumption)) ?_;refine wD_quiet rfl rfl rfl (by exact rfl) (by exact rfl) (by exact rfl) (a_pickT (by exact rfl) (by exact rfl)) ?_
       refine wD_nil ?_;refine y1 ?_;refine kS_n ?_;refine yX ?_;refine wE_exit ?_;refine kS_e ?_;refine kS_e ?_;refine kB_e ?_
       exact⟨rfl,rfl,rfl,rfl⟩
    have hinL:insA L r.id=L.take (atF r.id L L.length)++[r.id]++L.drop (atF r.id L L.length):=rfl
    generalize atF r.id L L.length=at0 at*
    have x7:Ext H6 (H6.push (.cells [] true 1)):=(Ext.refl H6).push _
    have g7b:(H6.push (.cells [] true 1)).get H6.next=some (.cells [] true 1):=z3 _ _
    have n7:(H6.push (.cells [] true 1)).next=H6.next+1:=rfl
    have e17:=(x7.old _ hbb).trans e1
    have ow7:=ow.ext x7
    have hLl:L.length<900000:=by omega
    refine y4 ?_;refine wO_val (a_bslice (by exact rfl) (by exact rfl)) ?_;refine yM ?_;refine yM ?_
    refine wO_cutHi (i:=at0) ow7 hat0 (by exact rfl) (by exact rfl) ?_
    intro u1 hs1
    rw[ints_take]at hs1
    skip
    refine wO_appLit (lo:=H6.next) (b:=H6.next) g7b (Nat.lt_succ_self _) (Nat.le_refl _) (by omega) (by omega) (by exact rfl) (by exact rfl) hs1 (by rw[ints_length,List.length_take];omega) ?_
    intro v1 h8 o8 x8
    have x8:Ext (H6.push (.cells [] true 1)) h8:=x8
    have ey8:=x7.trans x8
    have e18:=(x8.old _ (by omega)).trans e17
    have n8:=x8.next
    clear e17 g7b hs1 ow7
    refine yM ?_;refine y3 ?_;refine y4 ?_;refine yM ?_;refine yM ?_;refine yM ?_
    refine wO_val (a_iaddrS (by exact rfl) (by exact rfl) (by omega)) ?_;refine yF ?_;refine wO_val (a_load (by exact rfl) (by assumption) (by assumption)) ?_;refine wO_val (a_bslice (by exact rfl) (by exact rfl)) ?_
    refine wO_app1E (lo:=H6.next) (c1:=[.int .i64 r.id]) (o8.ext ((Ext.refl h8).push _)) (by omega) (by omega) (by omega) (by show H6.next≤h8.next+1;omega) (by omega) (by exact rfl) (by exact rfl) (src_slice (cs:=[.int .i64 r.id]) (by(simp(disch:=first|omega|(simp only[z1,z2];omega))only[z3,z4,z5,z6,z7,z1,z2,g5,g6,e1,e18];exact rfl)) rfl rfl) rfl rfl ?_
    intro v2 h9 o9 x9
    have n9:h8.next+1≤h9.next:=x9.next
    have ow9:Own H5.next h9 1 (.slice a2 L.length c2) L.length (ints L):=ow.keep (by omega) fun z _ hz=>(x9.old z hz).trans ((z4 (by omega)).trans (ey8.old z hz))
    refine yM ?_;refine y3 ?_;refine wE_region ?_;refine yM ?_;refine yM ?_;refine yM ?_
    refine wO_cutLo (i:=at0) ow9 hat0 (by exact rfl) (by exact rfl) ?_
    intro u3 h10 hs3 x10
    have n10:=x10.next
    rw[ints_drop]at hs3
    skip
    refine wO_appN (lo:=H6.next) (o9.ext x10) (by omega) (by omega) (by omega) (by omega) (by omega) (by omega) (by exact rfl) (by exact rfl) hs3 (by rw[ints_length,List.length_drop];omega) (ints_ones _) ?_
    intro v4 h11 o11 x11
    refine yM ?_;refine wO_nil ?_;refine y1 ?_;refine kB_n ?_;refine kS_n ?_;refine wE_region ?_;refine yM ?_;refine yinc ?_;refine yM ?_;refine y3 ?_
    have hl:(L.take at0++[r.id]++L.drop at0).length=at0+1+(L.length-at0):=by simp;omega
    refine⟨l1.length-(i+1),by omega,i+1,v4,by omega,rfl,rfl,rfl,x6.trans (((((x7.trans x8).lx (Nat.le_refl _)).push (by omega) _).trans x9).trans ((x10.lx (by omega)).trans x11)).ext,?_⟩
    rw[hin2,hinL,hl,ints_app,ints_app];exact o11.low (by omega)
  ·obtain rfl:i=l1.length:=by omega
   rw[List.take_length]at ow
   refine wE_seq ?_;refine y4 ?_;refine yM ?_;refine yM ?_;refine yD ?_;refine yf ?_;refine y3 ?_
   refine yX ?_;refine wE_exit ?_;refine kS_e ?_;refine kS_e ?_;refine kB_e ?_;refine kS_n ?_;refine y4 ?_;refine yM ?_;refine yM ?_;refine yM ?_;refine y3 ?_;refine wE_ret ?_
   exact endA_ret hL6 rfl ⟨_,rfl,ow.low (by omega)⟩
 ·rw[if_pos he]
  have m1:numOp .neq (.int .i64 e1) (.int .i64 0)=some (.bool true):=m_neqT he
  refine wE_seq ?_;refine y4 ?_;refine yM ?_;refine wO_val (a_num (by exact rfl) (by exact rfl) (by with_reducible assumption)) ?_;refine y3 ?_;refine yY ?_;refine y4 ?_
  refine yM ?_;refine yM ?_;refine yM ?_;refine y3 ?_;refine wE_ret ?_;refine kS_r ?_
  exact endA_ret hL rfl ⟨_,rfl, .nil⟩
end Go.A.Pk
end
section
namespace Go.A
open Go.Sort
variable {P:Program}
def intsOf:List Value→Option (List Int)
 |[]=>some []
 | .int .i64 x::l=>match intsOf l with
   |some r=>some (x::r)
   |none=>none
 |_::_=>none
def intsV(l:List Int):List Value:=l.map fun x=> .int .i64 x
theorem intsOf_ok:∀{l:List Value} {xs:List Int},intsOf l=some xs→l=intsV xs
 |[],xs,h=>by cases h;rfl
 |v::l,xs,h=>by
  unfold intsOf at h
  split at h
  ·rename_i h1;cases h1
  ·rename_i x l' h1
   cases h1
   split at h
   ·rename_i r hr
    cases h
    rw[intsOf_ok hr];rfl
   ·cases h
  ·cases h
theorem intsOf_V:∀l:List Int,intsOf (intsV l)=some l
 |[]=>rfl
 |x::l=>by
  show(match intsOf (intsV l)with
   |some r=>some (x::r)
   |none=>none)=_
  rw[intsOf_V l]
def sortI(l:List Int):List Int:=l.mergeSort fun x y=>decide (x≤y)
theorem sortI_len(l:List Int):(sortI l).length=l.length:=List.length_mergeSort l
def pSort:List Value→Heap→Option (Value×Heap)
 |[.slice none 0 _],h=>some (.tuple #[],h)
 |[.slice (some ⟨b,o,none⟩) n _],h=>match h.get b with
  |some (.cells vs true sz)=>match intsOf vs with
   |some xs=>bif Nat.beq xs.length n&&Nat.blt n 1000000&&Nat.beq o 0 then some (.tuple #[],h.wr h.next b (.cells (intsV (sortI xs)) true sz))else none
   |none=>none
  |_=>none
 |_,_=>none
theorem growL{μ:Mu}{h:Heap}:∀(l:List Obj) {w:World},R P μ h w→R P μ h (Sort.grow w l.toArray)∧St μ h w μ h (Sort.grow w l.toArray)
 |[],w,hR=>by
  have e:Sort.grow w #[]=w:=grow_empty w
  rw[e];exact⟨hR, .refl _ _ _⟩
 |o::l,w,hR=>by
  have e:Sort.grow w (o::l).toArray=Sort.grow (w.alloc o) l.toArray:=by
   rw[alloc_eq_grow,grow_grow]
   congr 1
   apply Array.toList_inj.1
   simp
  rw[e]
  obtain⟨r1,s1⟩:=hR.junk (w':=w.alloc o) rfl
  obtain⟨r2,s2⟩:=growL l r1
  exact⟨r2,s1.trans s2 (Nat.le_refl _)⟩
theorem pSort_ok{f:Nat}{fn:Func}(hf:P.funcs[f]? =some fn)(hn:fn.name≠ "runtime.NumGoroutine")(hb:fn.body.isSome=true)
 (h0:∀(p:Option Addr) (cap:Nat) (w:World),Calls P f #[.slice p 0 cap] w fun e w'=>e= .returned (.tuple #[])∧w'=w)
 (h1:∀(blk off cap:Nat) (zs:List Int) (w:World),Holds (Value.int .i64) w blk off zs.toArray→blk<w.heap.size→zs.length<4611686018427387904→
   Calls P f #[.slice (some ⟨blk,off,none⟩) zs.length cap] w fun e w'=>e= .returned (.tuple #[])∧∃n os,w'=Sort.grow (putRow (Value.int .i64) (Sort.ahead w n) blk off (zs.mergeSort fun x y=>decide (x≤y)).toArray) os):PrimOk P f pSort:=by
 intro args h v h' hp _
 unfold pSort at hp
 split at hp
 ·cases hp
  refine⟨.refl _ _,fun μ w args' hR ha=> ?_⟩
  obtain⟨x',rfl,hx⟩:=ha.one
  cases hx
  exact next_of_calls hf hn hb (h0 _ _ w) fun e w' ⟨q1,q2⟩=>by subst q1;subst q2;exact⟨μ, .tuple rfl (fun i hi=>absurd hi (by simp)),hR, .refl _ _ _⟩
 ·rename_i b o n c
  split at hp
  ·rename_i vs sz hbo
   split at hp
   ·rename_i xs hxs
    simp only[cond_eq_ite,beq_eq,blt_eq,Bool.and_eq_true,decide_eq_true_eq,Option.ite_none_right_eq_some]at hp
    obtain⟨⟨⟨rfl,h2⟩,rfl⟩,hp⟩:=hp
    cases hp
    have hvs:=intsOf_ok hxs
    refine⟨AS.wr _ _ _ _,fun μ w args' hR ha=> ?_⟩
    obtain⟨x',rfl,hx⟩:=ha.one
    have key:∀k c',μ b=some k→NextR P (CallRes P μ h w (.ret (.tuple #[])) (h.wr h.next b (.cells (intsV (sortI xs)) true sz))) ((callFunc f #[.slice (some ⟨k.r,k.d+0,none⟩) xs.length c']).run P w):=fun k c' hk=>by
     obtain⟨hsz,cc,el,fz,g1,g2,g3,g4,g5⟩:=hR.obj b _ hbo k hk
     obtain⟨hd,he,hfz⟩:=g5 rfl
     have hl:vs.length=xs.length:=by rw[hvs];simp[intsV]
     have gvI:∀(l:List Int) j,(hj:j<l.length)→gv (intsV l) j= .int .i64 l[j]:=fun l j hj=>by
      simp[gv,lget_eq,intsV,hj]
     have hat:∀j,(hj:j<xs.length)→cc[k.d+j]? =some (.int .i64 xs[j]):=fun j hj=>by
      obtain⟨v',p1,p2⟩:=g4 j (by omega)
      rw[hvs,gvI xs j hj]at p2
      cases p2;exact p1
     have hH:Holds (Value.int .i64) w k.r (k.d+0) xs.toArray:=fun j hj=>by
      have hj:j<xs.length:=by simpa using hj
      refine⟨?_,?_⟩
      ·rw[cell_of g1,Nat.add_zero,hat j hj];simp[hj]
      ·have:=hfz (k.d+0+j) (by omega)
       simp only[World.frozen?,g1]
       simpa using this
     refine next_of_calls hf hn hb (h1 k.r (k.d+0) c' xs w hH (hR.dom _ _ hk).2 (by omega)) fun e w' ⟨q1,n,os,q2⟩=> ?_
     subst q1;subst q2
     obtain⟨r1,s1⟩:=hR.world (w':=Sort.ahead w n) rfl
     have hsl:=sortI_len xs
     have hg:(putRow (Value.int .i64) (Sort.ahead w n) k.r (k.d+0) (sortI xs).toArray).heap=w.heap.modify k.r (onCells (putCells (Value.int .i64) (k.d+0) (sortI xs).toArray)):=rfl
     have g1':(putRow (Value.int .i64) (Sort.ahead w n) k.r (k.d+0) (sortI xs).toArray).heap[k.r]? =some (.cells (putCells (Value.int .i64) (k.d+0) (sortI xs).toArray cc) el fz):=by
      rw[hg,Array.getElem?_modify,if_pos rfl,g1];rfl
     have hps:(putCells (Value.int .i64) (k.d+0) (sortI xs).toArray cc).size=cc.size:=by simp[putCells]
     obtain⟨r2,s2⟩:=r1.write (base:=h.next) (b:=b) (o:= .cells vs true sz) (o':= .cells (intsV (sortI xs)) true sz) (k:=k) (w':=putRow (Value.int .i64) (Sort.ahead w n) k.r (k.d+0) (sortI xs).toArray) hbo rfl rfl hk
      (by rw[hg];simp[Sort.ahead]) (fun r hr=>by rw[hg,Array.getElem?_modify,if_neg (Ne.symm hr)];rfl) (.of_cells g1 g1' (by omega)) (by
        intro k' hk'
        rw[hk]at hk';cases hk'
        have hL:(intsV (sortI xs)).length=xs.length:=by simp[intsV,hsl]
        refine⟨hsz,_,el,fz,g1',by omega,by omega,fun i hi=> ?_,fun _=>⟨hd,by omega,fun j hj=>hfz j (by omega)⟩⟩
        have hi2:i<(sortI xs).length:=by omega
        rw[gvI _ i hi2]
        refine⟨_,?_, .int _ _⟩
        simp only[putCells,Array.getElem?_mapIdx,hat i (by omega),z7]
        rw[if_pos ⟨by omega,by simp;omega⟩]
        simp[hi2])
     obtain⟨r3,s3⟩:=growL os.toList r2
     have e3:Sort.grow (putRow (Value.int .i64) (Sort.ahead w n) k.r (k.d+0) (sortI xs).toArray) os.toList.toArray=Sort.grow (putRow (Value.int .i64) (Sort.ahead w n) k.r (k.d+0) (xs.mergeSort fun x y=>decide (x≤y)).toArray) os:=rfl
     rw[e3]at r3 s3
     exact⟨μ, .tuple rfl (fun i hi=>absurd hi (by simp)),r3,(s1.trans s2 (Nat.le_refl _)).trans s3 (Nat.le_refl _)⟩
    cases hx with
    |slice hk q1 q2=>exact key _ _ hk
    |sliceU hk q1 q2 q3=>exact key _ _ hk
   ·cases hp
  ·cases hp
 ·cases hp
end Go.A
end
section
set_option maxRecDepth 100000
namespace Go.A.Pk
variable {T:Nat→Option AFunc}
theorem sorted_eq:∀{a b:List Int},a.Pairwise (· ≤ ·)→b.Pairwise (· ≤ ·)→a.Perm b→a=b
 |[],b,_,_,p=>(List.nil_perm.1 p).symm
 |x::a,[],_,_,p=>by simpa using p.length_eq
 |x::a,y::b,ha,hb,p=>by
  have ha':=List.pairwise_cons.1 ha
  have hb':=List.pairwise_cons.1 hb
  have h1:x∈y::b:=p.subset List.mem_cons_self
  have h2:y∈x::a:=p.symm.subset List.mem_cons_self
  have h3:x≤y:=by
   rcases List.mem_cons.1 h2 with rfl|h
   ·exact Int.le_refl _
   ·exact ha'.1 _ h
  have h4:y≤x:=by
   rcases List.mem_cons.1 h1 with rfl|h
   ·exact Int.le_refl _
   ·exact hb'.1 _ h
  obtain rfl:x=y:=by omega
  rw[sorted_eq ha'.2 hb'.2 p.cons_inv]
theorem atF_hi(x:Int)(l:List Int):∀k j,atF x l k≤j→j<k→x<l.getD j 0
 |0,j,_,h=>by omega
 |k+1,j,h1,h2=>by
  unfold atF at h1
  split at h1
  ·rename_i h
   rcases Nat.lt_or_ge j k with hj|hj
   ·exact atF_hi x l k j h1 hj
   ·obtain rfl:j=k:=by omega
    exact h
  ·omega
theorem atF_lo(x:Int)(l:List Int):∀k j,atF x l k=j+1→l.getD j 0≤x
 |0,j,h=>by cases h
 |k+1,j,h=>by
  unfold atF at h
  split at h
  ·exact atF_lo x l k j h
  ·rename_i h1
   obtain rfl:k=j:=by omega
   omega
theorem insA_sorted{l:List Int}(hl:l.Pairwise (· ≤ ·))(x:Int):(insA l x).Pairwise (· ≤ ·):=by
 have hle:=atF_le x l l.length
 have h1:∀a∈l.take (atF x l l.length),a≤x:=by
  intro a ha
  obtain⟨i,hi,rfl⟩:=List.getElem_of_mem ha
  rw[List.length_take]at hi
  rw[List.getElem_take]
  obtain⟨j,hj⟩:∃j,atF x l l.length=j+1:=⟨atF x l l.length-1,by omega⟩
  have e1:=atF_lo x l l.length j hj
  have hjl:j<l.length:=by omega
  rw[List.getD_eq_getElem?_getD,List.getElem?_eq_getElem hjl,Option.getD_some]at e1
  rcases Nat.lt_or_ge i j with hij|hij
  ·exact Int.le_trans (List.pairwise_iff_getElem.1 hl i j (by omega) hjl hij) e1
  ·obtain rfl:i=j:=by omega
   exact e1
 have h2:∀b∈l.drop (atF x l l.length),x≤b:=by
  intro b hb
  obtain⟨i,hi,rfl⟩:=List.getElem_of_mem hb
  rw[List.length_drop]at hi
  rw[List.getElem_drop]
  have hlt:atF x l l.length+i<l.length:=by omega
  have e1:=atF_hi x l l.length (atF x l l.length+i) (by omega) hlt
  rw[List.getD_eq_getElem?_getD,List.getElem?_eq_getElem hlt,Option.getD_some]at e1
  omega
 have hs:(l.take (atF x l l.length)++l.drop (atF x l l.length)).Pairwise (· ≤ ·):=by rw[List.take_append_drop];exact hl
 obtain⟨p1,p2,p3⟩:=List.pairwise_append.1 hs
 unfold insA
 rw[List.append_assoc]
 refine List.pairwise_append.2 ⟨p1,?_,?_⟩
 ·exact List.pairwise_cons.2 ⟨h2,p2⟩
 ·intro a ha b hb
  rcases List.mem_cons.1 hb with rfl|hb
  ·exact h1 a ha
  ·exact p3 a ha b hb
theorem insA_perm(l:List Int)(x:Int):(insA l x).Perm (x::l):=by
 have e:l.take (atF x l l.length)++l.drop (atF x l l.length)=l:=List.take_append_drop ..
 unfold insA
 rw[List.append_assoc]
 have:=List.perm_middle (a:=x) (l₁:=l.take (atF x l l.length)) (l₂:=l.drop (atF x l l.length))
 rw[e]at this
 exact this
theorem insL_ok(l:List Int):(insL l).Pairwise (· ≤ ·)∧(insL l).Perm l:=by
 have:∀(l m:List Int),m.Pairwise (· ≤ ·)→(l.foldl insA m).Pairwise (· ≤ ·)∧(l.foldl insA m).Perm (m++l):=by
  intro l
  induction l with
  |nil=>intro m hm;exact⟨hm,by simp⟩
  |cons x l ih=>
   intro m hm
   obtain⟨h1,h2⟩:=ih (insA m x) (insA_sorted hm x)
   refine⟨h1,h2.trans ?_⟩
   exact((insA_perm m x).append_right l).trans List.perm_middle.symm
 obtain⟨h1,h2⟩:=this l [] .nil
 exact⟨h1,h2⟩
theorem insL_sort(l:List Int):sortI l=insL l:=by
 obtain⟨h1,h2⟩:=insL_ok l
 refine sorted_eq ?_ h1 ((List.mergeSort_perm l _).trans h2.symm)
 have:=List.pairwise_mergeSort (le:=fun x y:Int=>decide (x≤y)) (fun a b c h1 h2=>by simp at*;omega) (fun a b=>by simp;omega) l
 exact this.imp fun h=>of_decide_eq_true h
theorem gsSort(hf:T 172=some (.prim pSort)){lo:Nat}{h:Heap}{v:Value}{l:List Int}(s:Own lo h 1 v l.length (ints l))(hl:l.length<1000000):
 Gs T 172 [v] h (fun z=>lo≤z) (fun _ h'=>Own lo h' 1 v l.length (ints (sortI l))):=by
 have hlen:=sortI_len l
 generalize hn:l.length=n at*
 generalize hc:ints l=cs at*
 cases s with
 |nil=>
  obtain rfl:l=[]:=List.length_eq_zero_iff.1 hn
  have e:sortI []=[]:=List.length_eq_zero_iff.1 hlen
  rw[e]
  refine⟨.ret (.tuple #[]),h,⟨1,fun n hn=> ?_⟩,⟨Nat.le_refl _,fun z hz=> .inl hz,fun _ _ _=>rfl,id⟩, .tuple #[],rfl, .nil⟩
  obtain⟨k,rfl⟩:∃k,n=k+1:=⟨n-1,by omega⟩
  simp only[acall,hf,pSort]
 | @full q _ _ h1 h2 h3 h4 h5=>
   subst hc
   have e1:intsOf (ints l)=some l:=intsOf_V l
   have e2:(Nat.beq l.length n&&Nat.blt n 1000000&&Nat.beq 0 0)=true:=by rw[hn,nbeq_self,nblt_of hl];rfl
   refine⟨.ret (.tuple #[]),h.wr h.next q (.cells (intsV (sortI l)) true 1),⟨1,fun n hn=> ?_⟩,?_, .tuple #[],rfl, .full (n:=n) (cs:=ints (sortI l)) h1 ?_ ?_ ?_ h5⟩
   ·obtain⟨k,rfl⟩:∃k,n=k+1:=⟨n-1,by omega⟩
    simp only[acall,hf,pSort,h3,e1,e2,cond_true]
   ·refine⟨Nat.le_refl _,fun z hz=> ?_,fun z hz hnz=> ?_,fun w=>w.as (AS.wr h.next _ _ _)⟩
    ·rcases wr_log (S:=fun z=>z∈h.log∨lo≤z) (h:=h) (fun z hz=> .inl hz) (.inr h1) z hz with h|h
     ·exact .inl h
     ·exact .inr h
    ·exact z5 (fun e=>hnz (e▸h1))
   ·exact h2
   ·show(h.wr h.next q (.cells (intsV (sortI l)) true 1)).get q=_
    rw[z6,h3];rfl
   ·rw[ints_length,hlen,Nat.mul_one]
structure FnsR6 (T:Nat→Option AFunc):Prop where
 k7:FnsK7 T
 hv:FnsHv T
 f76:T 76=some f76
 f172:T 172=some (.prim pSort)
set_option maxHeartbeats 16000000 in
theorem rests76(F:FnsR6 T){h:Heap}(hr:Rdy h){bl:List Nat}(hb:IsS bl){a:Option Addr}{n c:Nat}{l:List Rd}(s:RdS h (.slice a n c) l)(hn:n<900000)(day:Int)(ce:Ce):Al T 76 [sv bl, .slice a n c, .int .i64 day,ceV ce] h (ResQ h.next (resR l day ce)):=by
 refine .of F.k7.sn.p F.f76 hr (fun v h1 hv q=>ResQ.flat hv q) ?_
 obtain rfl:=s.len
 have g0:((h.push (.cells (cellsOf (sv bl)) true 1)).push (.cells (cellsOf (ceV ce)) true 1)).get (h.next+1)=some (.cells (ceL ce) true 1):=z3 _ _
 have n0:((h.push (.cells (cellsOf (sv bl)) true 1)).push (.cells (cellsOf (ceV ce)) true 1)).next=h.next+2:=rfl
 have x0:Ext h ((h.push (.cells (cellsOf (sv bl)) true 1)).push (.cells (cellsOf (ceV ce)) true 1)):=((Ext.refl h).push _).push _
 refine y4 ?_;refine yB ?_;refine yB ?_;refine yM ?_;refine yM ?_;refine y3 ?_
 generalize((h.push (.cells (cellsOf (sv bl)) true 1)).push (.cells (cellsOf (ceV ce)) true 1))=H at*
 have hL:H.log=[]:=x0.log.trans hr.log
 have W:=x0.wf hr.wf
 have K:=counting44 F.k7.fo F.k7.f40 F.k7.f131 F.k7.f132 F.k7.f133 F.k7.f134 F.k7.f44 (.of W) ((s.ext x0).log []) (by omega) day
 rw[chkR_law,cnt_law]at K
 have hlen:(cntR day l).length<900000:=Nat.lt_of_le_of_lt (List.length_filter_le ..) hn
 unfold resR
 generalize(chkR refR l).2=e0 at*
 refine y4 ?_;refine yM ?_;refine yM ?_
 refine yC ?_
 refine FW.al K (fun v h' m q=>by obtain⟨x,q1,q2⟩:=q;exact⟨x,q1,q2.log m⟩) ?_
 rintro _ H1 x1 ⟨v1,rfl,s1⟩
 clear K
 have W1:=x1.wf W
 have hL1:=x1.log.trans hL
 have g1:=(x1.old _ (by omega)).trans g0
 have n1:=x1.next
 clear g0
 refine yM ?_;refine yE ?_;refine yE ?_;refine yM ?_;refine yM ?_;refine y3 ?_
 refine wE_cut (E0:=fun r=>(7, .pointer (some ⟨h.next+1,0,none⟩))::(10,v1)::(11, .int .i64 (grdE e0 ce))::r) (P:=fun h'=>H1=h') ?_ ?_
 ·unfold grdE
  by_cases he:e0=0
  ·subst he
   rw[if_neg (fun q=>q rfl)]
   obtain⟨x,y,z⟩:=ce
   have C:=fun n=>in106 F.k7.sn.p F.k7.fo.f106 (.of W1) n 0 7
   unfold inG
   unfold ceL at g1
   dsimp only at g1⊢
   by_cases h1:0≤x∧x≤7
   ·have C1:=C x
    rw[show inR x 0 7=true from decide_eq_true h1]at C1
    by_cases h2:0≤y∧y≤7
    ·have C2:=C y
     rw[show inR y 0 7=true from decide_eq_true h2]at C2
     have C3:=C z
     by_cases h3:0≤z∧z≤7
     ·rw[show inR z 0 7=true from decide_eq_true h3]at C3
      rw[if_pos (decide_eq_true ⟨h1,h2,h3⟩)]
      clear C
      refine y4 ?_;refine yM ?_;refine yt ?_;refine yM ?_;refine yO ?_;refine yF ?_;refine yO ?_;refine yL ?_
      refine yO ?_
      refine yC ?_
      refine FW.pu C1 ?_
      refine yO ?_;refine yA ?_;refine yO ?_;refine yM ?_;refine yO ?_;refine yF ?_;refine yO ?_;refine yL ?_;refine yO ?_
      refine yC ?_
      refine FW.pu C2 ?_
      refine yO ?_;refine yA ?_;refine yO ?_;refine yU ?_;refine yO ?_;refine yM ?_;refine yO ?_;refine yF ?_;refine yO ?_
      refine yL ?_;refine yO ?_
      refine yC ?_
      refine FW.pu C3 ?_
      refine yO ?_;refine yA ?_;refine yO ?_;refine yU ?_;refine yT ?_;refine y3 ?_;refine yX ?_
      refine wE_skip ?_
      exact⟨rfl,⟨_,rfl⟩,rfl,rfl⟩
     ·rw[show inR z 0 7=false from decide_eq_false h3]at C3
      rw[if_neg (by rw[decide_eq_false fun q=>h3 q.2.2];simp)]
      clear C
      refine y4 ?_;refine yM ?_;refine yt ?_;refine yM ?_;refine yO ?_;refine yF ?_;refine yO ?_;refine yL ?_
      refine yO ?_
      refine yC ?_
      refine FW.pu C1 ?_
      refine yO ?_;refine yA ?_;refine yO ?_;refine yM ?_;refine yO ?_;refine yF ?_;refine yO ?_;refine yL ?_;refine yO ?_
      refine yC ?_
      refine FW.pu C2 ?_
      refine yO ?_;refine yA ?_;refine yO ?_;refine yU ?_;refine yO ?_;refine yM ?_;refine yO ?_;refine yF ?_;refine yO ?_
      refine yL ?_;refine yO ?_
      refine yC ?_
      refine FW.pu C3 ?_
      refine yO ?_;refine yA ?_;refine yO ?_;refine yU ?_;refine yT ?_;refine y3 ?_;refine yY ?_
      refine wE_region ?_;refine yM ?_;refine wO_nil ?_;refine y1 ?_
      exact⟨rfl,⟨_,rfl⟩,rfl,rfl⟩
    ·have C2:=C y
     rw[show inR y 0 7=false from decide_eq_false h2]at C2
     rw[if_neg (by rw[decide_eq_false fun q=>h2 q.2.1];simp)]
     clear C
     refine y4 ?_;refine yM ?_;refine yt ?_;refine yM ?_;refine yO ?_;refine yF ?_;refine yO ?_;refine yL ?_
     refine yO ?_
     refine yC ?_
     refine FW.pu C1 ?_
     refine yO ?_;refine yA ?_;refine yO ?_;refine yM ?_;refine yO ?_;refine yF ?_;refine yO ?_;refine yL ?_;refine yO ?_
     refine yC ?_
     refine FW.pu C2 ?_
     refine yO ?_;refine yA ?_;refine yO ?_;refine yU ?_;refine yO ?_;refine yM ?_;refine yP ?_;refine yP ?_;refine yP ?_
     refine yP ?_;refine yO ?_;refine yT ?_;refine yT ?_;refine y3 ?_;refine yY ?_;refine wE_region ?_
     refine yM ?_;refine wO_nil ?_;refine y1 ?_
     exact⟨rfl,⟨_,rfl⟩,rfl,rfl⟩
   ·have C1:=C x
    rw[show inR x 0 7=false from decide_eq_false h1]at C1
    rw[if_neg (by rw[decide_eq_false fun q=>h1 q.1];simp)]
    clear C
    refine y4 ?_;refine yM ?_;refine yt ?_;refine yM ?_;refine yO ?_;refine yF ?_;refine yO ?_;refine yL ?_
    refine yO ?_
    refine yC ?_
    refine FW.pu C1 ?_
    refine yO ?_;refine yA ?_;refine yO ?_;refine yM ?_;refine yP ?_;refine yP ?_;refine yP ?_;refine yP ?_;refine yO ?_
    refine yT ?_;refine yO ?_;refine yM ?_;refine yP ?_;refine yP ?_;refine yP ?_;refine yP ?_;refine yO ?_
    refine yT ?_;refine yT ?_;refine y3 ?_;refine yY ?_;refine wE_region ?_;refine yM ?_;refine wO_nil ?_
    refine y1 ?_
    exact⟨rfl,⟨_,rfl⟩,rfl,rfl⟩
  ·rw[if_pos he]
   have m1:numOp .eql (.int .i64 e0) (.int .i64 0)=some (.bool false):=m_eqlF he
   refine y4 ?_;refine yM ?_;refine wO_val (a_num (by exact rfl) (by exact rfl) (by with_reducible assumption)) ?_;refine yM ?_;refine yP ?_;refine yP ?_;refine yP ?_;refine yP ?_
   refine yP ?_;refine wO_off2 (by exact rfl) ?_;refine wO_off2 (by exact rfl) ?_;refine wO_off2 (by exact rfl) ?_;refine wO_off2 (by exact rfl) ?_;refine yP ?_;refine yP ?_;refine wO_off2 (by exact rfl) ?_;refine wO_off2 (by exact rfl) ?_;refine wO_off2 (by exact rfl) ?_
   refine wO_off2 (by exact rfl) ?_;refine yP ?_;refine yU ?_;refine y3 ?_;refine yX ?_;refine wE_skip ?_
   exact⟨rfl,⟨_,rfl⟩,rfl,rfl⟩
 rintro er _ rfl
 have hge:grdE e0 ce=0→e0=0:=fun q=>by
  unfold grdE at q
  by_cases he:e0=0
  ·exact he
  ·rw[if_pos he]at q;exact q
 generalize grdE e0 ce=e1 at*
 by_cases he:e1=0
 ·subst he
  rw[if_neg (fun q=>q rfl)]
  obtain rfl:=hge rfl
  rw[if_pos rfl]at s1
  obtain⟨a1,c1,rfl⟩:=s1.sl.form
  have C4:=having125 F.hv (.of W1) (s1.log []) (by omega) (k:=0) (by omega) ce
  have hle:=havR_le (k:=0) (c:=ce) (l:=cntR day l)
  rw[←insL_sort]
  generalize havR 0 ce (cntR day l)=ids at*
  have ck:ltake 3 (ldrop 0 (ceL ce))=ceL ce:=rfl
  have ckl:Nat.beq (llen (ceL ce)) 3=true:=rfl
  refine wE_seq ?_;refine y4 ?_;refine yM ?_;refine yf ?_;refine y3 ?_;refine yX ?_;refine wE_skip ?_;refine kS_n ?_
  refine y4 ?_;refine yM ?_;refine yN ?_
  refine yC ?_
  refine FW.al C4 (fun v h' m q=>q.log m) ?_
  rintro v5 H5 x5 q5
  clear C4
  have W5:=x5.wf W1
  have hL5:=x5.log.trans hL1
  have n5:=x5.next
  refine yM ?_;refine y3 ?_;refine y4 ?_;refine yM ?_
  refine yC ?_
  refine FW.gs0 (gsSort F.f172 (q5.log []) (by omega)) (fun v h' m q=>q.log m) (fun z hz=>by have:H1.next≤z:=hz;omega) ?_
  rintro v6 H6 n6 l6 o6 w6 q6
  refine y3 ?_;refine y4 ?_;refine yM ?_;refine yM ?_;refine yM ?_;refine y3 ?_;refine wE_ret ?_
  refine endA_ret (l6.trans hL5) rfl ⟨_,rfl,?_⟩
  have:=q6.low (lo':=h.next) (by show h.next≤H1.next;omega)
  rw[←sortI_len ids]at this
  exact this
 ·rw[if_pos he]
  have m1:numOp .neq (.int .i64 e1) (.int .i64 0)=some (.bool true):=m_neqT he
  refine wE_seq ?_;refine y4 ?_;refine yM ?_;refine wO_val (a_num (by exact rfl) (by exact rfl) (by with_reducible assumption)) ?_;refine y3 ?_;refine yY ?_;refine y4 ?_
  refine yM ?_;refine yM ?_;refine yM ?_;refine y3 ?_;refine wE_ret ?_;refine kS_r ?_
  exact endA_ret hL1 rfl ⟨_,rfl, .nil⟩
end Go.A.Pk
end
section
set_option maxRecDepth 100000
namespace Go.A.Pk
variable {T:Nat→Option AFunc}
theorem a_beqF{base:Nat}{h:Heap}{e:Env}{x y:Operand}{a:Bool}(hx:ev h e x=some (.bool a))(hy:ev h e y=some (.bool a)):aop h base e (.bin (.beq true) x y)=some (.val (.bool false) h):=by
 rw[a_beq hx hy]
 cases a<;>rfl
theorem lv_same:∀(l:List Nat),leavesEq (lrep l.length (.i .u64)) (us l) (us l)=some true
 |[]=>rfl
 |x::l=>by
  have:=lv_int (k:= .u64) (a:=(x:Int)) (b:=(x:Int)) (lv_same l)
  show leavesEq (.i .u64::lrep l.length (.i .u64)) (.int .u64 (x:Int)::us l) (.int .u64 (x:Int)::us l)=some true
  simpa using this
theorem w_leaves{w:List Nat×List Nat}(h:IsW w):leavesEq (lrep 16 (.i .u64)) (wL w).toArray.toList (wL w).toArray.toList=some true:=by
 rw[List.toList_toArray]
 have e:wL w=us (w.1++w.2):=by simp[wL,us]
 have:=lv_same (w.1++w.2)
 rw[List.length_append,h.a.len,h.b.len]at this
 rw[e];exact this
theorem c_leaves(c:Ce):leavesEq [.i .i64, .i .i64, .i .i64] (ceL c).toArray.toList (ceL c).toArray.toList=some true:=by
 have h0:leavesEq [] [] []=some true:=rfl
 have:=lv_int (k:= .i64) (a:=c.x) (b:=c.x) (lv_int (k:= .i64) (a:=c.y) (b:=c.y) (lv_int (k:= .i64) (a:=c.z) (b:=c.z) h0))
 simpa[ceL]using this
theorem douR_len(bl:List Nat)(l:List Rd)(day:Int):(douR bl l day).ids.length≤2:=by
 unfold douR
 split
 ·exact Nat.zero_le _
 ·generalize inDoubt bl (cntR day l)=cs
  cases cs with
  |nil=>exact Nat.zero_le _
  |cons c cs=>
   unfold douS douI
   dsimp only
   split<;>simp
theorem resR_len(l:List Rd)(day:Int)(c:Ce):(resR l day c).1.length≤l.length:=by
 unfold resR
 split
 ·exact Nat.zero_le _
 ·rw[insL_len]
  exact Nat.le_trans havR_le (List.length_filter_le ..)
theorem reaR_ok{bl:List Nat}(hb:IsS bl){l:List Rd}(hl:∀r∈l,IsR r){r:Rd}(hR:IsR r):IsS (reaR bl l r).1:=by
 have hA:=seenW_ok hb (l:=cntR r.known l) fun z hz=>hl z (List.mem_filter.1 hz).1
 have hB:=seenW_ok hb (l:=cntR r.known (l++[r])) fun z hz=>by
  have:=(List.mem_filter.1 hz).1
  rcases List.mem_append.1 this with h|h
  ·exact hl z h
  ·rw[List.mem_singleton.1 h];exact hR
 unfold reaR
 split
 ·exact s0_ok
 ·exact IsS.join ((hA.a.less hB.a).join (hB.a.less hA.a)) ((hA.b.less hB.b).join (hB.b.less hA.b))
structure FnsL18 (T:Nat→Option AFunc):Prop where
 d6:FnsD6 T
 d7:FnsD7 T
 r6:FnsR6 T
 r7:FnsR7 T
 re:FnsRe T
 f18:T 18=some f18
 f21:T 21=some (.prim pSd)
 f75:T 75=some f75
set_option maxHeartbeats 32000000 in
theorem law18(F:FnsL18 T){h:Heap}(hr:Rdy h)(hg:Tab h)(h2:2<h.next){bl:List Nat}(hb:IsS bl){a:Option Addr}{n c:Nat}{l:List Rd}(s:RdS h (.slice a n c) l)(day:Int)(ce:Ce){r:Rd}(hR:IsR r):
 Pu T 18 [sv bl, .slice a n c, .int .i64 day,ceV ce,rdV r] h (.bool true):=by
 have hp:=F.re.on.p
 refine .of hp F.f18 hr rfl ?_
 obtain rfl:=s.len
 have k8:=us_llen hb.len
 have k9:=us_take8 hb.len
 have k12:=rdL_all hR
 have l12:=rdL_llen hR
 have ck:ltake 3 (ldrop 0 (ceL ce))=ceL ce:=rfl
 have ckl:Nat.beq (llen (ceL ce)) 3=true:=rfl
 have g0:(((h.push (.cells (cellsOf (sv bl)) true 1)).push (.cells (cellsOf (ceV ce)) true 1)).push (.cells (cellsOf (rdV r)) true 1)).get h.next=some (.cells (us bl) true 1):=(z4 (by show h.next<h.next+1+1;omega)).trans ((z4 (Nat.lt_succ_self _)).trans (z3 h _))
 have ga:(((h.push (.cells (cellsOf (sv bl)) true 1)).push (.cells (cellsOf (ceV ce)) true 1)).push (.cells (cellsOf (rdV r)) true 1)).get (h.next+1)=some (.cells (ceL ce) true 1):=(z4 (by show h.next+1<h.next+1+1;omega)).trans (z3 _ _)
 have gb:(((h.push (.cells (cellsOf (sv bl)) true 1)).push (.cells (cellsOf (ceV ce)) true 1)).push (.cells (cellsOf (rdV r)) true 1)).get (h.next+2)=some (.cells (rdL r) true 1):=z3 _ _
 have n0:(((h.push (.cells (cellsOf (sv bl)) true 1)).push (.cells (cellsOf (ceV ce)) true 1)).push (.cells (cellsOf (rdV r)) true 1)).next=h.next+3:=rfl
 have x0:Ext h (((h.push (.cells (cellsOf (sv bl)) true 1)).push (.cells (cellsOf (ceV ce)) true 1)).push (.cells (cellsOf (rdV r)) true 1)):=(((Ext.refl h).push _).push _).push _
 refine y4 ?_;refine yB ?_;refine yB ?_;refine yB ?_;refine yM ?_;refine y3 ?_
 generalize(((h.push (.cells (cellsOf (sv bl)) true 1)).push (.cells (cellsOf (ceV ce)) true 1)).push (.cells (cellsOf (rdV r)) true 1))=H at*
 have hL:H.log=[]:=x0.log.trans hr.log
 have W:=x0.wf hr.wf
 have hgH:Tab H:=hg.ext x0 h2
 have C0:Pu T 21 [] {H with log:=[]} (.bool true):=puSd F.f21 hgH
 by_cases hn:40<l.length
 ·refine wE_seq ?_;refine y4 ?_;refine yM ?_;refine yD ?_;refine yt ?_;refine y3 ?_;refine yY ?_
  refine y4 ?_
  refine yC ?_
  refine FW.pu C0 ?_
  refine yM ?_;refine y3 ?_;refine wE_ret ?_;refine kS_r ?_
  exact endP_ret hL rfl rfl
 clear C0
 have K1:=known37 F.re.k7 (.of W) hb ((s.ext x0).log []) (by omega) day
 have hw:IsW (knoR bl l day).1:=by
  unfold knoR
  split
  ·exact w0_ok
  ·split
   ·exact seenW_ok hb fun z hz=>s.ok z (List.mem_filter.1 hz).1
   ·exact w0_ok
 have K2':=fun {H':Heap} (hr':Rdy H') (s':RdS H' (.slice a l.length c) l)=>known73 F.re.k7 hr' hb s' (by omega) day
 unfold knoV at K1 K2'
 generalize(knoR bl l day).1=w at*
 generalize(knoR bl l day).2=e1 at*
 have wl:=wL_length hw
 have wo:=wL_ones w
 have wk:=wL_all hw
 have wka:=wL_llen hw
 have x1:=ext_pw (h:=H) (base:=h.next) (by omega) (.cells (lrep 16 (.int .u64 0)) true 1) (.cells (wL w) true 1)
 have q1:=get_pw (h:=H) (base:=h.next) (lrep 16 (.int .u64 0)) (wL w)
 have n1:((H.push (.cells (lrep 16 (.int .u64 0)) true 1)).wr h.next H.next (.cells (wL w) true 1)).next=H.next+1:=rfl
 refine wE_seq ?_;refine y4 ?_;refine yM ?_;refine yD ?_;refine yf ?_;refine y3 ?_;refine yX ?_
 refine wE_skip ?_;refine kS_n ?_;refine y4 ?_;refine wO_val (a_loadN (by exact rfl) (by assumption) (by assumption) (by assumption)) ?_;refine yM ?_;refine yM ?_
 refine yC ?_
 refine FW.pu K1 ?_
 clear K1
 refine yM ?_;refine yE ?_;refine yE ?_;refine wO_val (a_new) ?_
 refine wO_val (a_storeAll (by exact rfl) (by exact rfl) (by(simp(disch:=first|omega|(simp only[z1,z2];omega))only[z3,z4,z5,z6,z7,z1,z2,g0,ga,gb,q1];exact rfl)) (by assumption) (by exact rfl) (by assumption)) ?_;refine yM ?_
 refine y3 ?_
 generalize((H.push (.cells (lrep 16 (.int .u64 0)) true 1)).wr h.next H.next (.cells (wL w) true 1))=H1 at*
 have ey1':=x0.trans x1
 have W1:=ey1'.wf hr.wf
 have hL1:=ey1'.log.trans hr.log
 have gs1:=(x1.old _ (by omega)).trans g0
 have ga1:=(x1.old _ (by omega)).trans ga
 have gb1:=(x1.old _ (by omega)).trans gb
 have K2:=K2' (.of W1) ((s.ext ey1').log [])
 clear g0 ga gb K2'
 have x2:=ext_pw (h:=H1) (base:=h.next) (by omega) (.cells (lrep 16 (.int .u64 0)) true 1) (.cells (wL w) true 1)
 have q2:=get_pw (h:=H1) (base:=h.next) (lrep 16 (.int .u64 0)) (wL w)
 have n2:((H1.push (.cells (lrep 16 (.int .u64 0)) true 1)).wr h.next H1.next (.cells (wL w) true 1)).next=H1.next+1:=rfl
 refine y4 ?_;refine wO_val (a_loadN (by exact rfl) (by assumption) (by assumption) (by assumption)) ?_;refine yM ?_;refine yM ?_
 refine yC ?_
 refine FW.pu K2 ?_
 clear K2
 refine yM ?_;refine yE ?_;refine yE ?_;refine wO_val (a_new) ?_
 refine wO_val (a_storeAll (by exact rfl) (by exact rfl) (by(simp(disch:=first|omega|(simp only[z1,z2];omega))only[z3,z4,z5,z6,z7,z1,z2,q1,gs1,ga1,gb1,q2];exact rfl)) (by assumption) (by exact rfl) (by assumption)) ?_;refine yM ?_
 refine y3 ?_
 generalize((H1.push (.cells (lrep 16 (.int .u64 0)) true 1)).wr h.next H1.next (.cells (wL w) true 1))=H2 at*
 have ey2':=ey1'.trans x2
 have W2:=ey2'.wf hr.wf
 have hL2:=ey2'.log.trans hr.log
 have gs2:=(x2.old _ (by omega)).trans gs1
 have ga2:=(x2.old _ (by omega)).trans ga1
 have gb2:=(x2.old _ (by omega)).trans gb1
 have q12:=(x2.old _ (by omega)).trans q1
 have K3:=doubt36 F.d6 (h:={H2 with log:=[]}) (.of W2) (show Tab H2 from hg.ext ey2' h2) (by show 2<H2.next;omega) hb ((s.ext ey2').log []) (by omega) day
 have K4':=fun {H':Heap} (hr':Rdy H') (s':RdS H' (.slice a l.length c) l)=>doubt74 F.d7 hr' hb s' (by omega) day
 have hdl:=douR_len bl l day
 clear gs1 ga1 gb1 q1
 generalize douR bl l day=p at*
 refine y4 ?_;refine wO_val (a_loadN (by exact rfl) (by assumption) (by assumption) (by assumption)) ?_;refine yM ?_;refine yM ?_
 refine yC ?_
 refine FW.al K3 (fun v h' m q=>by obtain⟨u,e,s⟩:=q;exact⟨u,e,s.log m⟩) ?_
 rintro _ H3 x3 ⟨u3,rfl,s3⟩
 clear K3
 have n3:=x3.next
 have x4:=ext_pw (h:=H3) (base:=h.next) (by omega) (.cells [I.O,I.O,I.O] true 1) (.cells (lputs [I.O,I.O,I.O] 0 (cellsOf (ceV p.c))) true 1)
 have q4:((H3.push (.cells [I.O,I.O,I.O] true 1)).wr h.next H3.next (.cells (lputs [I.O,I.O,I.O] 0 (cellsOf (ceV p.c))) true 1)).get H3.next=some (.cells (ceL p.c) true 1):=get_pw _ _
 have n4:((H3.push (.cells [I.O,I.O,I.O] true 1)).wr h.next H3.next (.cells (lputs [I.O,I.O,I.O] 0 (cellsOf (ceV p.c))) true 1)).next=H3.next+1:=rfl
 have hL3:=x3.log.trans hL2
 refine yM ?_;refine yE ?_;refine yE ?_;refine yE ?_;refine yE ?_;refine wO_val (a_new) ?_
 refine yS ?_;refine yM ?_
 refine yM ?_;refine yM ?_;refine y3 ?_
 generalize((H3.push (.cells [I.O,I.O,I.O] true 1)).wr h.next H3.next (.cells (lputs [I.O,I.O,I.O] 0 (cellsOf (ceV p.c))) true 1))=H4 at*
 have x24:=x3.trans x4
 have ey4':=ey2'.trans x24
 have W4:=ey4'.wf hr.wf
 have hL4:=ey4'.log.trans hr.log
 have gs4:=(x24.old _ (by omega)).trans gs2
 have ga4:=(x24.old _ (by omega)).trans ga2
 have gb4:=(x24.old _ (by omega)).trans gb2
 have q14:=(x24.old _ (by omega)).trans q12
 have q24:=(x24.old _ (by omega)).trans q2
 have s34:=s3.ext x4
 have K4:=K4' (.of W4) ((s.ext ey4').log [])
 clear gs2 ga2 gb2 q12 q2 s3 K4'
 refine y4 ?_;refine wO_val (a_loadN (by exact rfl) (by assumption) (by assumption) (by assumption)) ?_;refine yM ?_;refine yM ?_
 refine yC ?_
 refine FW.al K4 (fun v h' m q=>by obtain⟨u,e,s⟩:=q;exact⟨u,e,s.log m⟩) ?_
 rintro _ H5 x5 ⟨u5,rfl,s5⟩
 clear K4
 have n5:=x5.next
 have x6:=ext_pw (h:=H5) (base:=h.next) (by omega) (.cells [I.O,I.O,I.O] true 1) (.cells (lputs [I.O,I.O,I.O] 0 (cellsOf (ceV p.c))) true 1)
 have q6:((H5.push (.cells [I.O,I.O,I.O] true 1)).wr h.next H5.next (.cells (lputs [I.O,I.O,I.O] 0 (cellsOf (ceV p.c))) true 1)).get H5.next=some (.cells (ceL p.c) true 1):=get_pw _ _
 have n6:((H5.push (.cells [I.O,I.O,I.O] true 1)).wr h.next H5.next (.cells (lputs [I.O,I.O,I.O] 0 (cellsOf (ceV p.c))) true 1)).next=H5.next+1:=rfl
 have hL5:=x5.log.trans hL4
 refine yM ?_;refine yE ?_;refine yE ?_;refine yE ?_;refine yE ?_;refine wO_val (a_new) ?_
 refine yS ?_;refine yM ?_
 refine yM ?_;refine yM ?_;refine y3 ?_
 generalize((H5.push (.cells [I.O,I.O,I.O] true 1)).wr h.next H5.next (.cells (lputs [I.O,I.O,I.O] 0 (cellsOf (ceV p.c))) true 1))=H6 at*
 have x46:=x5.trans x6
 have ey6':=ey4'.trans x46
 have W6:=ey6'.wf hr.wf
 have hL6:=ey6'.log.trans hr.log
 have gs6:=(x46.old _ (by omega)).trans gs4
 have ga6:=(x46.old _ (by omega)).trans ga4
 have gb6:=(x46.old _ (by omega)).trans gb4
 have q16:=(x46.old _ (by omega)).trans q14
 have q26:=(x46.old _ (by omega)).trans q24
 have q46:=(x46.old _ (by omega)).trans q4
 have s36:=s34.ext x46
 have s56:=s5.ext x6
 obtain⟨a3,c3,rfl⟩:=s36.form
 obtain⟨a5,c5,rfl⟩:=s56.form
 have M1:=sameInts75 hp F.f75 (.of W6) (s36.log []) (s56.log []) (by omega) (by omega)
 rw[decide_eq_true rfl]at M1
 have Lw:=w_leaves hw
 have Lc:=c_leaves p.c
 have ckp:ltake 3 (ldrop 0 (ceL p.c))=ceL p.c:=rfl
 have ckpl:Nat.beq (llen (ceL p.c)) 3=true:=rfl
 have K5:=rests76 F.r6 (.of W6) hb ((s.ext ey6').log []) (by omega) day ce
 have K6':=fun {H':Heap} (hr':Rdy H') (s':RdS H' (.slice a l.length c) l)=>rests77 F.r7 hr' hb s' (by omega) day ce
 have hrl:=resR_len l day ce
 generalize resR l day ce=rp at*
 clear gs4 ga4 gb4 q14 q24 q4 s34 s5
 refine wE_seq ?_;refine y4 ?_;refine wO_val (a_loadN (by exact rfl) (by assumption) (by assumption) (by assumption)) ?_;refine wO_val (a_loadN (by exact rfl) (by assumption) (by assumption) (by assumption)) ?_;refine wO_val (a_agg (by exact rfl) (by exact rfl) (by assumption)) ?_;refine yM ?_;refine yO ?_
 refine yM ?_;refine yO ?_;refine yM ?_;refine yO ?_;refine yf ?_;refine yU ?_;refine yM ?_;refine yO ?_
 refine yN ?_;refine yO ?_;refine yN ?_;refine yO ?_;refine wO_val (a_agg (by exact rfl) (by exact rfl) (by assumption)) ?_;refine yU ?_
 refine yM ?_;refine yO ?_;refine yM ?_;refine yO ?_;refine yM ?_;refine yO ?_
 refine yC ?_
 refine FW.pu M1 ?_
 clear M1
 refine yO ?_;refine yA ?_;refine yU ?_;refine yM ?_;refine yO ?_;refine yM ?_;refine yO ?_;refine yM ?_;refine yO ?_
 refine wO_val (a_beqF (by exact rfl) (by exact rfl)) ?_;refine yU ?_;refine yM ?_;refine yO ?_;refine yM ?_;refine yO ?_;refine yM ?_;refine yO ?_
 refine yf ?_;refine yU ?_;refine y3 ?_;refine yX ?_;refine wE_skip ?_;refine kS_n ?_;refine y4 ?_
 refine wO_val (a_loadN (by exact rfl) (by assumption) (by assumption) (by assumption)) ?_;refine yM ?_;refine yM ?_;refine yN ?_
 refine yC ?_
 refine FW.al K5 (fun v h' m q=>by obtain⟨u,e,s⟩:=q;exact⟨u,e,s.log m⟩) ?_
 rintro _ H7 x7 ⟨u7,rfl,s7⟩
 clear K5 s36 s56
 have n7:=x7.next
 have ey7':=ey6'.trans x7
 have W7:=ey7'.wf hr.wf
 have hL7:=ey7'.log.trans hr.log
 have gs7:=(x7.old _ (by omega)).trans gs6
 have ga7:=(x7.old _ (by omega)).trans ga6
 have K6:=K6' (.of W7) ((s.ext ey7').log [])
 clear K6'
 refine yM ?_;refine yE ?_;refine yE ?_;refine yM ?_;refine yM ?_;refine y3 ?_;refine y4 ?_;refine wO_val (a_loadN (by exact rfl) (by assumption) (by assumption) (by assumption)) ?_;refine yM ?_;refine yM ?_;refine yN ?_
 refine yC ?_
 refine FW.al K6 (fun v h' m q=>by obtain⟨u,e,s⟩:=q;exact⟨u,e,s.log m⟩) ?_
 rintro _ H8 x8 ⟨u8,rfl,s8⟩
 clear K6
 have n8:=x8.next
 have x68:=x7.trans x8
 have ey8':=ey6'.trans x68
 have W8:=ey8'.wf hr.wf
 have hL8:=ey8'.log.trans hr.log
 have gs8:=(x68.old _ (by omega)).trans gs6
 have gb8:=(x68.old _ (by omega)).trans gb6
 have q18:=(x68.old _ (by omega)).trans q16
 have q28:=(x68.old _ (by omega)).trans q26
 have s78:=s7.ext x8
 have hIr:IsS (reaR bl l r).1:=reaR_ok hb s.ok hR
 have K7:=reached78 F.re (.of W8) hb ((s.ext ey8').log []) (by omega) hR
 have K8':=fun {H':Heap} (hr':Rdy H') (s':RdS H' (.slice a l.length c) l)=>reached79 F.re hr' hb s' (by omega) hR
 unfold reaV at K7 K8'
 generalize(reaR bl l r).1=rs at*
 generalize(reaR bl l r).2=re2 at*
 have kc:(Nat.beq (llen (cellsOf (sv rs))) 8&&Nat.ble (0+8) (llen (wL w))&&ones (cellsOf (sv rs)))=true:=by
  have e:cellsOf (sv rs)=us rs:=by show(us _).toArray.toList=_;simp
  rw[e,us_llen hIr.len,us_ones,llen_eq,wL_length hw];rfl
 have kw:lputs (wL w) (0+0) (cellsOf (sv rs))=wL (rs,w.2):=by
  have e:cellsOf (sv rs)=us rs:=by show(us _).toArray.toList=_;simp
  rw[e];exact wL_putA hw hIr
 clear gs6 ga6 gb6 q16 q26 q46 q6 gs7 ga7 s7
 refine yM ?_;refine yE ?_;refine yE ?_;refine yM ?_;refine yM ?_;refine y3 ?_;refine y4 ?_;refine wO_val (a_loadN (by exact rfl) (by assumption) (by assumption) (by assumption)) ?_;refine yM ?_;refine wO_val (a_loadN (by exact rfl) (by assumption) (by assumption) (by assumption)) ?_
 refine yC ?_
 refine FW.pu K7 ?_
 clear K7
 refine yM ?_;refine yE ?_;refine yE ?_;refine yF ?_
 refine wO_val (a_store (by exact rfl) (by exact rfl) q18 kc kw) ?_
 have o9:∀z,z≠H.next→(H8.wr h.next H.next (.cells (wL (rs,w.2)) true 1)).get z=H8.get z:=fun z hz=>z5 hz
 have q19:(H8.wr h.next H.next (.cells (wL (rs,w.2)) true 1)).get H.next=some (.cells (wL (rs,w.2)) true 1):=by rw[z6,q18];rfl
 have hL9:(H8.wr h.next H.next (.cells (wL (rs,w.2)) true 1)).log=[]:=(Heap.log_wr_new (by omega)).trans hL8
 have n9:(H8.wr h.next H.next (.cells (wL (rs,w.2)) true 1)).next=H8.next:=rfl
 have W9:WF (H8.wr h.next H.next (.cells (wL (rs,w.2)) true 1)):=W8.as (AS.wr h.next _ _ _)
 generalize(H8.wr h.next H.next (.cells (wL (rs,w.2)) true 1))=H9 at*
 have ey9':Ext h H9:=⟨by have:=ey8'.next;omega,hL9.trans hr.log.symm,fun b hb=>(o9 b (by omega)).trans (ey8'.old b hb),fun _=>W9⟩
 have gs9:=(o9 _ (by omega)).trans gs8
 have gb9:=(o9 _ (by omega)).trans gb8
 have q29:=(o9 _ (by omega)).trans q28
 have s79:=s78.keep (h':=H9) (by omega) fun z hz _=>o9 z (by have:H6.next≤z:=hz;omega)
 have s89:=s8.keep (h':=H9) (by omega) fun z hz _=>o9 z (by have:H7.next≤z:=hz;omega)
 have K8:=K8' (.of W9) ((s.ext ey9').log [])
 clear K8' gs8 gb8 q18 q28 s78 s8 o9
 refine yM ?_;refine y3 ?_;refine y4 ?_;refine wO_val (a_loadN (by exact rfl) (by assumption) (by assumption) (by assumption)) ?_;refine yM ?_
 refine wO_val (a_loadN (by exact rfl) (by assumption) (by assumption) (by assumption)) ?_
 refine yC ?_
 refine FW.pu K8 ?_
 clear K8
 refine yM ?_;refine yE ?_;refine yE ?_;refine yF ?_
 refine wO_val (a_store (by exact rfl) (by exact rfl) q29 kc kw) ?_
 have o10:∀z,z≠H1.next→(H9.wr h.next H1.next (.cells (wL (rs,w.2)) true 1)).get z=H9.get z:=fun z hz=>z5 hz
 have q210:(H9.wr h.next H1.next (.cells (wL (rs,w.2)) true 1)).get H1.next=some (.cells (wL (rs,w.2)) true 1):=by rw[z6,q29];rfl
 have hL10:(H9.wr h.next H1.next (.cells (wL (rs,w.2)) true 1)).log=[]:=(Heap.log_wr_new (by omega)).trans hL9
 have n10:(H9.wr h.next H1.next (.cells (wL (rs,w.2)) true 1)).next=H9.next:=rfl
 have W10:WF (H9.wr h.next H1.next (.cells (wL (rs,w.2)) true 1)):=W9.as (AS.wr h.next _ _ _)
 generalize(H9.wr h.next H1.next (.cells (wL (rs,w.2)) true 1))=H10 at*
 have ey10':Ext h H10:=⟨by have:=ey9'.next;omega,hL10.trans hr.log.symm,fun b hb=>(o10 b (by omega)).trans (ey9'.old b hb),fun _=>W10⟩
 have q110:=(o10 _ (by omega)).trans q19
 have s710:=(s79.keep (h':=H10) (by omega) fun z hz _=>o10 z (by have:H6.next≤z:=hz;omega)).slice (by omega)
 have s810:=(s89.keep (h':=H10) (by omega) fun z hz _=>o10 z (by have:H7.next≤z:=hz;omega)).slice (by omega)
 obtain⟨a7,c7,rfl⟩:=s710.form
 obtain⟨a8,c8,rfl⟩:=s810.form
 have M2:=sameInts75 hp F.f75 (.of W10) (SliceOf.log s710 []) (SliceOf.log s810 []) (by omega) (by omega)
 rw[decide_eq_true rfl]at M2
 have C0':Pu T 21 [] {H10 with log:=[]} (.bool true):=puSd F.f21 (show Tab H10 from hg.ext ey10' h2)
 have hw2:IsW (rs,w.2):=⟨hIr,hw.b⟩
 have Lw2:=w_leaves hw2
 have wl2:=wL_length hw2
 have wo2:=wL_ones (rs,w.2)
 have wk2:=wL_all hw2
 have wka2:=wL_llen hw2
 refine yM ?_;refine y3 ?_;refine y4 ?_
 refine yC ?_
 refine FW.pu C0' ?_
 refine yM ?_;refine yO ?_;refine yM ?_;refine yO ?_;refine yM ?_;refine yO ?_
 refine yC ?_
 refine FW.pu M2 ?_
 refine yT ?_;refine yM ?_;refine yO ?_;refine yM ?_;refine yO ?_;refine yM ?_;refine yO ?_;refine yt ?_
 refine yT ?_;refine yM ?_;refine yO ?_;refine wO_val (a_loadN (by exact rfl) (by assumption) (by assumption) (by assumption)) ?_;refine yO ?_;refine wO_val (a_loadN (by exact rfl) (by assumption) (by assumption) (by assumption)) ?_;refine yO ?_
 refine wO_val (a_agg (by exact rfl) (by exact rfl) (by assumption)) ?_;refine yT ?_;refine yM ?_;refine yO ?_;refine yM ?_;refine yO ?_;refine yM ?_;refine yO ?_
 refine yt ?_;refine yT ?_;refine yM ?_;refine y3 ?_;refine wE_ret ?_
 exact endP_ret hL10 rfl rfl
end Go.A.Pk
end
section
namespace Go.A
open Go.ChangeShapes Go.WideShapes Go.ChangeAt Go.RowKit
section
variable {H:Type} {enc:TypeId×Value→H} {P:Program}
theorem trodAll_stays(hl:laidOutB P=true){W W':World}(hb:Below W.heap.size W W'):∀{ts:List TypeId} {vs:List Value} {ds:List (DataW H)} {ps:List MemPlace},(∀t∈ts,P.readableRec t=true∧t<P.types.size)→DataW.TrodAll enc P W 0 (fun _=>true) true ts vs ds ps→
 (∀x∈ps,x.block<W.heap.size)→DataW.TrodAll enc P W' 0 (fun b=>decide (b<W.heap.size)) true ts vs ds ps
 |[],vs,ds,ps,_,h,_=>by
  obtain⟨rfl,rfl,rfl⟩:=trodAll_nil h
  exact trodAll_mk0
 |t::ts,vs,ds,ps,hr,h,hlt=>by
  obtain⟨v,vs',d,ds',p,q,rfl,rfl,rfl,hd,hrest⟩:=trodAll_cons h
  have h1:=hr t (List.mem_cons_self ..)
  exact⟨p,q,Below.trod hl h1.1 h1.2 hd hb fun x hx=>hlt x (List.mem_append_left _ hx),trodAll_stays hl hb (fun t ht=>hr t (List.mem_cons_of_mem _ ht)) hrest fun x hx=>hlt x (List.mem_append_right _ hx),rfl⟩
theorem law_post{f:Func}{s:ChangeSpec}{W W':World}{args:Array Value}{ds gs:List (DataW H)}{before:List MemPlace}{tb:TypeId}(hW:DataW.Whole enc P f.params.toList s.vars false W args.toList ds gs before)(hv:s.vars=[])
 (hfn:(s.fn H ds).results=[.lit (.bool true)]∧(s.fn H ds).args=ds∧(s.fn H ds).vars=[])(hl:laidOutB P=true)(hr:∀t∈f.params.toList,P.readableRec t=true∧t<P.types.size)(hres:f.resultTypes= #[tb])(htb:P.underlying tb=some .bool)(hb:Below W.heap.size W W'):
 s.post enc P f false true false false W args (.bool true) W':=by
 have hW':=hW
 obtain⟨p,q,hA,hV,hpq,hz,hn⟩:=hW
 rw[hv]at hV
 obtain⟨rfl,rfl⟩:=trodVars_none hV
 have hbp:before=p:=by simpa using hpq
 subst hbp
 obtain⟨h1,h2,h3⟩:=hfn
 have hlt:∀x∈before,x.block<W.heap.size:=fun x hx=>by simpa using hW'.lt x hx
 refine⟨ds,[],before,[],before,[],hW',?_,?_,?_,hb.frame _,fun h=>by cases h⟩
 ·rw[List.append_nil,h1,hres]
  exact trodAll_cons_mk (shut_bool htb _) trodAll_mk0
 ·rw[List.append_nil,h2]
  exact trodAll_stays hl hb hr hA hlt
 ·rw[List.append_nil,h3,hv]
  rfl
end
end Go.A
end
section
set_option maxRecDepth 100000
namespace Go.A.Pk
open Go Go.Proofs Go.Joins Go.ChangeShapes Go.WideShapes Go.RowKit Go.Deep
inductive CellsAt (W:World) (sz:Nat):Value→Nat→List Value→Prop
 |nil:CellsAt W sz (.slice none 0 0) 0 []
 |empty {b o cap c el fz}:W.heap[b]? =some (.cells c el fz)→cap<UNK→CellsAt W sz (.slice (some ⟨b,o,none⟩) 0 cap) 0 []
 |full {b o cap n c el fz} {cs:List Value}:W.heap[b]? =some (.cells c el fz)→n≠0→cs.length=n*sz→0<sz→n≤cap→cap<UNK→(∀j,j<n*sz→c[o+j]? =cs[j]?)→(∀x∈cs,noRef x=true)→CellsAt W sz (.slice (some ⟨b,o,none⟩) n cap) n cs
structure Ob where
 vs:List Value
 sz:Nat
 b:Nat
 d:Nat
 e:Nat
def obsL:Nat→List Ob→List (Nat×AObj)
 |_,[]=>[]
 |n,o::l=>(n, .cells o.vs false o.sz)::obsL (n+1) l
abbrev Gl:=List (Nat×List Value)
def glL(G:Gl)(l:List (Nat×AObj)):List (Nat×AObj):=match G with
 |[]=>l
 |(g,vs)::G=>(g, .cells vs false 1)::glL G l
def glM(G:Gl)(f:Mu):Mu:=match G with
 |[]=>f
 |(g,vs)::G=>fun x=>if x=g then some ⟨g,0,vs.length,1⟩else glM G f x
def obH(G:Gl)(l:List Ob):Heap:=⟨glL G (obsL 1000 l),1000+l.length,[]⟩
def obM(G:Gl)(l:List Ob):Mu:=glM G fun x=>if 1000≤x then(l[x-1000]?).map fun o=>⟨o.b,o.d,o.e,o.sz⟩else none
structure ObOk (W:World) (μ:Mu) (o:Ob):Prop where
 ok:∃c el fz,W.heap[o.b]? =some (.cells c el fz)∧o.d+o.vs.length≤o.e∧o.e≤c.size∧∀i,i<o.vs.length→∃v',c[o.d+i]? =some v'∧VR μ (gv o.vs i) v'
theorem obsL_get:∀(l:List Ob) (n x:Nat),getO (obsL n l) x=if n≤x then(l[x-n]?).map fun o=> .cells o.vs false o.sz else none
 |[],n,x=>by simp[obsL,getO]
 |o::l,n,x=>by
  simp only[obsL,getO,cond_eq_ite,beq_eq,decide_eq_true_eq]
  by_cases hx:n=x
  ·subst hx
   rw[if_pos rfl,if_pos (Nat.le_refl _),Nat.sub_self]
   rfl
  ·rw[if_neg hx,obsL_get l (n+1) x]
   by_cases h1:n≤x
   ·rw[if_pos h1,if_pos (by omega),show x-n=(x-(n+1))+1 by omega,List.getElem?_cons_succ]
   ·rw[if_neg h1,if_neg (by omega)]
structure GlOk (W:World) (G:Gl):Prop where
 ok:∀q∈G,q.1<Tryz.prog.globals.size∧(∃t fz,W.heap[q.1]? =some (.cells q.2.toArray t fz))∧∀v∈q.2,noRef v=true
 nd:(G.map (·.1)).Nodup
theorem glL_get(G:Gl)(l:List (Nat×AObj))(x:Nat):(∃vs,(x,vs)∈G∧getO (glL G l) x=some (.cells vs false 1))∨((∀vs,(x,vs) ∉ G)∧getO (glL G l) x=getO l x):=by
 induction G with
 |nil=>exact .inr ⟨fun vs h=>(nomatch h),rfl⟩
 |cons q G ih=>
  obtain⟨g,vs⟩:=q
  by_cases hx:x=g
  ·subst hx
   refine .inl ⟨vs,List.mem_cons_self,?_⟩
   simp[glL,getO]
  ·have e:getO (glL ((g,vs)::G) l) x=getO (glL G l) x:=by
    simp only[glL,getO,cond_eq_ite,beq_eq,decide_eq_true_eq,if_neg (Ne.symm hx)]
   rw[e]
   rcases ih with⟨us,h1,h2⟩|⟨h1,h2⟩
   ·exact .inl ⟨us,List.mem_cons_of_mem _ h1,h2⟩
   ·exact .inr ⟨fun us h=>by
     rcases List.mem_cons.1 h with h|h
     ·cases h;exact hx rfl
     ·exact h1 us h,h2⟩
theorem glM_get{G:Gl}(hn:(G.map (·.1)).Nodup)(f:Mu)(x:Nat):(∀vs,(x,vs)∈G→glM G f x=some ⟨x,0,vs.length,1⟩)∧((∀vs,(x,vs) ∉ G)→glM G f x=f x):=by
 induction G with
 |nil=>exact⟨fun vs h=>by(cases h),fun _=>rfl⟩
 |cons q G ih=>
  obtain⟨g,us⟩:=q
  rw[List.map_cons,List.nodup_cons]at hn
  obtain⟨i1,i2⟩:=ih hn.2
  refine⟨fun vs h=> ?_,fun h=> ?_⟩
  ·rcases List.mem_cons.1 h with h|h
   ·cases h
    simp[glM]
   ·have:x≠g:=fun e=>hn.1 (List.mem_map.2 ⟨(x,vs),h,e⟩)
    simp only[glM,if_neg this]
    exact i1 vs h
  ·have:x≠g:=fun e=>h us (by rw[e];exact List.mem_cons_self)
   simp only[glM,if_neg this]
   exact i2 fun vs hv=>h vs (List.mem_cons_of_mem _ hv)
theorem glob1000{n:Nat}(h:n<Tryz.prog.globals.size):n<1000:=by
 have:=globs_le;omega
theorem obH_get{W:World}{G:Gl}(hG:GlOk W G)(l:List Ob)(x:Nat)(h:1000≤x):(obH G l).get x=(l[x-1000]?).map fun o=> .cells o.vs false o.sz:=by
 show getO (glL G (obsL 1000 l)) x=_
 rcases glL_get G (obsL 1000 l) x with⟨vs,h1,_⟩|⟨_,h2⟩
 ·have:=glob1000 (hG.ok _ h1).1
  simp only at this;omega
 ·rw[h2,obsL_get,if_pos h]
theorem obM_get{W:World}{G:Gl}(hG:GlOk W G)(l:List Ob)(x:Nat)(h:1000≤x):obM G l x=(l[x-1000]?).map fun o=>⟨o.b,o.d,o.e,o.sz⟩:=by
 unfold obM
 rw[(glM_get hG.nd _ x).2 fun vs hv=>by have:=glob1000 (hG.ok _ hv).1;simp only at this;omega,if_pos h]
theorem obH_gl{W:World}{G:Gl}(hG:GlOk W G)(l:List Ob){g:Nat}{vs:List Value}(h:(g,vs)∈G):(obH G l).get g=some (.cells vs false 1):=by
 show getO (glL G (obsL 1000 l)) g=_
 rcases glL_get G (obsL 1000 l) g with⟨us,h1,h2⟩|⟨h1,_⟩
 ·rw[h2]
  have e:us=vs:=by
   have q1:=(glM_get hG.nd (fun _=>none) g).1 _ h
   clear h2
   have hn:=hG.nd
   clear hG q1
   induction G with
   |nil=>cases h
   |cons q G ih=>
    rw[List.map_cons,List.nodup_cons]at hn
    rcases List.mem_cons.1 h with e1|e1
    ·rcases List.mem_cons.1 h1 with e2|e2
     ·rw[←e1]at e2;exact(Prod.mk.inj e2).2
     ·exact(hn.1 (List.mem_map.2 ⟨_,e2,by rw[←e1]⟩)).elim
    ·rcases List.mem_cons.1 h1 with e2|e2
     ·exact(hn.1 (List.mem_map.2 ⟨_,e1,by rw[←e2]⟩)).elim
     ·exact ih e1 e2 hn.2
  rw[e]
 ·exact(h1 vs h).elim
theorem obH_some{W:World}{G:Gl}(hG:GlOk W G){l:List Ob}{x:Nat}{a:AObj}(h:(obH G l).get x=some a):(∃vs,(x,vs)∈G∧a= .cells vs false 1∧obM G l x=some ⟨x,0,vs.length,1⟩)∨(1000≤x∧∃o,l[x-1000]? =some o∧a= .cells o.vs false o.sz∧obM G l x=some ⟨o.b,o.d,o.e,o.sz⟩):=by
 have h':getO (glL G (obsL 1000 l)) x=some a:=h
 rcases glL_get G (obsL 1000 l) x with⟨vs,h1,h2⟩|⟨h1,h2⟩
 ·rw[h2]at h'
  cases h'
  exact .inl ⟨vs,h1,rfl,(glM_get hG.nd _ x).1 vs h1⟩
 ·rw[h2,obsL_get]at h'
  split at h'
  ·rename_i h8
   cases hl:l[x-1000]? with
   |none=>rw[hl]at h';cases h'
   |some o=>
    rw[hl]at h';cases h'
    exact .inr ⟨h8,o,rfl,rfl,by rw[obM_get hG l x h8,hl];rfl⟩
  ·cases h'
theorem obM_some{W:World}{G:Gl}(hG:GlOk W G){l:List Ob}{x:Nat}{k:Blk}(h:obM G l x=some k):(∃vs,(x,vs)∈G∧k=⟨x,0,vs.length,1⟩)∨(1000≤x∧∃o,l[x-1000]? =some o∧k=⟨o.b,o.d,o.e,o.sz⟩):=by
 by_cases hg:∃vs,(x,vs)∈G
 ·obtain⟨vs,hv⟩:=hg
  have:=(glM_get hG.nd (fun x=>if 1000≤x then(l[x-1000]?).map fun o=>(⟨o.b,o.d,o.e,o.sz⟩:Blk)else none) x).1 vs hv
  exact .inl ⟨vs,hv,(Option.some.inj (this.symm.trans h)).symm⟩
 ·have:=(glM_get hG.nd (fun x=>if 1000≤x then(l[x-1000]?).map fun o=>(⟨o.b,o.d,o.e,o.sz⟩:Blk)else none) x).2 fun vs hv=>hg ⟨vs,hv⟩
  have h:=this.symm.trans h
  split at h
  ·rename_i h8
   cases hl:l[x-1000]? with
   |none=>rw[hl]at h;cases h
   |some o=>rw[hl]at h;cases h;exact .inr ⟨h8,o,rfl,rfl⟩
  ·cases h
theorem R.obs{W:World}{G:Gl}(hG:GlOk W G){l:List Ob}(H:∀o∈l,ObOk W (obM G l) o):R Tryz.prog (obM G l) (obH G l) W:=by
 refine⟨Nat.le_trans globs_le (Nat.le_add_right _ _),fun g o hgs hx=> ?_,fun x o hx=> ?_,fun x o hx=> ?_,fun x k hk=> ?_,fun x y o o' k k' hne hx hy _ _ hk hk' _=> ?_⟩
 ·rcases obH_some hG hx with⟨vs,h1,rfl,h3⟩|⟨h8,_⟩
  ·obtain⟨_,⟨t,fz,hw⟩,_⟩:=hG.ok _ h1
   refine⟨_,h3,rfl,rfl,fun _ _ c' t' fz' hc'=> ?_⟩
   rw[hw]at hc'
   cases hc'
   show vs.length=vs.toArray.size
   simp
  ·have:=glob1000 hgs;omega
 ·rcases obH_some hG hx with⟨vs,h1,rfl,h3⟩|⟨h8,ob,hl,rfl,h3⟩
  ·obtain⟨_,⟨t,fz,hw⟩,hn⟩:=hG.ok _ h1
   intro k hk
   rw[h3]at hk
   cases hk
   refine⟨rfl,vs.toArray,t,fz,hw,by show 0+vs.length≤vs.length;omega,by simp,fun i hi=> ?_,fun h=>by cases h⟩
   refine⟨vs[i],by show vs.toArray[0+i]? =_;rw[Nat.zero_add,List.getElem?_toArray,List.getElem?_eq_getElem hi],?_⟩
   have e:gv vs i=vs[i]'hi:=by unfold gv;rw[lget_eq,List.getElem?_eq_getElem hi];rfl
   rw[e]
   exact(VR.noRef (hn _ (List.getElem_mem _))).1
  ·intro k hk
   rw[h3]at hk
   cases hk
   obtain⟨c,el,fz,hW,h1,h2,hv⟩:=(H ob (List.mem_of_getElem? hl)).ok
   exact⟨rfl,c,el,fz,hW,h1,h2,hv,fun h=>by cases h⟩
 ·rcases obH_some hG hx with⟨vs,h1,rfl,h3⟩|⟨h8,ob,hl,rfl,h3⟩
  ·have:=glob1000 (hG.ok _ h1).1
   show x<1000+l.length
   simp only at this;omega
  ·have:=(List.getElem?_eq_some_iff.1 hl).1
   show x<1000+l.length
   omega
 ·rcases obM_some hG hk with⟨vs,h1,rfl⟩|⟨h8,ob,hl,rfl⟩
  ·obtain⟨hlt,⟨t,fz,hw⟩,hn⟩:=hG.ok _ h1
   have:=glob1000 hlt
   exact⟨by show x<1000+l.length;simp only at this;omega,(Array.getElem?_eq_some_iff.1 hw).1⟩
  ·have:=(List.getElem?_eq_some_iff.1 hl).1
   obtain⟨c,el,fz,hW,_⟩:=(H ob (List.mem_of_getElem? hl)).ok
   exact⟨by show x<1000+l.length;omega,(Array.getElem?_eq_some_iff.1 hW).1⟩
 ·rcases obH_some hG hx with⟨vs,h1,rfl,h3⟩|⟨h8,ob,hl,rfl,h3⟩<;>rcases obH_some hG hy with⟨vs',h1',rfl,h3'⟩|⟨h8',ob',hl',rfl,h3'⟩<;>exact⟨rfl,rfl⟩
theorem obH_ro{W:World}{G:Gl}(hG:GlOk W G){l:List Ob}:∀b o,(obH G l).get b=some o→o.ro=true∨o.live=false:=fun b o hx=>by
 rcases obH_some hG hx with⟨vs,h1,rfl,h3⟩|⟨h8,ob,hl,rfl,h3⟩<;>exact .inl rfl
theorem obsL_keys:∀(l:List Ob) (n:Nat),((obsL n l).map (·.1)).Nodup∧∀b∈(obsL n l).map (·.1),n≤b∧b<n+l.length
 |[],n=>⟨by simp[obsL],fun b hb=>by simp[obsL]at hb⟩
 |o::l,n=>by
  obtain⟨h1,h2⟩:=obsL_keys l (n+1)
  refine⟨?_,fun b hb=> ?_⟩
  ·simp only[obsL,List.map_cons,List.nodup_cons]
   exact⟨fun q=>by have:=(h2 n q).1;omega,h1⟩
  ·simp only[obsL,List.map_cons,List.mem_cons]at hb
   rcases hb with rfl|hb
   ·simp
   ·have:=h2 b hb
    simp only[List.length_cons]
    omega
theorem glL_keys:∀{G:Gl} {l:List (Nat×AObj)},(glL G l).map (·.1)=G.map (·.1)++l.map (·.1)
 |[],l=>rfl
 |(g,vs)::G,l=>by
  show g::(glL G l).map (·.1)=_
  rw[glL_keys];rfl
theorem obH_rdy{W:World}{G:Gl}(hG:GlOk W G)(l:List Ob):Rdy (obH G l):=by
 refine⟨⟨?_,fun b hb=> ?_⟩,rfl⟩
 ·show((glL G (obsL 1000 l)).map (·.1)).Nodup
  rw[glL_keys,List.nodup_append]
  refine⟨hG.nd,(obsL_keys l 1000).1,fun a ha b hb e=> ?_⟩
  obtain⟨q,hq,rfl⟩:=List.mem_map.1 ha
  have h1:=glob1000 (hG.ok _ hq).1
  have h2:=((obsL_keys l 1000).2 b hb).1
  omega
 ·have hb':b∈(glL G (obsL 1000 l)).map (·.1):=hb
  rw[glL_keys]at hb'
  show b<1000+l.length
  rcases List.mem_append.1 hb' with q|q
  ·obtain⟨q,hq,rfl⟩:=List.mem_map.1 q
   have h1:=glob1000 (hG.ok _ hq).1
   omega
  ·exact((obsL_keys l 1000).2 b q).2
theorem CellsAt.lay{W:World}{G:Gl}(hG:GlOk W G){sz n:Nat}{sl:Value}{cs:List Value}(s:CellsAt W sz sl n cs):∃ob:List Ob,(∀μ,∀o∈ob,ObOk W μ o)∧∀(L:List Ob) (i:Nat),(∀o,ob[0]? =some o→L[i]? =some o)→∃a c,VR (obM G L) (.slice a n c) sl∧SliceOf (obH G L) sz (.slice a n c) n cs∧c<UNK:=by
 cases s with
 |nil=>exact⟨[],(fun _ o ho=>by cases ho),fun L i _=>⟨none,0, .sliceN _ _, .nil,by unfold UNK;omega⟩⟩
 | @empty b o cap c el fz hW hc=>
   refine⟨[⟨[],sz,b,0,0⟩],fun μ o' ho=> ?_,fun L i hL=> ?_⟩
   ·rw[List.mem_singleton.1 ho]
    exact⟨c,el,fz,hW,Nat.le_refl _,Nat.zero_le _,fun i hi=>by cases hi⟩
   ·have hi:=hL _ rfl
    have hg:(obH G L).get (1000+i)=some (.cells [] false sz):=by rw[obH_get hG _ _ (by omega),show 1000+i-1000=i by omega,hi];rfl
    have hm:obM G L (1000+i)=some ⟨b,0,0,sz⟩:=by rw[obM_get hG _ _ (by omega),show 1000+i-1000=i by omega,hi];rfl
    have hlt:=(List.getElem?_eq_some_iff.1 hi).1
    refine⟨some ⟨1000+i,o,none⟩,cap,?_, .mem ⟨by show 1000+i<1000+L.length;omega,⟨[],false,sz,hg,?_⟩,by simp⟩ (Nat.zero_le _),hc⟩
    ·have:=VR.slice (μ:=obM G L) (b:=1000+i) (o:=o) (l:=0) (c:=cap) (k:=⟨b,0,0,sz⟩) hm hc (Nat.zero_le _)
     simpa using this
    ·rw[ldrop_eq,List.drop_nil]
     cases 0*sz<;>rfl
 | @full b o cap _ c el fz _ hW hne hlen hsz hl hc hat hno=>
   have hpos:0<n*sz:=Nat.mul_pos (Nat.pos_of_ne_zero hne) hsz
   have hsize:o+n*sz≤c.size:=by
    have h1:=hat (n*sz-1) (by omega)
    have h2:cs[n*sz-1]? =some (cs[n*sz-1]'(by omega)):=List.getElem?_eq_getElem _
    rw[h2]at h1
    have:=(Array.getElem?_eq_some_iff.1 h1).1
    omega
   refine⟨[⟨cs,sz,b,o,o+n*sz⟩],fun μ o' ho=> ?_,fun L i hL=> ?_⟩
   ·rw[List.mem_singleton.1 ho]
    refine⟨c,el,fz,hW,by show o+cs.length≤o+n*sz;omega,hsize,fun i hi=> ?_⟩
    have hi':i<cs.length:=hi
    have h2:cs[i]? =some (cs[i]'hi'):=List.getElem?_eq_getElem _
    refine⟨_,(hat i (by omega)).trans h2,?_⟩
    have e:gv cs i=cs[i]'hi':=by unfold gv;rw[lget_eq,h2];rfl
    show VR μ (gv cs i) _
    rw[e]
    exact(VR.noRef (hno _ (List.getElem_mem _))).1
   ·have hi:=hL _ rfl
    have hg:(obH G L).get (1000+i)=some (.cells cs false sz):=by rw[obH_get hG _ _ (by omega),show 1000+i-1000=i by omega,hi];rfl
    have hm:obM G L (1000+i)=some ⟨b,o,o+n*sz,sz⟩:=by rw[obM_get hG _ _ (by omega),show 1000+i-1000=i by omega,hi];rfl
    have hlt:=(List.getElem?_eq_some_iff.1 hi).1
    refine⟨some ⟨1000+i,0,none⟩,cap,?_, .mem ⟨by show 1000+i<1000+L.length;omega,⟨cs,false,sz,hg,?_⟩,hlen⟩ hl,hc⟩
    ·have:=VR.slice (μ:=obM G L) (b:=1000+i) (o:=0) (l:=n) (c:=cap) (k:=⟨b,o,o+n*sz,sz⟩) hm hc hl
     simpa using this
    ·rw[ltake_eq,ldrop_eq,List.drop_zero,List.take_of_length_le (by omega)]
theorem St.below{μ μ':Mu}{h h':Heap}{W W':World}(s:St μ h W μ' h' W')(hro:∀b o,h.get b=some o→o.ro=true∨o.live=false):Below W.heap.size W W':=
 ⟨s.same.os,s.same.tape,s.same.out,s.le,fun r hr=>s.keep r hr fun⟨b,o,k,g1,g2,g3,_⟩=>by
  rcases hro b o g1 with q|q
  ·rw[q]at g3;cases g3
  ·rw[q]at g2;cases g2⟩
theorem laidG1{W:World}{G:Gl}(hG:GlOk W G){sz1 n1:Nat}{s1:Value}{c1:List Value}(h1:CellsAt W sz1 s1 n1 c1):∃(h:Heap) (μ:Mu),R Tryz.prog μ h W∧(∀b o,h.get b=some o→o.ro=true∨o.live=false)∧Rdy h∧1000≤h.next∧(∀g vs,(g,vs)∈G→h.get g=some (.cells vs false 1))∧
 (∃a c,VR μ (.slice a n1 c) s1∧SliceOf h sz1 (.slice a n1 c) n1 c1∧c<UNK):=by
 obtain⟨o1,k1,q1⟩:=h1.lay hG
 exact⟨obH G o1,obM G o1,R.obs hG fun o ho=>k1 _ o ho,obH_ro hG,obH_rdy hG _,Nat.le_add_right _ _,fun g vs h=>obH_gl hG _ h,q1 _ 0 fun o ho=>ho⟩
end Go.A.Pk
end
section
set_option maxRecDepth 100000
namespace Go.A.Pk
open Go Go.Proofs Go.Joins Go.ChangeShapes Go.WideShapes Go.RowKit Go.Deep
section
variable {H:Type} {enc:TypeId×Value→H} {W:World} {base:Nat} {spare:Nat→Bool} {held:Bool}
theorem cells3:Tryz.prog.cellsOf 3=1:=by kernel_rfl
theorem cells5:Tryz.prog.cellsOf 5=1:=by kernel_rfl
theorem cells22:Tryz.prog.cellsOf 22=1:=by kernel_rfl
theorem cells24:Tryz.prog.cellsOf 24=8:=by kernel_rfl
theorem cells63:Tryz.prog.cellsOf 63=12:=by kernel_rfl
theorem solid_cells{fuel:Nat}{cs:List Value}{x:DataW H×List MemPlace}(h:DataW.trod enc Tryz.prog W base spare held fuel 24 cs=some x):∃pl,IsS pl∧cs=us pl:=by
 obtain⟨xs,m,_,_,hl,hxl,hg⟩:=DataW.trod_array Tryz.underlying24 h
 rw[cells24]at hl
 have key:∀i,i<8→∃n:Nat,n<U64∧cs[i]? =some (.int .u64 (n:Int)):=fun i hi=>by
  have hg:=hg i hi
  rw[cells22]at hg
  have hx:xs[i]? =some xs[i]:=List.getElem?_eq_getElem (by omega)
  rw[hx]at hg
  obtain⟨z,hz,_,hw⟩:=DataW.trod_int Tryz.underlying22 hg
  have hb:0≤z∧z≤18446744073709551615:=by
   simpa[Lit.wf,IntKind.min,IntKind.max,IntKind.signed,IntKind.bits]using hw
  obtain⟨n,rfl⟩:=Int.eq_ofNat_of_zero_le hb.1
  refine⟨n,by unfold U64;omega,?_⟩
  have hz2:(cs.drop (i*1)).take 1=[Value.int .u64 (n:Int)]:=hz
  have hz':((cs.drop (i*1)).take 1)[0]? =some (.int .u64 (n:Int)):=by rw[hz2];rfl
  rw[List.getElem?_take_of_lt (by omega),List.getElem?_drop]at hz'
  simpa using hz'
 let f:Value→Nat:=fun v=>match v with| .int _ n=>n.toNat|_=>0
 refine⟨cs.map f,⟨by simpa using hl,fun x hx=> ?_⟩,?_⟩
 ·obtain⟨y,hy,rfl⟩:=List.mem_map.1 hx
  obtain⟨i,hi,rfl⟩:=List.mem_iff_getElem.1 hy
  obtain⟨n,hn,hk⟩:=key i (by omega)
  rw[List.getElem?_eq_getElem hi,Option.some.injEq]at hk
  rw[hk];exact hn
 ·apply List.ext_getElem?
  intro i
  by_cases hi:i<8
  ·obtain⟨n,hn,hk⟩:=key i hi
   rw[hk]
   simp only[us,List.getElem?_map,hk,z7]
   rfl
  ·rw[List.getElem?_eq_none (by omega),List.getElem?_eq_none (by rw[us_length,List.length_map];omega)]
theorem reading_cells{fuel:Nat}{cs:List Value}{x:DataW H×List MemPlace}(h:DataW.trod enc Tryz.prog W base spare held fuel 63 cs=some x):∃r:Rd,IsR r∧cs=rdL r:=by
 obtain⟨xs,n,_,hx,hcl,hlen,hg⟩:=DataW.trod_struct Tryz.underlying63 h
 rw[cells63]at hcl
 match cs,hcl with
 |[c0,c1,c2,c3,c4,c5,c6,c7,c8,c9,c10,c11],_=>
  match xs,hlen with
  |[y0,y1,y2,y3,y4],_=>
   have g0:DataW.trod enc Tryz.prog W base spare held n 3 [c0]=some y0:=by have:=hg 0 _ rfl;simpa[cells3]using this
   have g1:DataW.trod enc Tryz.prog W base spare held n 3 [c1]=some y1:=by have:=hg 1 _ rfl;simpa[cells3]using this
   have g2:DataW.trod enc Tryz.prog W base spare held n 5 [c2]=some y2:=by have:=hg 2 _ rfl;simpa[cells5]using this
   have g3:DataW.trod enc Tryz.prog W base spare held n 24 [c3,c4,c5,c6,c7,c8,c9,c10]=some y3:=by have:=hg 3 _ rfl;simpa[cells24]using this
   have g4:DataW.trod enc Tryz.prog W base spare held n 3 [c11]=some y4:=by have:=hg 4 _ rfl;simpa[cells3]using this
   obtain⟨a0,h0,_⟩:=DataW.trod_int Tryz.underlying3 g0
   obtain⟨a1,h1,_⟩:=DataW.trod_int Tryz.underlying3 g1
   obtain⟨a2,h2,_,w2⟩:=DataW.trod_int Tryz.underlying5 g2
   obtain⟨pl,hp,h3⟩:=solid_cells g3
   obtain⟨a4,h4,_⟩:=DataW.trod_int Tryz.underlying3 g4
   cases h0;cases h1;cases h2;cases h4
   have hb:0≤a2∧a2≤255:=by
    simpa[Lit.wf,IntKind.min,IntKind.max,IntKind.signed,IntKind.bits]using w2
   obtain⟨k,rfl⟩:=Int.eq_ofNat_of_zero_le hb.1
   refine⟨⟨a0,a1,k,pl,a4⟩,⟨hp,by show k<256;omega⟩,?_⟩
   show _=_::_::_::(us pl++[_])
   rw[←h3];rfl
theorem open_reading{v:Value}{d:DataW H}{p:List MemPlace}(hv:Value.okWide Tryz.prog W .any base 63 v)(h:DataW.Trod enc Tryz.prog W 0 spare held 63 v d p):∃r:Rd,IsR r∧v=rdV r:=by
 obtain⟨cs,rfl,_⟩:=okWide_struct Tryz.underlying63 hv
 obtain⟨fuel,hf⟩:=h
 obtain⟨r,hr,hk⟩:=reading_cells hf
 refine⟨r,hr,?_⟩
 have:cs=(rdL r).toArray:=by rw[←hk];simp[Value.cells]
 rw[this];rfl
theorem add_eq(b o n:Nat):(Addr.mk b o none).add n=⟨b,o+n,none⟩:=by
 unfold Addr.add
 by_cases h:n=0
 ·rw[if_pos h,h,Nat.add_zero]
 ·rw[if_neg h]
theorem rsL_get{l:List Rd}(hl:∀r∈l,IsR r){i:Nat}{r:Rd}{j:Nat}(h:l[i]? =some r)(hj:j<12):(rsL l)[i*12+j]? =(rdL r)[j]? :=by
 have hR:=hl r (List.mem_of_getElem? h)
 have hlt:=(List.getElem?_eq_some_iff.1 h).1
 have e:l=l.take i++r::l.drop (i+1):=by
  obtain⟨q,rfl⟩:=List.getElem?_eq_some_iff.1 h
  rw[←List.drop_eq_getElem_cons q,List.take_append_drop]
 have hlen:(rsL (l.take i)).length=i*12:=by rw[rsL_length fun r hr=>hl r (List.mem_of_mem_take hr),List.length_take,Nat.min_eq_left (by omega)]
 conv=>lhs;rw[e,rsL_app,rsL_cons]
 rw[List.getElem?_append_right (by omega),hlen,Nat.add_sub_cancel_left,List.getElem?_append_left (by rw[rdL_length hR];exact hj)]
theorem noRef_rdL(r:Rd):∀v∈rdL r,noRef v=true:=by
 intro v hv
 simp only[rdL,us,List.mem_cons,List.mem_append,List.mem_map,List.not_mem_nil,or_false]at hv
 rcases hv with rfl|rfl|rfl|⟨n,_,rfl⟩|rfl<;>rfl
theorem noRef_rsL(l:List Rd):∀v∈rsL l,noRef v=true:=by
 intro v hv
 induction l with
 |nil=>cases hv
 |cons r l ih=>
  rw[rsL_cons]at hv
  rcases List.mem_append.1 hv with q|q
  ·exact noRef_rdL r v q
  ·exact ih q
theorem scal_us:∀(pl:List Nat) (t:List Value),scalL t=true→scalL (us pl++t)=true
 |[],t,h=>h
 |x::pl,t,h=>scal_us pl t h
theorem noRef_rdV(r:Rd):noRef (rdV r)=true:=by
 show flat (.agg (rdL r).toArray)=true
 simp only[flat]
 exact scal_us r.cells [.int .i64 r.of] rfl
instance:Inhabited Rd:=⟨⟨0,0,0,[],0⟩⟩
def RdsAt(W:World)(v:Value)(l:List Rd):Prop:=CellsAt W 12 v l.length (rsL l)∧∀r∈l,IsR r
theorem open_readings{v:Value}{d:DataW H}{p:List MemPlace}(hv:Value.okWide Tryz.prog W .any base 54 v)(h:DataW.Trod enc Tryz.prog W 0 (fun _=>true) held 54 v d p)(hz:∀n∈d.weights Tryz.prog 54,n≤reachBytes):∃l,RdsAt W v l:=by
 have hcell:Cell.okWide Tryz.prog W .any base 54 v:=by
  simpa only[Value.okWide,Tryz.underlying54]using hv
 obtain⟨a0,len0,cap0,rfl⟩:=okWide_slice Tryz.underlying54 hv
 obtain⟨fuel,hf⟩:=h
 have hf:DataW.trod enc Tryz.prog W 0 (fun _=>true) held fuel 54 [.slice a0 len0 cap0]=some (d,p):=by simpa[Value.cells]using hf
 rcases open_slice Tryz.underlying54 hf with⟨h2,_⟩|⟨a,len,cap,m,n',D,Pl,h2,_,hl,hcap,hm,hy,hx⟩
 ·cases h2
  exact⟨[], .nil,fun x hx=>by cases hx⟩
 ·cases h2
  simp only[Cell.okWide,Cell.ok,Tryz.underlying54,World.has]at hcell
  obtain⟨_,_,_,hspot,row,cells,hsh,_⟩:=hcell
  obtain⟨b,o,sp⟩:=a
  simp only at hspot hsh
  subst hspot
  rw[if_pos rfl]at hm
  subst hm
  have e16:Tryz.prog.bytesOf 63=96:=by kernel_rfl
  have hcapU:m*96≤reachBytes:=by
   refine hz (m*96) ?_
   cases hy
   simp only[DataW.weights,Tryz.underlying54,e16,List.length_map,List.length_range,show len0+(m-len0)=m by omega]
   simp
  unfold reachBytes at hcapU
  obtain⟨c,el,fz,hheap⟩:∃c el fz,W.heap[b]? =some (.cells c el fz):=by
   unfold World.shape? at hsh
   split at hsh
   ·rename_i c el fz he;exact⟨c,el,fz,he⟩
   ·cases hsh
  obtain⟨f,hf⟩:=choose_lt (α:=Rd) (n:=len0) (p:=fun i k=>IsR k∧∀j,j<12→c[o+(i*12+j)]? =(rdL k)[j]?) (fun i hi=>by
   obtain⟨cs',hc,ht⟩:=hx i (by omega)
   obtain⟨k,hk2,hk⟩:=reading_cells ht
   subst hk
   refine⟨k,hk2,fun j hj=> ?_⟩
   rw[cells63]at hc
   obtain⟨_,_,hat⟩:=World.cells?_some hc
   have:=hat j hj
   rw[add_eq,add_eq]at this
   rw[←this,Nat.add_assoc]
   unfold World.cell?
   simp only[hheap]
   rfl)
  by_cases h0:len0=0
  ·subst h0
   exact⟨[], .empty hheap (by unfold UNK;omega),fun x hx=>by cases hx⟩
  ·have hlen:((List.range len0).map f).length=len0:=by simp
   have hok:∀r∈(List.range len0).map f,IsR r:=fun x hx=>by
    obtain⟨i,hi,rfl⟩:=List.mem_map.1 hx
    exact(hf i (List.mem_range.1 hi)).1
   refine⟨(List.range len0).map f,?_,hok⟩
   rw[hlen]
   refine .full hheap h0 (by rw[rsL_length hok,hlen]) (by omega) hl (by unfold UNK;omega) (fun j hj=> ?_) (noRef_rsL _)
   have h5:j / 12<len0:=by omega
   have e1:j=j / 12*12+j % 12:=by omega
   have g1:=(hf (j / 12) h5).2 (j % 12) (by omega)
   have g2:=rsL_get hok (i:=j / 12) (r:=f (j / 12)) (j:=j % 12) (by simp[h5]) (by omega)
   rw[←e1]at g1 g2
   rw[g1,g2]
end
def tabV:List Value:=debL.map fun n=> .int .u8 (n:Nat)
abbrev TabAt(W:World):Prop:=∃t fz,W.heap[2]? =some (.cells tabV.toArray t fz)
theorem TabAt.gl{W:World}(h:TabAt W):GlOk W [(2,tabV)]:=by
 refine⟨fun q hq=> ?_,by simp⟩
 rw[List.mem_singleton.1 hq]
 refine⟨of_decide_eq_true (by kernel_rfl),h,fun v hv=> ?_⟩
 simp only[tabV,List.mem_map]at hv
 obtain⟨n,_,rfl⟩:=hv
 rfl
theorem tab_named:Tryz.prog.globalNamed "math/bits.deBruijn64tab" =some 2:=by kernel_rfl
theorem tab_type:(Tryz.prog.globals[2]?).map (·.type)=some 369:=by kernel_rfl
theorem tab_elem:∃e,Tryz.prog.underlying 369=some (.array 64 e)∧Tryz.prog.underlying e=some (.int .u8)∧Tryz.prog.cellsOf e=1∧Tryz.prog.cellsOf 369=64:=⟨_,Tryz.underlying369,by kernel_rfl,by kernel_rfl,by kernel_rfl⟩
theorem tab_at{W:World}{d:DataW Unit}{rest:List (String×DataW Unit)}(hd:d=Lib.tabData .u8 (debL.map fun n:Nat=>(n:Int)))(h:laidMet Tryz.prog (("math/bits.deBruijn64tab",d)::rest) W):TabAt W:=by
 subst hd
 obtain⟨e,h1,h2,h3,h4⟩:=tab_elem
 have hT:=Lib.tabIs_of_head tab_named tab_type h1 h2 h3 h4 h
 unfold Lib.TabIs World.var? at hT
 rw[tab_named]at hT
 simp only[Option.bind_some]at hT
 split at hT
 ·rename_i c t fz he
  refine⟨t,fz,he.trans ?_⟩
  have:c=tabV.toArray:=by
   rw[Option.some.inj hT]
   simp[tabV,List.map_map,Function.comp_def]
  rw[this]
 ·cases hT
end Go.A.Pk
end
section
set_option maxRecDepth 100000
namespace Go.A.Pk
open Go Go.Proofs
theorem h0_eq:StkQ.h0=oneH 2 (debL.map fun n=> .int .u8 (n:Nat)) 1000:=by kernel_rfl
theorem ok21:Entry Tryz.prog 21 (.prim pSd):= .prim (primT_ok sound (g:=2) (n:=1000) (vs:=debL.map fun n=> .int .u8 (n:Nat)) Tryz.func21 (of_decide_eq_true (by kernel_rfl)) (by kernel_rfl) globs_le (by decide) (by kernel_rfl) (by kernel_rfl) fun args v h h' hp=>by
 unfold pSd at hp
 split at hp
 ·split at hp
  ·rename_i hT
   cases hp
   refine⟨rfl,hT,fun a ha=>(nomatch ha),rfl,?_⟩
   rw[←h0_eq]
   exact StkQ.run
  ·cases hp
 ·cases hp)
end Go.A.Pk
end
section
set_option maxRecDepth 100000
namespace Go.A.Pk
open Go Go.Proofs Go.Joins Go.ChangeShapes Go.WideShapes Go.RowKit Go.Deep
section
variable {H:Type} {enc:TypeId×Value→H} {W:World} {base:Nat} {spare:Nat→Bool} {held:Bool}
theorem okWide_arr8S{t e:TypeId}{n:Nat}{v:Value}(ht:Tryz.prog.underlying t=some (.array n e))(h:Value.okWide Tryz.prog W .any base t v):∃cs,v= .agg cs:=by
 simp only[Value.okWide,ht]at h
 obtain⟨cs,h1,_⟩:=h
 exact⟨cs,h1⟩
theorem open_solid{v:Value}{d:DataW H}{p:List MemPlace}(hv:Value.okWide Tryz.prog W .any base 24 v)(h:DataW.Trod enc Tryz.prog W 0 spare held 24 v d p):∃s:List Nat,IsS s∧v=sv s:=by
 obtain⟨cs,rfl⟩:=okWide_arr8S Tryz.underlying24 hv
 obtain⟨fuel,hf⟩:=h
 obtain⟨s,hs,hk⟩:=solid_cells hf
 refine⟨s,hs,?_⟩
 have:cs=(us s).toArray:=by rw[←hk];simp[Value.cells]
 rw[this];rfl
theorem cells56:Tryz.prog.cellsOf 56=3:=by kernel_rfl
theorem open_cell{v:Value}{d:DataW H}{p:List MemPlace}(hv:Value.okWide Tryz.prog W .any base 56 v)(h:DataW.Trod enc Tryz.prog W 0 spare held 56 v d p):∃c:Ce,v=ceV c:=by
 obtain⟨cs,rfl,_⟩:=okWide_struct Tryz.underlying56 hv
 obtain⟨fuel,hf⟩:=h
 have hf:DataW.trod enc Tryz.prog W 0 spare held fuel 56 cs.toList=some (d,p):=by simpa[Value.cells]using hf
 obtain⟨xs,n,_,hx,hcl,hlen,hg⟩:=DataW.trod_struct Tryz.underlying56 hf
 rw[cells56]at hcl
 have hcs:cs=cs.toList.toArray:=by simp
 rw[hcs]
 generalize cs.toList=l at*
 match l,hcl with
 |[c0,c1,c2],_=>
  match xs,hlen with
  |[yq0,yq1,yq2],_=>
   have g0:DataW.trod enc Tryz.prog W 0 spare held n 3 [c0]=some yq0:=by have:=hg 0 _ rfl;simpa[cells3]using this
   have g1:DataW.trod enc Tryz.prog W 0 spare held n 3 [c1]=some yq1:=by have:=hg 1 _ rfl;simpa[cells3]using this
   have g2:DataW.trod enc Tryz.prog W 0 spare held n 3 [c2]=some yq2:=by have:=hg 2 _ rfl;simpa[cells3]using this
   obtain⟨a0,h0,_⟩:=DataW.trod_int Tryz.underlying3 g0
   obtain⟨a1,h1,_⟩:=DataW.trod_int Tryz.underlying3 g1
   obtain⟨a2,h2,_⟩:=DataW.trod_int Tryz.underlying3 g2
   cases h0;cases h1;cases h2
   exact⟨⟨a0,a1,a2⟩,rfl⟩
theorem noRef_ceV(c:Ce):noRef (ceV c)=true:=rfl
end
end Go.A.Pk
end
section
namespace Go.Proofs
open Go.Shelf
def Tryz.lays189_ren:Go.Shelf.Ren:=⟨fun|189=>172|125=>241|257=>240|128=>290|129=>291|294=>281|295=>282|296=>283|297=>284|298=>285|299=>286|216=>287|300=>288|301=>289|328=>324|329=>325|330=>326|331=>327|332=>328|215=>229|343=>348|n=>n,fun|28=>57|3=>3|46=>90|0=>0|51=>338|53=>22|4=>4|183=>331|182=>330|131=>196|5=>5|9=>9|218=>372|222=>376|228=>403|229=>404|n=>n,fun|n=>n⟩
theorem Tryz.lays189:Go.Proofs.Lays.n189 Tryz.prog Tryz.lays189_ren:={
 mixed:=by kernel_rfl
 f125:=Tryz.func241.trans (congrArg some (by kernel_rfl))
 f128:=Tryz.func290.trans (congrArg some (by kernel_rfl))
 f129:=Tryz.func291.trans (congrArg some (by kernel_rfl))
 f189:=Tryz.func172.trans (congrArg some (by kernel_rfl))
 f215:=Tryz.func229.trans (congrArg some (by kernel_rfl))
 f216:=Tryz.func287.trans (congrArg some (by kernel_rfl))
 f257:=Tryz.func240.trans (congrArg some (by kernel_rfl))
 f294:=Tryz.func281.trans (congrArg some (by kernel_rfl))
 f295:=Tryz.func282.trans (congrArg some (by kernel_rfl))
 f296:=Tryz.func283.trans (congrArg some (by kernel_rfl))
 f297:=Tryz.func284.trans (congrArg some (by kernel_rfl))
 f298:=Tryz.func285.trans (congrArg some (by kernel_rfl))
 f299:=Tryz.func286.trans (congrArg some (by kernel_rfl))
 f300:=Tryz.func288.trans (congrArg some (by kernel_rfl))
 f301:=Tryz.func289.trans (congrArg some (by kernel_rfl))
 f328:=Tryz.func324.trans (congrArg some (by kernel_rfl))
 f329:=Tryz.func325.trans (congrArg some (by kernel_rfl))
 f330:=Tryz.func326.trans (congrArg some (by kernel_rfl))
 f331:=Tryz.func327.trans (congrArg some (by kernel_rfl))
 f332:=Tryz.func328.trans (congrArg some (by kernel_rfl))
 f343:=Tryz.func348.trans (congrArg some (by kernel_rfl))
 t0:=Tryz.underlying0
 a0:=Tryz.isAgg0
 z0:=Tryz.sizeOf0
 v0:=Tryz.zeroValue0
 t3:=Tryz.underlying3
 a3:=Tryz.isAgg3
 z3:=Tryz.sizeOf3
 v3:=Tryz.zeroValue3
 t4:=Tryz.underlying4
 a4:=Tryz.isAgg4
 z4:=Tryz.sizeOf4
 v4:=Tryz.zeroValue4
 t5:=Tryz.underlying5
 a5:=Tryz.isAgg5
 z5:=Tryz.sizeOf5
 v5:=Tryz.zeroValue5
 t9:=Tryz.underlying9
 a9:=Tryz.isAgg9
 z9:=Tryz.sizeOf9
 v9:=Tryz.zeroValue9
 t28:=Tryz.underlying57
 a28:=Tryz.isAgg57
 z28:=Tryz.sizeOf57
 v28:=Tryz.zeroValue57
 t46:=Tryz.underlying90
 a46:=Tryz.isAgg90
 z46:=Tryz.sizeOf90
 v46:=Tryz.zeroValue90
 t51:=Tryz.underlying338
 a51:=Tryz.isAgg338
 z51:=Tryz.sizeOf338
 v51:=Tryz.zeroValue338
 t53:=Tryz.underlying22
 a53:=Tryz.isAgg22
 z53:=Tryz.sizeOf22
 v53:=Tryz.zeroValue22
 t131:=Tryz.underlying196
 a131:=Tryz.isAgg196
 z131:=Tryz.sizeOf196
 v131:=Tryz.zeroValue196
 t182:=Tryz.underlying330
 a182:=Tryz.isAgg330
 z182:=Tryz.sizeOf330
 v182:=Tryz.zeroValue330
 t183:=Tryz.underlying331
 a183:=Tryz.isAgg331
 z183:=Tryz.sizeOf331
 v183:=Tryz.zeroValue331
 t218:=Tryz.underlying372
 a218:=Tryz.isAgg372
 z218:=Tryz.sizeOf372
 v218:=Tryz.zeroValue372
 t222:=Tryz.underlying376
 a222:=Tryz.isAgg376
 z222:=Tryz.sizeOf376
 v222:=Tryz.zeroValue376
 t228:=Tryz.underlying403
 a228:=Tryz.isAgg403
 z228:=Tryz.sizeOf403
 v228:=Tryz.zeroValue403
 t229:=Tryz.underlying404
 a229:=Tryz.isAgg404
 z229:=Tryz.sizeOf404
 v229:=Tryz.zeroValue404}
open Go.Sort Go.RowKit in
theorem Tryz.slices_Sort_int(blk off cap:Nat)(zs:List Int)(w:World)(hH:Holds (Value.int .i64) w blk off zs.toArray)(hblk:blk<w.heap.size)(hsz:zs.length<4611686018427387904):
 Calls Tryz.prog 172 #[.slice (some ⟨blk,off,none⟩) zs.length cap] w fun e w'=>
  e= .returned (.tuple #[])∧∃n os,w'=grow (putRow (Value.int .i64) (Sort.ahead w n) blk off (zs.mergeSort fun x y=>decide (x≤y)).toArray) os:=Any.slices_Sort_int Tryz.lays189 blk off cap zs w hH hblk hsz
open Go.RowKit Go.Sort in
theorem Tryz.slices_Sort_int_none(p:Option Addr)(cap:Nat)(w:World):
 Calls Tryz.prog 172 #[.slice p 0 cap] w fun e w'=>e= .returned (.tuple #[])∧w'=w:=Any.slices_Sort_int_none Tryz.lays189 p cap w
end Go.Proofs
end
section
set_option maxRecDepth 100000
namespace Go.A.Pk
open Go Go.Proofs
theorem ok172:Entry Tryz.prog 172 (.prim pSort):= .prim (pSort_ok Tryz.func172 (of_decide_eq_true (by kernel_rfl)) (by kernel_rfl) (fun p cap w=>Tryz.slices_Sort_int_none p cap w) (fun blk off cap zs w hH hb hz=>Tryz.slices_Sort_int blk off cap zs w hH hb hz))
end Go.A.Pk
end
section
set_option maxRecDepth 100000
namespace Go.A.Pk
open Go Go.Proofs
theorem c18:compF Tryz.prog Tryz.f18 [[1,2,5,8,9],[1,2,5,8,9,27],[10],[1,2,5,8,9,11,12],[1,2,5,8,9,11,12,13,14],[1,2,5,8,9,11,12,13,14,15,16,17,18],[1,2,5,8,9,11,12,13,14,15,16,17,18,19,20,21,22],[1,2,5,8,9,11,13,89],[10],[1,2,5,8,9,11,13,18,23],[1,5,9,11,13,18,22,23,24],[1,5,9,11,12,13,18,22,23,24],[11,12,13,14,18,22,23,24],[10]]=some f18:=by kernel_rfl
theorem c35:compF Tryz.prog Tryz.f35 [[2,3],[4]]=some f35:=by kernel_rfl
theorem c41:compF Tryz.prog Tryz.f41 [[0],[0,4],[0,4,9],[0,4,5],[0,4,5,22],[2,3],[0,4],[2,3]]=some f41:=by kernel_rfl
theorem c42:compF Tryz.prog Tryz.f42 [[0,3],[0,3,7],[0,3,7,15],[4,5],[0,3,8],[0,3,8,21],[4,5],[4,5]]=some f42:=by kernel_rfl
theorem c43:compF Tryz.prog Tryz.f43 [[0,3],[0,3,7],[0,3,7,14],[0,3,7],[0,3,7,19],[4,5],[4,5]]=some f43:=by kernel_rfl
theorem c48:compF Tryz.prog Tryz.f48 [[1],[1,3],[1,3,25],[1,3],[48],[2],[2]]=some f48:=by kernel_rfl
theorem c52:compF Tryz.prog Tryz.f52 [[2,3],[4]]=some f52:=by kernel_rfl
theorem c73:compF Tryz.prog Tryz.f73 [[1,2,3,6],[1,2,3,6,9],[1,2,3,6,9,17],[6,7],[6,10],[6,10,29],[6,7],[6,7]]=some f73:=by kernel_rfl
theorem c74:compF Tryz.prog Tryz.f74 [[1,2,3,6],[1,2,3,6,11],[1,2,3,6,11,25],[6,7,8,9],[1,2,3,6,12],[1,2,3,6,13],[1,2,3,6,13,40],[6,7,8,9],[1,2,3,6,13,14],[1,2,3,6,13,14,15],[3,6,13,14,15,16],[3,6,13,14,15,16,17],[3,6,13,14,15,16,17,49],[3,6,13,14,15,16,17,18],[3,6,13,14,15,16,17,18,69],[3,6,13,14,15,16,17,18],[3,6,13,14,15,16,17,83],[3,6,13,14,15,16,17],[3,6,13,14,15,16,17],[6,13,14,15,94],[6,7,8,9],[6,7,8,9]]=some f74:=by kernel_rfl
theorem c76:compF Tryz.prog Tryz.f76 [[1,2,7],[7,10,11],[7,10,11,38],[7,10,11],[7,10,11,40],[8,9],[12],[12],[8,9]]=some f76:=by kernel_rfl
theorem c77:compF Tryz.prog Tryz.f77 [[1,2,7],[1,2,7,11],[1,2,7,11,41],[1,2,7,11],[1,2,7,11,43],[8,9],[7,12],[7,12,13],[7,12,13,14],[7,12,13,14,51],[7,12,13,14,61],[7,12,13,14,15],[7,12,13,14,15,78],[7,12,13,14,15],[7,12,13,14,15,16],[7,12,13,14,15,16],[7,12,13,14],[7,12,13,14],[8,9]]=some f77:=by kernel_rfl
theorem c78:compF Tryz.prog Tryz.f78 [[1,3,5,6],[1,3,5,6,8,9],[1,3,5,6,8,9,24],[6,7],[3,5,6,8,10],[3,6,10,12],[6,14,15],[6,14,15,16],[6,7]]=some f78:=by kernel_rfl
theorem c79:compF Tryz.prog Tryz.f79 [[1,3,5,6],[1,3,5,6,8,9],[1,3,5,6,8,9,19],[6,7],[3,5,6,8,10],[6,10,11],[6,7]]=some f79:=by kernel_rfl
theorem c113:compF Tryz.prog Tryz.f113 [[0,1,2],[6]]=some f113:=by kernel_rfl
theorem c118:compF Tryz.prog Tryz.f118 [[2,3,4],[2,3,4,5],[2,3,4,5,7],[2,3,4,5],[2,3,4,5],[4]]=some f118:=by kernel_rfl
theorem c130:compF Tryz.prog Tryz.f130 [[0,3],[0,3,10],[4],[0,3,13],[4],[0,3,5],[0,3,5,6],[0,3,5,6,7],[0,3,5,6,7,17],[0,3,5,6,7,27],[4],[0,3,5,6,7],[0,3,5,6,7],[0,3,5,6,7],[3,5,6,80],[4],[3,6,87],[4],[93],[4],[4]]=some f130:=by kernel_rfl
theorem c136:compF Tryz.prog Tryz.f136 [[0,1],[0,1,5],[0,1,5,6],[0,1,5,6,12],[0,1,5,6,7],[0,1,5,6,7,8],[0,1,5,6,7,8,33],[0,1,5,6,7,8,63],[0,1,5,6,7,8],[0,1,5,6,7,8],[0,1,5,6,64],[0,1,5,6],[0,1,5,6],[4]]=some f136:=by kernel_rfl
theorem c140:compF Tryz.prog Tryz.f140 [[2,3,4],[2,3,4,5],[2,3,4,5,7],[2,3,4,5],[2,3,4,5],[4]]=some f140:=by kernel_rfl
theorem c169:compF Tryz.prog Tryz.f169 [[1,2,3,6],[3,6,7],[6,7,8],[6,7,8,9],[6,7,8,9,18],[6,7,8,9,26],[6,7,8,9],[6,7,8,9],[6,7,8,9],[6]]=some f169:=by kernel_rfl
theorem c170:compF Tryz.prog Tryz.f170 [[1],[1,3],[1,3,4],[1,3,4,9],[1,3,4,5],[1,3,4,5,13],[1,3,4,5,6],[1,3,4,5,6,17],[1,3,4,5,6,7],[1,3,4,5,6,7,26],[1,3,4,5,6],[1,3,4,5,6],[1,3,4,5],[1,3,4],[2]]=some f170:=by kernel_rfl
theorem c171:compF Tryz.prog Tryz.f171 [[2,3],[4]]=some f171:=by kernel_rfl
theorem c173:compF Tryz.prog Tryz.f173 [[2,3,4],[4]]=some f173:=by kernel_rfl
theorem c175:compF Tryz.prog Tryz.f175 [[2,3,4],[4]]=some f175:=by kernel_rfl
theorem c225:compF Tryz.prog Tryz.f225 [[1],[2]]=some f225:=by kernel_rfl
noncomputable def tree18:Tr:=(.node (.node (.node (.node (.node (.node .nil 18 f18 .nil) 21 (.prim pSd) (.node .nil 35 f35 .nil)) 36 f36 (.node (.node .nil 37 f37 .nil) 38 f38 (.node .nil 40 f40 .nil))) 41 f41 (.node (.node (.node .nil 42 f42 .nil) 43 f43 (.node .nil 44 f44 .nil)) 47 f47 (.node (.node .nil 48 f48 .nil) 52 f52 (.node .nil 73 f73 .nil)))) 74 f74 (.node (.node (.node (.node .nil 75 f75 .nil) 76 f76 (.node .nil 77 f77 .nil)) 78 f78 (.node (.node .nil 79 f79 .nil) 90 f90 (.node .nil 106 f106 .nil))) 113 f113 (.node (.node (.node .nil 118 f118 .nil) 121 f121 (.node .nil 122 f122 .nil)) 123 f123 (.node (.node .nil 124 f124 .nil) 125 f125 .nil)))) 126 f126 (.node (.node (.node (.node (.node .nil 127 f127 .nil) 129 f129 (.node .nil 130 f130 .nil)) 131 f131 (.node (.node .nil 132 f132 .nil) 133 f133 (.node .nil 134 f134 .nil))) 135 f135 (.node (.node (.node .nil 136 f136 .nil) 140 f140 (.node .nil 169 f169 .nil)) 170 f170 (.node (.node .nil 171 f171 .nil) 172 (.prim pSort) .nil))) 173 f173 (.node (.node (.node (.node .nil 174 f174 .nil) 175 f175 (.node .nil 213 f213 .nil)) 214 f214 (.node (.node .nil 215 f215 .nil) 216 f216 (.node .nil 217 f217 .nil))) 218 f218 (.node (.node (.node .nil 219 f219 .nil) 220 f220 (.node .nil 225 f225 .nil)) 264 f264 (.node (.node .nil 265 f265 .nil) 266 f266 .nil)))))
noncomputable def T18:Nat→Option AFunc:=tree18.get
theorem all18:tree18.all (Entry Tryz.prog):=by
 unfold tree18
 exact(Tr.all_node (Tr.all_node (Tr.all_node (Tr.all_node (Tr.all_node (Tr.all_node Tr.all_nil (.of Tryz.func18 c18) Tr.all_nil) ok21 (Tr.all_node Tr.all_nil (.of Tryz.func35 c35) Tr.all_nil)) (.of Tryz.func36 c36) (Tr.all_node (Tr.all_node Tr.all_nil (.of Tryz.func37 c37) Tr.all_nil) (.of Tryz.func38 c38) (Tr.all_node Tr.all_nil (.of Tryz.func40 c40) Tr.all_nil))) (.of Tryz.func41 c41) (Tr.all_node (Tr.all_node (Tr.all_node Tr.all_nil (.of Tryz.func42 c42) Tr.all_nil) (.of Tryz.func43 c43) (Tr.all_node Tr.all_nil (.of Tryz.func44 c44) Tr.all_nil)) (.of Tryz.func47 c47) (Tr.all_node (Tr.all_node Tr.all_nil (.of Tryz.func48 c48) Tr.all_nil) (.of Tryz.func52 c52) (Tr.all_node Tr.all_nil (.of Tryz.func73 c73) Tr.all_nil)))) (.of Tryz.func74 c74) (Tr.all_node (Tr.all_node (Tr.all_node (Tr.all_node Tr.all_nil (.of Tryz.func75 c75) Tr.all_nil) (.of Tryz.func76 c76) (Tr.all_node Tr.all_nil (.of Tryz.func77 c77) Tr.all_nil)) (.of Tryz.func78 c78) (Tr.all_node (Tr.all_node Tr.all_nil (.of Tryz.func79 c79) Tr.all_nil) (.of Tryz.func90 c90) (Tr.all_node Tr.all_nil (.of Tryz.func106 c106) Tr.all_nil))) (.of Tryz.func113 c113) (Tr.all_node (Tr.all_node (Tr.all_node Tr.all_nil (.of Tryz.func118 c118) Tr.all_nil) (.of Tryz.func121 c121) (Tr.all_node Tr.all_nil (.of Tryz.func122 c122) Tr.all_nil)) (.of Tryz.func123 c123) (Tr.all_node (Tr.all_node Tr.all_nil (.of Tryz.func124 c124) Tr.all_nil) (.of Tryz.func125 c125) Tr.all_nil)))) (.of Tryz.func126 c126) (Tr.all_node (Tr.all_node (Tr.all_node (Tr.all_node (Tr.all_node Tr.all_nil (.of Tryz.func127 c127) Tr.all_nil) (.of Tryz.func129 c129) (Tr.all_node Tr.all_nil (.of Tryz.func130 c130) Tr.all_nil)) (.of Tryz.func131 c131) (Tr.all_node (Tr.all_node Tr.all_nil (.of Tryz.func132 c132) Tr.all_nil) (.of Tryz.func133 c133) (Tr.all_node Tr.all_nil (.of Tryz.func134 c134) Tr.all_nil))) (.of Tryz.func135 c135) (Tr.all_node (Tr.all_node (Tr.all_node Tr.all_nil (.of Tryz.func136 c136) Tr.all_nil) (.of Tryz.func140 c140) (Tr.all_node Tr.all_nil (.of Tryz.func169 c169) Tr.all_nil)) (.of Tryz.func170 c170) (Tr.all_node (Tr.all_node Tr.all_nil (.of Tryz.func171 c171) Tr.all_nil) ok172 Tr.all_nil))) (.of Tryz.func173 c173) (Tr.all_node (Tr.all_node (Tr.all_node (Tr.all_node Tr.all_nil (.of Tryz.func174 c174) Tr.all_nil) (.of Tryz.func175 c175) (Tr.all_node Tr.all_nil (.of Tryz.func213 c213) Tr.all_nil)) (.of Tryz.func214 c214) (Tr.all_node (Tr.all_node Tr.all_nil (.of Tryz.func215 c215) Tr.all_nil) (.of Tryz.func216 c216) (Tr.all_node Tr.all_nil (.of Tryz.func217 c217) Tr.all_nil))) (.of Tryz.func218 c218) (Tr.all_node (Tr.all_node (Tr.all_node Tr.all_nil (.of Tryz.func219 c219) Tr.all_nil) (.of Tryz.func220 c220) (Tr.all_node Tr.all_nil (.of Tryz.func225 c225) Tr.all_nil)) (.of Tryz.func264 c264) (Tr.all_node (Tr.all_node Tr.all_nil (.of Tryz.func265 c265) Tr.all_nil) (.of Tryz.func266 c266) Tr.all_nil)))))
theorem sound18:SoundT Tryz.prog T18:=soundT_of (by kernel_rfl) all18
theorem fns18:FnsL18 T18:={d6:={k7:={fo:={toFnsRd:={p:=sound18.primAS,f47:=by kernel_rfl,f106:=by kernel_rfl,f90:=by kernel_rfl},f129:=by kernel_rfl,f216:=by kernel_rfl,f217:=by kernel_rfl,vo:={p:=sound18.primAS,f135:=by kernel_rfl,f218:=by kernel_rfl,f219:=by kernel_rfl,f220:=by kernel_rfl}},rf:={toFnsRr:={p:=sound18.primAS,f48:=by kernel_rfl,f113:=by kernel_rfl},f130:=by kernel_rfl},sn:={p:=sound18.primAS,f122:=by kernel_rfl,f124:=by kernel_rfl,f174:=by kernel_rfl},kn:={p:=sound18.primAS,f136:=by kernel_rfl,f118:=by kernel_rfl,f140:=by kernel_rfl,f169:=by kernel_rfl},f35:=by kernel_rfl,f37:=by kernel_rfl,f40:=by kernel_rfl,f41:=by kernel_rfl,f44:=by kernel_rfl,f52:=by kernel_rfl,f73:=by kernel_rfl,f121:=by kernel_rfl,f131:=by kernel_rfl,f132:=by kernel_rfl,f133:=by kernel_rfl,f134:=by kernel_rfl},hv:={h:={p:=sound18.primAS,f38:=by kernel_rfl,f126:=by kernel_rfl,f215:=by kernel_rfl,f127:=by kernel_rfl},f125:=by kernel_rfl},f36:=by kernel_rfl,cp:={p:=sound18.primAS,f123:=by kernel_rfl,f213:=by kernel_rfl,f214:=by kernel_rfl,f264:=by kernel_rfl,f265:=by kernel_rfl,f266:=by kernel_rfl}},d7:={k7:={fo:={toFnsRd:={p:=sound18.primAS,f47:=by kernel_rfl,f106:=by kernel_rfl,f90:=by kernel_rfl},f129:=by kernel_rfl,f216:=by kernel_rfl,f217:=by kernel_rfl,vo:={p:=sound18.primAS,f135:=by kernel_rfl,f218:=by kernel_rfl,f219:=by kernel_rfl,f220:=by kernel_rfl}},rf:={toFnsRr:={p:=sound18.primAS,f48:=by kernel_rfl,f113:=by kernel_rfl},f130:=by kernel_rfl},sn:={p:=sound18.primAS,f122:=by kernel_rfl,f124:=by kernel_rfl,f174:=by kernel_rfl},kn:={p:=sound18.primAS,f136:=by kernel_rfl,f118:=by kernel_rfl,f140:=by kernel_rfl,f169:=by kernel_rfl},f35:=by kernel_rfl,f37:=by kernel_rfl,f40:=by kernel_rfl,f41:=by kernel_rfl,f44:=by kernel_rfl,f52:=by kernel_rfl,f73:=by kernel_rfl,f121:=by kernel_rfl,f131:=by kernel_rfl,f132:=by kernel_rfl,f133:=by kernel_rfl,f134:=by kernel_rfl},cr:={hr:={p:=sound18.primAS,f171:=by kernel_rfl,f225:=by kernel_rfl},f170:=by kernel_rfl},f74:=by kernel_rfl},r6:={k7:={fo:={toFnsRd:={p:=sound18.primAS,f47:=by kernel_rfl,f106:=by kernel_rfl,f90:=by kernel_rfl},f129:=by kernel_rfl,f216:=by kernel_rfl,f217:=by kernel_rfl,vo:={p:=sound18.primAS,f135:=by kernel_rfl,f218:=by kernel_rfl,f219:=by kernel_rfl,f220:=by kernel_rfl}},rf:={toFnsRr:={p:=sound18.primAS,f48:=by kernel_rfl,f113:=by kernel_rfl},f130:=by kernel_rfl},sn:={p:=sound18.primAS,f122:=by kernel_rfl,f124:=by kernel_rfl,f174:=by kernel_rfl},kn:={p:=sound18.primAS,f136:=by kernel_rfl,f118:=by kernel_rfl,f140:=by kernel_rfl,f169:=by kernel_rfl},f35:=by kernel_rfl,f37:=by kernel_rfl,f40:=by kernel_rfl,f41:=by kernel_rfl,f44:=by kernel_rfl,f52:=by kernel_rfl,f73:=by kernel_rfl,f121:=by kernel_rfl,f131:=by kernel_rfl,f132:=by kernel_rfl,f133:=by kernel_rfl,f134:=by kernel_rfl},hv:={h:={p:=sound18.primAS,f38:=by kernel_rfl,f126:=by kernel_rfl,f215:=by kernel_rfl,f127:=by kernel_rfl},f125:=by kernel_rfl},f76:=by kernel_rfl,f172:=by kernel_rfl},r7:={k7:={fo:={toFnsRd:={p:=sound18.primAS,f47:=by kernel_rfl,f106:=by kernel_rfl,f90:=by kernel_rfl},f129:=by kernel_rfl,f216:=by kernel_rfl,f217:=by kernel_rfl,vo:={p:=sound18.primAS,f135:=by kernel_rfl,f218:=by kernel_rfl,f219:=by kernel_rfl,f220:=by kernel_rfl}},rf:={toFnsRr:={p:=sound18.primAS,f48:=by kernel_rfl,f113:=by kernel_rfl},f130:=by kernel_rfl},sn:={p:=sound18.primAS,f122:=by kernel_rfl,f124:=by kernel_rfl,f174:=by kernel_rfl},kn:={p:=sound18.primAS,f136:=by kernel_rfl,f118:=by kernel_rfl,f140:=by kernel_rfl,f169:=by kernel_rfl},f35:=by kernel_rfl,f37:=by kernel_rfl,f40:=by kernel_rfl,f41:=by kernel_rfl,f44:=by kernel_rfl,f52:=by kernel_rfl,f73:=by kernel_rfl,f121:=by kernel_rfl,f131:=by kernel_rfl,f132:=by kernel_rfl,f133:=by kernel_rfl,f134:=by kernel_rfl},hr:={p:=sound18.primAS,f171:=by kernel_rfl,f225:=by kernel_rfl},f77:=by kernel_rfl,f113:=by kernel_rfl},re:={k7:={fo:={toFnsRd:={p:=sound18.primAS,f47:=by kernel_rfl,f106:=by kernel_rfl,f90:=by kernel_rfl},f129:=by kernel_rfl,f216:=by kernel_rfl,f217:=by kernel_rfl,vo:={p:=sound18.primAS,f135:=by kernel_rfl,f218:=by kernel_rfl,f219:=by kernel_rfl,f220:=by kernel_rfl}},rf:={toFnsRr:={p:=sound18.primAS,f48:=by kernel_rfl,f113:=by kernel_rfl},f130:=by kernel_rfl},sn:={p:=sound18.primAS,f122:=by kernel_rfl,f124:=by kernel_rfl,f174:=by kernel_rfl},kn:={p:=sound18.primAS,f136:=by kernel_rfl,f118:=by kernel_rfl,f140:=by kernel_rfl,f169:=by kernel_rfl},f35:=by kernel_rfl,f37:=by kernel_rfl,f40:=by kernel_rfl,f41:=by kernel_rfl,f44:=by kernel_rfl,f52:=by kernel_rfl,f73:=by kernel_rfl,f121:=by kernel_rfl,f131:=by kernel_rfl,f132:=by kernel_rfl,f133:=by kernel_rfl,f134:=by kernel_rfl},on:={p:=sound18.primAS,f118:=by kernel_rfl,f121:=by kernel_rfl,f124:=by kernel_rfl,f140:=by kernel_rfl,f173:=by kernel_rfl,f174:=by kernel_rfl,f175:=by kernel_rfl},f42:=by kernel_rfl,f43:=by kernel_rfl,f78:=by kernel_rfl,f79:=by kernel_rfl},f18:=by kernel_rfl,f21:=by kernel_rfl,f75:=by kernel_rfl}
open Go.RowKit in
theorem known_calls{W:World}(V:TabAt W){s:List Nat}(hs:IsS s){sl:Value}{l:List Rd}(hl:RdsAt W sl l)(day:Int)(c:Ce){r:Rd}(hR:IsR r):Calls Tryz.prog 18 #[sv s,sl, .int .i64 day,ceV c,rdV r] W fun e W'=>e= .returned (.bool true)∧Below W.heap.size W W':=by
 obtain⟨h,μ,hRR,hro,hrd,hnx,hgl,a,n,hu,hsl,hc⟩:=laidG1 V.gl hl.1
 obtain⟨r',h',⟨m,hm⟩,rfl,rfl⟩:=law18 fns18 hrd (hgl 2 _ List.mem_cons_self) (by omega) hs ⟨hsl,hl.2⟩ day c hR
 have hrun:=hm m (Nat.le_refl _)
 have ha:LR μ [sv s, .slice a l.length n, .int .i64 day,ceV c,rdV r] [sv s,sl, .int .i64 day,ceV c,rdV r]:= .cons (VR.noRef (sv_noRef s)).1 (.cons hu (.cons (.int _ _) (.cons (VR.noRef (noRef_ceV c)).1 (.cons (VR.noRef (noRef_rdV r)).1 .nil))))
 refine(acall_calls sound18 hrun hrd.log (by kernel_rfl) hRR ha).mono fun e W' hq=> ?_
 obtain⟨μ',q1,q2,q3⟩:=hq
 cases e with
 |returned v'=>
  have hv:VR μ' (.bool true) v':=q1
  cases hv
  exact⟨rfl,St.below q3 hro⟩
 |panicked _=>exact q1.elim
 |outgrown=>exact q1.elim
end Go.A.Pk
end
