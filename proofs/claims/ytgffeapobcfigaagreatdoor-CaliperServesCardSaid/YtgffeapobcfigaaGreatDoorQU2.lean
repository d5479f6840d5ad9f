/- Walks of functions, plain laws, the table. -/
import Derived.Test.YtgffeapobcfigaaGreatDoorQU1
import Derived.Test.YtgffeapobcfigaaGreatDoorQF
import Derived.Test.YtgffeapobcfigaaGreatDoorQU0
import Derived.Test.YtgffeapobcfigaaGreatDoorQH
import Derived.Test.YtgffeapobcfigaaGreatDoorQT
import Derived.KernelRfl
import Derived.Test.YtgffeapobcfigaaGreatDoorQD
import Derived.Carry
import Derived.Lib.SmallJoins
import Derived.Deep.Slices
import Derived.Deep.Fields
import Derived.SizedLaws
import Derived.Lib.LaidTab
set_option linter.all false
section
set_option maxRecDepth 100000
namespace Go.A.Pk
variable {T:Nat→Option AFunc}
abbrev CeQ(h:Heap)(v:Value)(l:List Ce):Prop:=SliceOf h 3 v l.length (ceS l)
theorem CeQ.head{h:Heap}{a:Option Addr}{n c:Nat}{x:Ce}{l:List Ce}(s:CeQ h (.slice a n c) (x::l)):
 ∃b o vs own t,a=some ⟨b,o,none⟩∧h.get b=some (.cells vs own t)∧ltake 3 (ldrop (o+0*3) vs)=ceL x:=by
 rcases SliceOf.inv s with⟨_,_,h0,_⟩|⟨b,o,cap,hv,s1,hc⟩
 ·simp at h0
 ·cases hv
  obtain⟨vs,own,t,g1,g2⟩:=s1.obj
  refine⟨b,o,vs,own,t,rfl,g1,?_⟩
  have e:(ceS (x::l)).take 3=ceL x:=rfl
  rw[←e,←g2]
  simp only[ltake_eq,ldrop_eq,List.take_take,List.length_cons,Nat.zero_mul,Nat.add_zero]
  rw[Nat.min_eq_left (by omega)]
end Go.A.Pk
end
section
set_option maxRecDepth 100000
namespace Go.A.Pk
variable {T:Nat→Option AFunc}
theorem CeQ.elem{h:Heap}{v:Value}{l:List Ce}(s:CeQ h v l){i:Nat}{x:Ce}(hi:l[i]? =some x):
 ∃b o c vs own t,v= .slice (some ⟨b,o,none⟩) l.length c∧h.get b=some (.cells vs own t)∧b<h.next∧ltake 3 (ldrop (o+i*3) vs)=ceL x∧lget vs (o+i*3+0)=some (.int .i64 x.x)∧lget vs (o+i*3+1)=some (.int .i64 x.y)∧lget vs (o+i*3+2)=some (.int .i64 x.z):=by
 have hlt:=(List.getElem?_eq_some_iff.1 hi).1
 rcases SliceOf.inv s with⟨_,_,h0,_⟩|⟨b,o,cap,hv,s1,hc⟩
 ·omega
 ·obtain⟨vs,own,t,g1,g2⟩:=s1.obj
  have hsp:∀(l:List Ce) (i:Nat),l[i]? =some x→((ceS l).drop (i*3)).take 3=ceL x:=by
   intro l
   induction l with
   |nil=>intro i h;simp at h
   |cons c l ih=>
    intro i h
    cases i with
    |zero=>simp at h;subst h;rfl
    |succ i=>
     have e:ceS (c::l)=ceL c++ceS l:=rfl
     rw[e,show(i+1)*3=3+i*3 by omega,←List.drop_drop]
     exact ih i (by simpa using h)
  have e:=hsp l i hi
  rw[←g2]at e
  have e2:ltake 3 (ldrop (o+i*3) vs)=ceL x:=by
   rw[←e]
   simp only[ltake_eq,ldrop_eq,List.drop_take,List.take_take,List.drop_drop]
   congr 1;omega
  have e3:∀j v,j<3→(ceL x)[j]? =some v→lget vs (o+i*3+j)=some v:=by
   intro j v hj h
   rw[←e2,ltake_eq,ldrop_eq,List.getElem?_take_of_lt hj,List.getElem?_drop]at h
   rw[lget_eq];exact h
  exact⟨b,o,cap,vs,own,t,hv,g1,s1.lt,e2,e3 0 _ (by omega) rfl,e3 1 _ (by omega) rfl,e3 2 _ (by omega) rfl⟩
theorem count84(F:FnsCr T)(hf:T 84=some f84){h:Heap}(hr:Rdy h){s:List Nat}(hs:IsS s):Pu T 84 [sv s] h (.int .i64 ((cntS s:Nat):Int)):=by
 refine .of F.hr.p hf hr rfl ?_
 have k8:=us_llen hs.len
 have k9:=us_take8 hs.len
 have x0:Ext h (h.push (.cells (cellsOf (sv s)) true 1)):=(Ext.refl h).push _
 have g0:(h.push (.cells (cellsOf (sv s)) true 1)).get h.next=some (.cells (us s) true 1):=z3 h _
 refine y4 ?_;refine yB ?_;refine yM ?_;refine y3 ?_
 generalize(h.push (.cells (cellsOf (sv s)) true 1))=H at*
 have W:=x0.wf hr.wf
 have hL:=x0.log.trans hr.log
 have hle:=cellsTo_le s 512
 have C:=cells170 F (h:={H with log:=[]}) (.of W) hs
 unfold cntS
 refine y4 ?_;refine wO_val (a_loadN (by exact rfl) (by assumption) (by assumption) (by assumption)) ?_
 refine yC ?_
 refine FW.al C (fun v h' m q=>q.log m) ?_
 rintro v H1 x1 q
 clear C
 have hL1:=x1.log.trans hL
 obtain⟨a,c,rfl⟩:=(q.slice (by omega)).form
 refine yD ?_;refine yM ?_;refine y3 ?_;refine wE_ret ?_
 exact endP_ret hL1 rfl rfl
set_option maxHeartbeats 4000000 in
theorem with221(hp:primAS T)(hf:T 221=some f221){h:Heap}(hr:Rdy h){o:List Nat}(ho:IsS o){c:Ce}(hc:inG c=true):Pu T 221 [sv o,ceV c] h (sv (putC o c)):=by
 refine .of hp hf hr (sv_noRef _) ?_
 have hk:=ho.putC hc
 obtain⟨z,i,hz,hi,rfl⟩:=inG_form hc
 have e1:=us_get (getD_at (s:=o) (i:=z) (by rw[ho.len];exact hz))
 have m1:=m_or (a:=o.getD z 0) (b:=2 ^ i) (ho.getD_lt z) (pow_lt64 hi)
 have k4:numOp .mul (.int .i64 8) (.int .i64 (ceOf z i).y)=some (.int .i64 (8*((i / 8:Nat):Int))):=m_mul (b:=((i / 8:Nat):Int)) (by omega) (by omega)
 have k5:numOp .add (.int .i64 (8*((i / 8:Nat):Int))) (.int .i64 (ceOf z i).x)=some (.int .i64 ((i:Nat):Int)):=m_add (b:=((i % 8:Nat):Int)) (by rw[wrapA_i64]<;>omega)
 have k6:=m_shl1 (k:= .u64) hi
 have k7:wrapA .u64 ((i:Nat):Int)=((i:Nat):Int):=wrapA_u64 (by omega)
 have kw:=us_put (o:=o) (z:=z) (v:=Nat.lor (o.getD z 0) (2 ^ i)) (by rw[ho.len];exact hz)
 rw[←putC_of o hi]at kw
 have kc:(Nat.beq (llen (cellsOf (.int .u64 ((Nat.lor (o.getD z 0) (2 ^ i):Nat):Int)))) 1&&Nat.ble (0+z*1+1) (llen (us o))&&ones (cellsOf (.int .u64 ((Nat.lor (o.getD z 0) (2 ^ i):Nat):Int))))=true:=by
  rw[llen_eq (us o),us_length,ho.len,nble_of (by omega)];rfl
 have lz:lget (ceL (ceOf z i)) (0+2)=some (.int .i64 ((z:Nat):Int)):=rfl
 have g0:(((h.push (.cells (cellsOf (sv o)) true 1)).push (.cells (cellsOf (ceV (ceOf z i))) true 1)).push (.cells (lrep 8 (.int .u64 0)) true 1)).get h.next=some (.cells (us o) true 1):=by(simp(disch:=first|omega|(simp only[z1,z2];omega))only[z3,z4,z5,z6,z7,z1,z2];exact rfl)
 have g1:(((h.push (.cells (cellsOf (sv o)) true 1)).push (.cells (cellsOf (ceV (ceOf z i))) true 1)).push (.cells (lrep 8 (.int .u64 0)) true 1)).get (h.next+1)=some (.cells (ceL (ceOf z i)) true 1):=by(simp(disch:=first|omega|(simp only[z1,z2];omega)|(simp only[z1,z2];done)|fail)only[z8,z4,z5,z9,z7,z1,z2,g0];exact rfl)
 have g2:(((h.push (.cells (cellsOf (sv o)) true 1)).push (.cells (cellsOf (ceV (ceOf z i))) true 1)).push (.cells (lrep 8 (.int .u64 0)) true 1)).get (h.next+2)=some (.cells (lrep 8 (.int .u64 0)) true 1):=by(simp(disch:=first|omega|(simp only[z1,z2];omega)|(simp only[z1,z2];done)|fail)only[z8,z4,z5,z9,z7,z1,z2,g0,g1];done)
 have x0:Ext h (((h.push (.cells (cellsOf (sv o)) true 1)).push (.cells (cellsOf (ceV (ceOf z i))) true 1)).push (.cells (lrep 8 (.int .u64 0)) true 1)):=(((Ext.refl h).push _).push _).push _
 have n0:(((h.push (.cells (cellsOf (sv o)) true 1)).push (.cells (cellsOf (ceV (ceOf z i))) true 1)).push (.cells (lrep 8 (.int .u64 0)) true 1)).next=h.next+3:=rfl
 refine y4 ?_;refine yB ?_;refine yB ?_;refine wO_val (a_new) ?_;refine y3 ?_
 generalize(((h.push (.cells (cellsOf (sv o)) true 1)).push (.cells (cellsOf (ceV (ceOf z i))) true 1)).push (.cells (lrep 8 (.int .u64 0)) true 1))=H at*
 have hL:=x0.log.trans hr.log
 have k1:=us_take8 hk.len
 have k2:=us_llen hk.len
 have k3:=hk.len
 refine wE_seq ?_;refine wE_draw ?_;refine qF ?_;refine qL ?_;refine qF ?_
 refine qL ?_;refine wD_quiet rfl rfl rfl (by exact rfl) (by exact rfl) (by exact rfl) (a_iaddrA (by exact rfl) (by exact rfl) (by omega)) ?_;refine wD_quiet rfl rfl rfl (by exact rfl) (by exact rfl) (by exact rfl) (a_load (by exact rfl) (by assumption) (by assumption)) ?_
 refine qF ?_;refine qL ?_;refine wD_quiet rfl rfl rfl (by exact rfl) (by exact rfl) (by exact rfl) (a_num (by exact rfl) (by exact rfl) (by with_reducible assumption)) ?_
 refine qF ?_;refine qL ?_;refine wD_quiet rfl rfl rfl (by exact rfl) (by exact rfl) (by exact rfl) (a_num (by exact rfl) (by exact rfl) (by with_reducible assumption)) ?_
 refine wD_quiet rfl rfl rfl (by exact rfl) (by exact rfl) (by exact rfl) (a_conv (by exact rfl) (by assumption)) ?_;refine wD_quiet rfl rfl rfl (by exact rfl) (by exact rfl) (by exact rfl) (a_num (by exact rfl) (by exact rfl) (by with_reducible assumption)) ?_
 refine wD_quiet rfl rfl rfl (by exact rfl) (by exact rfl) (by exact rfl) (a_num (by exact rfl) (by exact rfl) (by with_reducible assumption)) ?_;refine wD_quiet rfl rfl rfl (by exact rfl) (by exact rfl) (by exact rfl) (a_iaddrA (by exact rfl) (by exact rfl) (by omega)) ?_
 refine wD_storeA (vs:=us o) (ws:=us (putC o (ceOf z i))) rfl rfl rfl (by exact rfl) (by exact rfl) (by exact rfl) g0 kc kw (by omega) (by apply ra_dropC rfl;apply ra_dropC rfl;apply ra_dropC rfl;apply ra_dropC rfl;apply ra_dropC rfl;apply ra_dropC rfl;apply ra_dropC rfl;apply ra_dropC rfl;apply ra_dropC rfl;apply ra_dropC rfl;apply ra_dropC rfl;apply ra_dropC rfl;apply ra_dropC rfl;apply ra_dropC rfl;apply ra_dropC rfl;apply ra_dropC rfl;exact ra_nil) ?_
 generalize putC o (ceOf z i)=o' at*
 refine wD_nil ?_;refine y1 ?_;refine kS_n ?_;refine y4 ?_
 refine wO_val (a_loadN (by exact rfl) (by(simp(disch:=first|omega|(simp only[z1,z2];omega))only[z3,z4,z5,z6,z7,z1,z2,g0,g1,g2];exact rfl)) (by assumption) (by assumption)) ?_
 refine wO_val (a_storeAll (by exact rfl) (by exact rfl) (by(simp(disch:=first|omega|(simp only[z1,z2];omega))only[z3,z4,z5,z6,z7,z1,z2,g0,g1,g2];exact rfl)) (by(simp only[us_length];assumption)) (by exact rfl) (by exact us_ones _)) ?_;refine y3 ?_;refine wE_ret ?_
 refine endP_ret ?_ (res_cells (own:=true) (s:=1) rfl ?_ k1 k2 rfl) rfl
 ·rw[Heap.log_wr_new (by show h.next≤h.next+2;omega),Heap.log_wr_new (Nat.le_refl _)];exact hL
 ·(simp(disch:=first|omega|(simp only[z1,z2];omega))only[z3,z4,z5,z6,z7,z1,z2,g0,g1,g2];done)
theorem rroll0(hp:primAS T)(hf:T 267=some f267){h:Heap}(hr:Rdy h){c:Ce}(hc:InB c):Pu T 267 [ceV c, .int .i64 0] h (ceV (rollC 0 c)):=by
 refine .of hp hf hr rfl ?_
 obtain⟨cx,cy,cz⟩:=c
 obtain⟨hx,hy,hz⟩:=hc
 dsimp only at hx hy hz
 have mx:=m_sub7 hx
 have my:=m_sub7 hy
 have mz:=m_sub7 hz
 have q1:numOp .eql (.int .i64 0) (.int .i64 1)=some (.bool false):=rfl
 have q2:numOp .eql (.int .i64 0) (.int .i64 2)=some (.bool false):=rfl
 have q3:numOp .eql (.int .i64 0) (.int .i64 3)=some (.bool false):=rfl
 have q4:numOp .eql (.int .i64 0) (.int .i64 4)=some (.bool false):=rfl
 have q5:numOp .eql (.int .i64 0) (.int .i64 5)=some (.bool false):=rfl
 have ck:ltake 3 (ldrop 0 (ceL (rollC 0 ⟨cx,cy,cz⟩)))=ceL (rollC 0 ⟨cx,cy,cz⟩):=rfl
 refine y4 ?_;refine yB ?_;refine wO_val (a_new) ?_;refine y3 ?_;refine wE_seq ?_;refine y4 ?_;refine yM ?_;refine y3 ?_;refine wE_block ?_;refine y4 ?_;refine wO_val (a_num (by exact rfl) (by exact rfl) (by with_reducible assumption)) ?_;refine yM ?_;refine y3 ?_;refine yX ?_;refine y4 ?_;refine wO_val (a_num (by exact rfl) (by exact rfl) (by with_reducible assumption)) ?_;refine yM ?_;refine y3 ?_;refine yX ?_;refine y4 ?_;refine wO_val (a_num (by exact rfl) (by exact rfl) (by with_reducible assumption)) ?_;refine yM ?_;refine y3 ?_;refine yX ?_;refine y4 ?_;refine wO_val (a_num (by exact rfl) (by exact rfl) (by with_reducible assumption)) ?_;refine yM ?_;refine y3 ?_;refine yX ?_;refine y4 ?_;refine wO_val (a_num (by exact rfl) (by exact rfl) (by with_reducible assumption)) ?_;refine yM ?_;refine y3 ?_;refine yX ?_;refine wE_skip ?_;refine kB_n ?_;refine kS_n ?_;refine y4 ?_
 refine yN ?_
 refine yS ?_;refine y3 ?_;refine wE_ret ?_
 refine endP_ret ?_ (res_cells (own:=true) (s:=1) rfl ?_ ck rfl rfl) rfl
 ·rw[Heap.log_wr_new (by show h.next≤h.next+1;omega)];exact hr.log
 ·(simp(disch:=first|omega|(simp only[z1,z2];omega)|(simp only[z1,z2];done)|fail)only[z8,z4,z5,z9,z7,z1,z2];exact rfl)
theorem rroll1(hp:primAS T)(hf:T 267=some f267){h:Heap}(hr:Rdy h){c:Ce}(hc:InB c):Pu T 267 [ceV c, .int .i64 1] h (ceV (rollC 1 c)):=by
 refine .of hp hf hr rfl ?_
 obtain⟨cx,cy,cz⟩:=c
 obtain⟨hx,hy,hz⟩:=hc
 dsimp only at hx hy hz
 have mx:=m_sub7 hx
 have my:=m_sub7 hy
 have mz:=m_sub7 hz
 have q1:numOp .eql (.int .i64 1) (.int .i64 1)=some (.bool true):=rfl
 have ck:ltake 3 (ldrop 0 (ceL (rollC 1 ⟨cx,cy,cz⟩)))=ceL (rollC 1 ⟨cx,cy,cz⟩):=rfl
 refine y4 ?_;refine yB ?_;refine wO_val (a_new) ?_;refine y3 ?_;refine wE_seq ?_;refine y4 ?_;refine yM ?_;refine y3 ?_;refine wE_block ?_;refine y4 ?_;refine wO_val (a_num (by exact rfl) (by exact rfl) (by with_reducible assumption)) ?_;refine yM ?_;refine y3 ?_;refine yY ?_;refine y4 ?_;refine yF ?_
 refine yL ?_;refine yF ?_
 refine yL ?_;refine wO_val (a_num (by exact rfl) (by exact rfl) (by with_reducible assumption)) ?_
 refine yF ?_;refine yL ?_;refine wO_val (a_build (by exact rfl)) ?_
 refine yS ?_;refine y3 ?_;refine wE_ret ?_;refine kB_r ?_;refine kS_r ?_
 refine endP_ret ?_ (res_cells (own:=true) (s:=1) rfl ?_ ck rfl rfl) rfl
 ·rw[Heap.log_wr_new (by show h.next≤h.next+1;omega)];exact hr.log
 ·(simp(disch:=first|omega|(simp only[z1,z2];omega)|(simp only[z1,z2];done)|fail)only[z8,z4,z5,z9,z7,z1,z2];exact rfl)
theorem rroll2(hp:primAS T)(hf:T 267=some f267){h:Heap}(hr:Rdy h){c:Ce}(hc:InB c):Pu T 267 [ceV c, .int .i64 2] h (ceV (rollC 2 c)):=by
 refine .of hp hf hr rfl ?_
 obtain⟨cx,cy,cz⟩:=c
 obtain⟨hx,hy,hz⟩:=hc
 dsimp only at hx hy hz
 have mx:=m_sub7 hx
 have my:=m_sub7 hy
 have mz:=m_sub7 hz
 have q1:numOp .eql (.int .i64 2) (.int .i64 1)=some (.bool false):=rfl
 have q2:numOp .eql (.int .i64 2) (.int .i64 2)=some (.bool true):=rfl
 have ck:ltake 3 (ldrop 0 (ceL (rollC 2 ⟨cx,cy,cz⟩)))=ceL (rollC 2 ⟨cx,cy,cz⟩):=rfl
 refine y4 ?_;refine yB ?_;refine wO_val (a_new) ?_;refine y3 ?_;refine wE_seq ?_;refine y4 ?_;refine yM ?_;refine y3 ?_;refine wE_block ?_;refine y4 ?_;refine wO_val (a_num (by exact rfl) (by exact rfl) (by with_reducible assumption)) ?_;refine yM ?_;refine y3 ?_;refine yX ?_;refine y4 ?_;refine wO_val (a_num (by exact rfl) (by exact rfl) (by with_reducible assumption)) ?_;refine yM ?_;refine y3 ?_;refine yY ?_;refine y4 ?_;refine yF ?_
 refine yL ?_;refine yF ?_
 refine yL ?_;refine wO_val (a_num (by exact rfl) (by exact rfl) (by with_reducible assumption)) ?_
 refine yF ?_;refine yL ?_
 refine wO_val (a_num (by exact rfl) (by exact rfl) (by with_reducible assumption)) ?_;refine wO_val (a_build (by exact rfl)) ?_
 refine yS ?_;refine y3 ?_;refine wE_ret ?_;refine kB_r ?_;refine kS_r ?_
 refine endP_ret ?_ (res_cells (own:=true) (s:=1) rfl ?_ ck rfl rfl) rfl
 ·rw[Heap.log_wr_new (by show h.next≤h.next+1;omega)];exact hr.log
 ·(simp(disch:=first|omega|(simp only[z1,z2];omega)|(simp only[z1,z2];done)|fail)only[z8,z4,z5,z9,z7,z1,z2];exact rfl)
theorem rroll3(hp:primAS T)(hf:T 267=some f267){h:Heap}(hr:Rdy h){c:Ce}(hc:InB c):Pu T 267 [ceV c, .int .i64 3] h (ceV (rollC 3 c)):=by
 refine .of hp hf hr rfl ?_
 obtain⟨cx,cy,cz⟩:=c
 obtain⟨hx,hy,hz⟩:=hc
 dsimp only at hx hy hz
 have mx:=m_sub7 hx
 have my:=m_sub7 hy
 have mz:=m_sub7 hz
 have q1:numOp .eql (.int .i64 3) (.int .i64 1)=some (.bool false):=rfl
 have q2:numOp .eql (.int .i64 3) (.int .i64 2)=some (.bool false):=rfl
 have q3:numOp .eql (.int .i64 3) (.int .i64 3)=some (.bool true):=rfl
 have ck:ltake 3 (ldrop 0 (ceL (rollC 3 ⟨cx,cy,cz⟩)))=ceL (rollC 3 ⟨cx,cy,cz⟩):=rfl
 refine y4 ?_;refine yB ?_;refine wO_val (a_new) ?_;refine y3 ?_;refine wE_seq ?_;refine y4 ?_;refine yM ?_;refine y3 ?_;refine wE_block ?_;refine y4 ?_;refine wO_val (a_num (by exact rfl) (by exact rfl) (by with_reducible assumption)) ?_;refine yM ?_;refine y3 ?_;refine yX ?_;refine y4 ?_;refine wO_val (a_num (by exact rfl) (by exact rfl) (by with_reducible assumption)) ?_;refine yM ?_;refine y3 ?_;refine yX ?_;refine y4 ?_;refine wO_val (a_num (by exact rfl) (by exact rfl) (by with_reducible assumption)) ?_;refine yM ?_;refine y3 ?_;refine yY ?_;refine y4 ?_;refine yF ?_
 refine yL ?_;refine yF ?_
 refine yL ?_;refine yF ?_
 refine yL ?_;refine wO_val (a_num (by exact rfl) (by exact rfl) (by with_reducible assumption)) ?_
 refine wO_val (a_build (by exact rfl)) ?_
 refine yS ?_;refine y3 ?_;refine wE_ret ?_;refine kB_r ?_;refine kS_r ?_
 refine endP_ret ?_ (res_cells (own:=true) (s:=1) rfl ?_ ck rfl rfl) rfl
 ·rw[Heap.log_wr_new (by show h.next≤h.next+1;omega)];exact hr.log
 ·(simp(disch:=first|omega|(simp only[z1,z2];omega)|(simp only[z1,z2];done)|fail)only[z8,z4,z5,z9,z7,z1,z2];exact rfl)
theorem rroll4(hp:primAS T)(hf:T 267=some f267){h:Heap}(hr:Rdy h){c:Ce}(hc:InB c):Pu T 267 [ceV c, .int .i64 4] h (ceV (rollC 4 c)):=by
 refine .of hp hf hr rfl ?_
 obtain⟨cx,cy,cz⟩:=c
 obtain⟨hx,hy,hz⟩:=hc
 dsimp only at hx hy hz
 have mx:=m_sub7 hx
 have my:=m_sub7 hy
 have mz:=m_sub7 hz
 have q1:numOp .eql (.int .i64 4) (.int .i64 1)=some (.bool false):=rfl
 have q2:numOp .eql (.int .i64 4) (.int .i64 2)=some (.bool false):=rfl
 have q3:numOp .eql (.int .i64 4) (.int .i64 3)=some (.bool false):=rfl
 have q4:numOp .eql (.int .i64 4) (.int .i64 4)=some (.bool true):=rfl
 have ck:ltake 3 (ldrop 0 (ceL (rollC 4 ⟨cx,cy,cz⟩)))=ceL (rollC 4 ⟨cx,cy,cz⟩):=rfl
 refine y4 ?_;refine yB ?_;refine wO_val (a_new) ?_;refine y3 ?_;refine wE_seq ?_;refine y4 ?_;refine yM ?_;refine y3 ?_;refine wE_block ?_;refine y4 ?_;refine wO_val (a_num (by exact rfl) (by exact rfl) (by with_reducible assumption)) ?_;refine yM ?_;refine y3 ?_;refine yX ?_;refine y4 ?_;refine wO_val (a_num (by exact rfl) (by exact rfl) (by with_reducible assumption)) ?_;refine yM ?_;refine y3 ?_;refine yX ?_;refine y4 ?_;refine wO_val (a_num (by exact rfl) (by exact rfl) (by with_reducible assumption)) ?_;refine yM ?_;refine y3 ?_;refine yX ?_;refine y4 ?_;refine wO_val (a_num (by exact rfl) (by exact rfl) (by with_reducible assumption)) ?_;refine yM ?_;refine y3 ?_;refine yY ?_;refine y4 ?_;refine yF ?_
 refine yL ?_;refine yF ?_
 refine yL ?_;refine yF ?_
 refine yL ?_;refine wO_val (a_num (by exact rfl) (by exact rfl) (by with_reducible assumption)) ?_
 refine wO_val (a_build (by exact rfl)) ?_
 refine yS ?_;refine y3 ?_;refine wE_ret ?_;refine kB_r ?_;refine kS_r ?_
 refine endP_ret ?_ (res_cells (own:=true) (s:=1) rfl ?_ ck rfl rfl) rfl
 ·rw[Heap.log_wr_new (by show h.next≤h.next+1;omega)];exact hr.log
 ·(simp(disch:=first|omega|(simp only[z1,z2];omega)|(simp only[z1,z2];done)|fail)only[z8,z4,z5,z9,z7,z1,z2];exact rfl)
theorem rroll5(hp:primAS T)(hf:T 267=some f267){h:Heap}(hr:Rdy h){c:Ce}(hc:InB c):Pu T 267 [ceV c, .int .i64 5] h (ceV (rollC 5 c)):=by
 refine .of hp hf hr rfl ?_
 obtain⟨cx,cy,cz⟩:=c
 obtain⟨hx,hy,hz⟩:=hc
 dsimp only at hx hy hz
 have mx:=m_sub7 hx
 have my:=m_sub7 hy
 have mz:=m_sub7 hz
 have q1:numOp .eql (.int .i64 5) (.int .i64 1)=some (.bool false):=rfl
 have q2:numOp .eql (.int .i64 5) (.int .i64 2)=some (.bool false):=rfl
 have q3:numOp .eql (.int .i64 5) (.int .i64 3)=some (.bool false):=rfl
 have q4:numOp .eql (.int .i64 5) (.int .i64 4)=some (.bool false):=rfl
 have q5:numOp .eql (.int .i64 5) (.int .i64 5)=some (.bool true):=rfl
 have ck:ltake 3 (ldrop 0 (ceL (rollC 5 ⟨cx,cy,cz⟩)))=ceL (rollC 5 ⟨cx,cy,cz⟩):=rfl
 refine y4 ?_;refine yB ?_;refine wO_val (a_new) ?_;refine y3 ?_;refine wE_seq ?_;refine y4 ?_;refine yM ?_;refine y3 ?_;refine wE_block ?_;refine y4 ?_;refine wO_val (a_num (by exact rfl) (by exact rfl) (by with_reducible assumption)) ?_;refine yM ?_;refine y3 ?_;refine yX ?_;refine y4 ?_;refine wO_val (a_num (by exact rfl) (by exact rfl) (by with_reducible assumption)) ?_;refine yM ?_;refine y3 ?_;refine yX ?_;refine y4 ?_;refine wO_val (a_num (by exact rfl) (by exact rfl) (by with_reducible assumption)) ?_;refine yM ?_;refine y3 ?_;refine yX ?_;refine y4 ?_;refine wO_val (a_num (by exact rfl) (by exact rfl) (by with_reducible assumption)) ?_;refine yM ?_;refine y3 ?_;refine yX ?_;refine y4 ?_;refine wO_val (a_num (by exact rfl) (by exact rfl) (by with_reducible assumption)) ?_;refine yM ?_;refine y3 ?_;refine yY ?_;refine y4 ?_;refine yF ?_
 refine yL ?_;refine wO_val (a_num (by exact rfl) (by exact rfl) (by with_reducible assumption)) ?_
 refine yF ?_;refine yL ?_;refine yF ?_
 refine yL ?_;refine wO_val (a_build (by exact rfl)) ?_
 refine yS ?_;refine y3 ?_;refine wE_ret ?_;refine kB_r ?_;refine kS_r ?_
 refine endP_ret ?_ (res_cells (own:=true) (s:=1) rfl ?_ ck rfl rfl) rfl
 ·rw[Heap.log_wr_new (by show h.next≤h.next+1;omega)];exact hr.log
 ·(simp(disch:=first|omega|(simp only[z1,z2];omega)|(simp only[z1,z2];done)|fail)only[z8,z4,z5,z9,z7,z1,z2];exact rfl)
theorem rrollK(hp:primAS T)(hf:T 267=some f267){h:Heap}(hr:Rdy h){c:Ce}(hc:InB c):∀k:Nat,k<6→Pu T 267 [ceV c, .int .i64 (k:Nat)] h (ceV (rollC k c))
 |0,_=>rroll0 hp hf hr hc
 |1,_=>rroll1 hp hf hr hc
 |2,_=>rroll2 hp hf hr hc
 |3,_=>rroll3 hp hf hr hc
 |4,_=>rroll4 hp hf hr hc
 |5,_=>rroll5 hp hf hr hc
 |k+6,h=>by omega
set_option maxHeartbeats 8000000 in
theorem turned222(hp:primAS T)(hf:T 222=some f222)(hf2:T 267=some f267){h:Heap}(hr:Rdy h){c:Ce}(hc:InB c){t:Nat}(ht:t<24):Pu T 222 [ceV c, .int .i64 (t:Nat)] h (ceV (turnC t c)):=by
 refine .of hp hf hr rfl ?_
 have x0:Ext h ((h.push (.cells (cellsOf (ceV c)) true 1)).push (.cells [I.O,I.O,I.O] true 1)):=((Ext.refl h).push _).push _
 have ga:((h.push (.cells (cellsOf (ceV c)) true 1)).push (.cells [I.O,I.O,I.O] true 1)).get h.next=some (.cells (ceL c) true 1):=(z4 (Nat.lt_succ_self _)).trans (z3 h _)
 have gb:((h.push (.cells (cellsOf (ceV c)) true 1)).push (.cells [I.O,I.O,I.O] true 1)).get (h.next+1)=some (.cells [I.O,I.O,I.O] true 1):=z3 _ _
 have n0:((h.push (.cells (cellsOf (ceV c)) true 1)).push (.cells [I.O,I.O,I.O] true 1)).next=h.next+2:=rfl
 refine y4 ?_;refine yB ?_;refine wO_val (a_new) ?_;refine y3 ?_
 generalize((h.push (.cells (cellsOf (ceV c)) true 1)).push (.cells [I.O,I.O,I.O] true 1))=H at*
 have W:=x0.wf hr.wf
 have hL:=x0.log.trans hr.log
 have hk:t / 4<6:=by omega
 have m1:numOp .quo (.int .i64 (t:Nat)) (.int .i64 4)=some (.int .i64 ((t / 4:Nat):Int)):=m_quo4 (by omega)
 have m2:numOp .rem (.int .i64 (t:Nat)) (.int .i64 4)=some (.int .i64 ((t % 4:Nat):Int)):=m_rem4
 have C:=rrollK hp hf2 (h:={H with log:=[]}) (.of W) hc (t / 4) hk
 have hb:=hc.roll (t / 4)
 have ck:ltake 3 (ldrop 0 (ceL c))=ceL c:=rfl
 have ckl:Nat.beq (llen (ceL c)) 3=true:=rfl
 have hr4:t % 4<4:=by omega
 unfold turnC
 generalize hq:rollC (t / 4) c=d at*
 generalize t / 4=k at*
 generalize hrr:t % 4=r at*
 refine y4 ?_;refine yN ?_;refine yM ?_;refine wO_val (a_num (by exact rfl) (by exact rfl) (by with_reducible assumption)) ?_
 refine yC ?_
 refine FW.pu C ?_
 clear C
 refine yS ?_;refine y3 ?_;refine wE_seq ?_;refine y4 ?_;refine yM ?_;refine y3 ?_;refine wE_block ?_
 refine wE_loop (fun m e ds h'=>∃j:Nat,j≤r∧r-j=m∧e=[(1, .int .i64 (t:Nat)),(2, .pointer (some ⟨h.next,0,none⟩)),(4, .pointer (some ⟨h.next+1,0,none⟩)),(5, .int .i64 (j:Nat))]∧ds=[]∧Ext h h'∧h.next+2≤h'.next∧h'.get h.next=some (.cells (ceL (rotN j d)) true 1)∧h'.get (h.next+1)=some (.cells [I.O,I.O,I.O] true 1))
  ⟨0,Nat.zero_le _,rfl,rfl,rfl,⟨x0.next,(Heap.log_wr_new (by omega)).trans x0.log,fun b hb=>(z5 (by omega)).trans (x0.old b hb),fun w=>(x0.wf w).as (AS.wr h.next _ _ _)⟩,by show h.next+2≤H.next;omega,by rw[z6,ga];rfl,(z5 (by omega)).trans gb⟩ ?_
 rintro m e ds h' ⟨j,hj,rfl,rfl,rfl,x,hn,gc,gd⟩
 have hbj:=hb.rot j
 by_cases hlt:j<r
 ·have hro:rotN (j+1) d=rotC (rotN j d):=rfl
  generalize rotN j d=b at*
  obtain⟨bx,by',bz⟩:=b
  obtain⟨_,hy,_⟩:=hbj
  dsimp only at hy
  have my:=m_sub7 hy
  unfold rotC at hro
  dsimp only at hro
  have mlt:numOp .lss (.int .i64 (j:Nat)) (.int .i64 (r:Nat))=some (.bool true):=m_lssT (by omega)
  refine wE_seq ?_;refine y4 ?_;refine yM ?_;refine yM ?_;refine wO_val (a_num (by exact rfl) (by exact rfl) (by with_reducible assumption)) ?_;refine wO_val (a_num (by exact rfl) (by exact rfl) (by with_reducible assumption)) ?_;refine y3 ?_;refine yY ?_;refine wE_skip ?_;refine kS_n ?_;refine wE_seq ?_;refine wE_block ?_;refine wE_region ?_;refine yF ?_;refine yL ?_
  refine wO_val (a_num (by exact rfl) (by exact rfl) (by with_reducible assumption)) ?_;refine yF ?_;refine yL ?_;refine yF ?_;refine yL ?_;refine wO_val (a_build (by exact rfl)) ?_
  refine yS ?_;refine wO_nil ?_;refine y1 ?_;refine kB_n ?_;refine kS_n ?_;refine wE_region ?_;refine yM ?_;refine yinc ?_
  refine yM ?_;refine y3 ?_
  refine⟨r-(j+1),by omega,j+1,by omega,rfl,rfl,rfl,⟨x.next,(Heap.log_wr_new (by omega)).trans x.log,fun b hb=>(z5 (by omega)).trans (x.old b hb),fun w=>(x.wf w).as (AS.wr h.next _ _ _)⟩,hn,?_,(z5 (by omega)).trans gd⟩
  rw[z6,gc,hro];rfl
 ·obtain rfl:j=r:=by omega
  generalize rotN j d=b at*
  have ckb:ltake 3 (ldrop 0 (ceL b))=ceL b:=rfl
  have ckbl:Nat.beq (llen (ceL b)) 3=true:=rfl
  have mlt:numOp .lss (.int .i64 (j:Nat)) (.int .i64 (j:Nat))=some (.bool false):=m_lssF (by omega)
  refine wE_seq ?_;refine y4 ?_;refine yM ?_;refine yM ?_;refine wO_val (a_num (by exact rfl) (by exact rfl) (by with_reducible assumption)) ?_;refine wO_val (a_num (by exact rfl) (by exact rfl) (by with_reducible assumption)) ?_;refine y3 ?_;refine yX ?_;refine wE_exit ?_;refine kS_e ?_;refine kS_e ?_;refine kB_e ?_;refine kS_n ?_;refine y4 ?_;refine yN ?_
  refine yS ?_;refine y3 ?_;refine wE_ret ?_
  refine endP_ret ?_ (res_cells (own:=true) (s:=1) rfl ?_ ckb ckbl rfl) rfl
  ·rw[Heap.log_wr_new (by show h.next≤h.next+1;omega)];exact x.log.trans hr.log
  ·(simp(disch:=first|omega|(simp only[z1,z2];omega))only[z3,z4,z5,z6,z7,z1,z2,ga,gb,gd,gc];exact rfl)
end Go.A.Pk
end
section
set_option maxRecDepth 100000
namespace Go.A.Pk
variable {T:Nat→Option AFunc}
structure FnsTr2 (T:Nat→Option AFunc):Prop where
 cr:FnsCr T
 f137:T 137=some f137
 f139:T 139=some f139
 f221:T 221=some f221
 f222:T 222=some f222
 f223:T 223=some f223
 f224:T 224=some f224
 f267:T 267=some f267
theorem sv_tupN(s:List Nat)(n:Int):noRef (.tuple #[sv s, .int .i64 n])=true:=by
 have q:flat (sv s)=true:=us_scal s
 show flatL [sv s, .int .i64 n]=true
 simp only[flatL,q,cond_true];rfl
theorem take_snoc{α:Type}{l:List α}{j:Nat}{x:α}(h:l[j]? =some x):l.take (j+1)=l.take j++[x]:=by
 rw[List.take_add_one,h];rfl
set_option maxHeartbeats 8000000 in
theorem turned137(F:FnsTr2 T){h:Heap}(hr:Rdy h){s:List Nat}(hs:IsS s){t:Nat}(ht:t<24):Pu T 137 [sv s, .int .i64 (t:Nat)] h (.tuple #[sv (spunS s t), .int .i64 0]):=by
 have hp:=F.cr.hr.p
 refine .of hp F.f137 hr (sv_tupN _ 0) ?_
 have k8:=us_llen hs.len
 have k9:=us_take8 hs.len
 have x0:Ext h ((h.push (.cells (cellsOf (sv s)) true 1)).push (.cells (lrep 8 (.int .u64 0)) true 1)):=((Ext.refl h).push _).push _
 have g0:((h.push (.cells (cellsOf (sv s)) true 1)).push (.cells (lrep 8 (.int .u64 0)) true 1)).get h.next=some (.cells (us s) true 1):=by(simp(disch:=first|omega|(simp only[z1,z2];omega))only[z3,z4,z5,z6,z7,z1,z2];exact rfl)
 have g1:((h.push (.cells (cellsOf (sv s)) true 1)).push (.cells (lrep 8 (.int .u64 0)) true 1)).get (h.next+1)=some (.cells (lrep 8 (.int .u64 0)) true 1):=by(simp(disch:=first|omega|(simp only[z1,z2];omega)|(simp only[z1,z2];done)|fail)only[z8,z4,z5,z9,z7,z1,z2,g0];done)
 have n0:((h.push (.cells (cellsOf (sv s)) true 1)).push (.cells (lrep 8 (.int .u64 0)) true 1)).next=h.next+2:=rfl
 refine y4 ?_;refine yB ?_;refine wO_val (a_new) ?_;refine yM ?_;refine y3 ?_
 generalize((h.push (.cells (cellsOf (sv s)) true 1)).push (.cells (lrep 8 (.int .u64 0)) true 1))=H at*
 have W:=x0.wf hr.wf
 have hL:=x0.log.trans hr.log
 have m1:numOp .lss (.int .i64 (t:Nat)) (.int .i64 0)=some (.bool false):=m_lssF (by omega)
 have m2:numOp .gtr (.int .i64 (t:Nat)) (.int .i64 23)=some (.bool false):=m_gtrF (by omega)
 refine wE_seq ?_;refine y4 ?_;refine yM ?_;refine wO_val (a_num (by exact rfl) (by exact rfl) (by with_reducible assumption)) ?_;refine yM ?_;refine yO ?_;refine yM ?_;refine yO ?_
 refine wO_val (a_num (by exact rfl) (by exact rfl) (by with_reducible assumption)) ?_;refine yU ?_;refine y3 ?_;refine yX ?_;refine wE_skip ?_;refine kS_n ?_
 refine wE_cutP (E0:=[(1, .int .i64 (t:Nat)),(2, .pointer (some ⟨h.next,0,none⟩)),(4, .pointer (some ⟨h.next+1,0,none⟩)),(6, .pointer (some ⟨H.next,0,none⟩))]) (P:=fun h'=>Ext H h'∧h'.next=H.next+1∧h'.get H.next=some (.cells (us s0) true 1)) ?_ ?_
 ·refine wE_region ?_;refine wO_val (a_new) ?_;refine wO_nil ?_;refine y1 ?_
  exact⟨rfl,rfl,rfl,(Ext.refl H).push _,rfl,by(simp(disch:=first|omega|(simp only[z1,z2];omega))only[z3,z4,z5,z6,z7,z1,z2,g0,g1];exact rfl)⟩
 rintro H1 ⟨x1,n1,q1⟩
 have ey1':=x0.trans x1
 have W1:=ey1'.wf hr.wf
 have hL1:=x1.log.trans hL
 have ga:=(x1.old _ (by omega)).trans g0
 have gb:=(x1.old _ (by omega)).trans g1
 have C:=cells170 F.cr (h:={H1 with log:=[]}) (.of W1) hs
 have hin:∀c∈cellsTo s 512,inG c=true:=fun c hc=>cells_inG hc
 have hle:=cellsTo_le s 512
 unfold spunS mapS
 generalize cellsTo s 512=l at*
 clear g0 g1
 refine y4 ?_;refine wO_val (a_loadN (by exact rfl) (by assumption) (by assumption) (by assumption)) ?_
 refine yC ?_
 refine FW.al C (fun v h' m q=>q.log m) ?_
 rintro v H2 x2 q
 clear C
 have ey2':=ey1'.trans x2
 have hL2:=x2.log.trans hL1
 have n2:=x2.next
 have gb2:=(x2.old _ (by omega)).trans gb
 have q12:=(x2.old _ (by omega)).trans q1
 obtain⟨a,cc,rfl⟩:=(q.slice (by omega)).form
 clear ga gb q1
 refine yM ?_;refine y3 ?_;refine wE_seq ?_;refine y4 ?_;refine yM ?_;refine y3 ?_;refine wE_block ?_
 refine wE_loop (fun m e ds h'=>∃j:Nat,j≤l.length∧l.length-j=m∧e=[(1, .int .i64 (t:Nat)),(4, .pointer (some ⟨h.next+1,0,none⟩)),(6, .pointer (some ⟨H.next,0,none⟩)),(7, .slice a l.length cc),(8, .int .i64 (j:Nat))]∧ds=[]∧Ext h h'∧H1.next≤h'.next∧h'.get (h.next+1)=some (.cells (lrep 8 (.int .u64 0)) true 1)∧h'.get H.next=some (.cells (us (mapD (turnC t) (l.take j))) true 1)∧Own H1.next h' 3 (.slice a l.length cc) l.length (ceS l))
  ⟨0,Nat.zero_le _,rfl,rfl,rfl,ey2',n2,gb2,q12,q⟩ ?_
 rintro m e ds h' ⟨j,hj,rfl,rfl,rfl,x,hn,gc,gd,ow⟩
 have Wh:=x.wf hr.wf
 have hLh:=x.log.trans hr.log
 clear gb2 q12 q
 by_cases hlt:j<l.length
 ·obtain⟨c,hc⟩:∃c,l[j]? =some c:=⟨l[j]'hlt,List.getElem?_eq_getElem _⟩
  have hcl:=hin c (List.mem_of_getElem? hc)
  obtain⟨b,o,c2,vs,own,tt,hv,gl,hbl,el,_,_,_⟩:=CeQ.elem (ow.slice (by omega)) hc
  cases hv
  have hO:IsS (mapD (turnC t) (l.take j)):=mapD_ok fun d hd=>turn_in d (hin d (List.mem_of_mem_take hd))
  have hs1:mapD (turnC t) (l.take (j+1))=putC (mapD (turnC t) (l.take j)) (turnC t c):=by rw[take_snoc hc,mapD_snoc]
  generalize mapD (turnC t) (l.take j)=out at*
  have C1:=turned222 hp F.f222 F.f267 (h:={h' with log:=[]}) (.of Wh) (inB_iff.1 hcl) ht
  have hcl2:=turn_in (t:=t) c hcl
  generalize turnC t c=d at*
  have C2:=with221 hp F.f221 (h:={h' with log:=[]}) (.of Wh) hO hcl2
  have hO2:=hO.putC hcl2
  have k1:=us_take8 hO.len
  have k2:=us_llen hO.len
  have k3:=us_llen hO2.len
  have k4:=hO.len
  have k5:=hO2.len
  have mlt:numOp .lss (.int .i64 (j:Nat)) (.int .i64 (l.length:Nat))=some (.bool true):=m_lssT (by omega)
  refine wE_seq ?_;refine y4 ?_;refine yM ?_;refine yM ?_;refine yD ?_;refine wO_val (a_num (by exact rfl) (by exact rfl) (by with_reducible assumption)) ?_;refine y3 ?_
  refine yY ?_;refine wE_skip ?_;refine kS_n ?_;refine wE_seq ?_;refine wE_block ?_;refine wE_draw ?_;refine wD_quiet rfl rfl rfl (by exact rfl) (by exact rfl) (by exact rfl) (a_loadN (by exact rfl) (by assumption) (by assumption) (by assumption)) ?_;refine qM ?_
  refine qM ?_;refine wD_quiet rfl rfl rfl (by exact rfl) (by exact rfl) (by exact rfl) (a_iaddrS (by exact rfl) (by exact rfl) (by omega)) ?_;refine wD_quiet rfl rfl rfl (by exact rfl) (by exact rfl) (by exact rfl) (a_loadN (by exact rfl) (by assumption) (by assumption) (by exact rfl)) ?_
  refine qM ?_
  refine qC ?_
  refine FW.puD C1 (by apply ra_dropC rfl;apply ra_dropC rfl;apply ra_dropC rfl;apply ra_dropC rfl;apply ra_dropC rfl;apply ra_keepC rfl (rq_quiet rfl (a_loadN (by exact rfl) (by assumption) (by assumption) (by assumption)) (by exact sv_us _)) rfl;exact ra_nil) ?_
  clear C1
  skip
  refine qC ?_
  refine FW.puD C2 (by apply ra_dropC rfl;exact ra_nil) ?_
  clear C2
  refine wD_storeAll rfl rfl rfl (by exact rfl) (by exact rfl) (by exact rfl) (by assumption) (by(simp only[us_length];assumption)) (by(simp only[us_length];assumption)) (by exact us_ones _) (by omega) (by omega) (by exact ra_nil) ?_;refine wD_nil ?_;refine y1 ?_;refine kB_n ?_;refine kS_n ?_
  refine wE_region ?_;refine yM ?_;refine yinc ?_;refine yM ?_;refine y3 ?_
  refine⟨l.length-(j+1),by omega,j+1,by omega,rfl,rfl,rfl,⟨x.next,(Heap.log_wr_new (by omega)).trans x.log,fun b hb=>(z5 (by omega)).trans (x.old b hb),fun w=>(x.wf w).as (AS.wr h.next _ _ _)⟩,hn,(z5 (by omega)).trans gc,?_,ow.keep (Nat.le_refl _) fun z hz _=>z5 (by omega)⟩
  rw[hs1];(simp(disch:=first|omega|(simp only[z1,z2];omega))only[z3,z4,z5,z6,z7,z1,z2,gc,gl,gd];done)
 ·obtain rfl:j=l.length:=by omega
  rw[List.take_length]at gd
  have hO:IsS (mapD (turnC t) l):=mapD_ok fun d hd=>turn_in d (hin d hd)
  generalize mapD (turnC t) l=out at*
  have k1:=us_take8 hO.len
  have k2:=us_llen hO.len
  have k3:=hO.len
  have mlt:numOp .lss (.int .i64 (l.length:Nat)) (.int .i64 (l.length:Nat))=some (.bool false):=m_lssF (by omega)
  refine wE_seq ?_;refine y4 ?_;refine yM ?_;refine yM ?_;refine yD ?_;refine wO_val (a_num (by exact rfl) (by exact rfl) (by with_reducible assumption)) ?_;refine y3 ?_
  refine yX ?_;refine wE_exit ?_;refine kS_e ?_;refine kS_e ?_;refine kB_e ?_;refine kS_n ?_;refine y4 ?_;refine wO_val (a_loadN (by exact rfl) (by assumption) (by assumption) (by assumption)) ?_;refine wO_val (a_storeAll (by exact rfl) (by exact rfl) (by assumption) (by(simp only[us_length];assumption)) (by exact rfl) (by exact us_ones _)) ?_
  refine yM ?_;refine y3 ?_;refine wE_ret ?_
  refine endP_ret ?_ (res_cells (own:=true) (s:=1) rfl ?_ k1 k2 rfl) rfl
  ·rw[Heap.log_wr_new (by show h.next≤h.next+1;omega)];exact hLh
  ·(simp(disch:=first|omega|(simp only[z1,z2];omega))only[z3,z4,z5,z6,z7,z1,z2,gc,gd];done)
end Go.A.Pk
end
section
set_option maxRecDepth 100000
namespace Go.A.Pk
variable {T:Nat→Option AFunc}
def shC(x y z:Int)(c:Ce):Ce:=⟨c.x+x,c.y+y,c.z+z⟩
def Sh7(n:Int):Prop:= -7≤n∧n≤7
theorem short223(hp:primAS T)(hf:T 223=some f223){h:Heap}(hr:Rdy h){n:Int}(hn:Sh7 n):Pu T 223 [.int .i64 n] h (.bool true):=by
 refine .of hp hf hr rfl ?_
 have m1:numOp .geq (.int .i64 n) (.int .i64 (-7))=some (.bool true):=m_geqT hn.1
 have m2:numOp .leq (.int .i64 n) (.int .i64 7)=some (.bool true):=m_leqT hn.2
 refine y4 ?_;refine yM ?_;refine y3 ?_;refine y4 ?_;refine yM ?_;refine wO_val (a_num (by exact rfl) (by exact rfl) (by with_reducible assumption)) ?_
 refine yM ?_;refine yO ?_;refine yM ?_;refine yO ?_;refine wO_val (a_num (by exact rfl) (by exact rfl) (by with_reducible assumption)) ?_;refine yT ?_;refine yM ?_;refine y3 ?_;refine wE_ret ?_
 exact endP_ret hr.log rfl rfl
theorem moved224(hp:primAS T)(hf:T 224=some f224){h:Heap}(hr:Rdy h){c:Ce}(hc:InB c){x y z:Int}(hx:Sh7 x)(hy:Sh7 y)(hz:Sh7 z):Pu T 224 [ceV c, .int .i64 x, .int .i64 y, .int .i64 z] h (ceV (shC x y z c)):=by
 refine .of hp hf hr rfl ?_
 obtain⟨cx,cy,cz⟩:=c
 obtain⟨kx,ky,kz⟩:=hc
 obtain⟨hx1,hx2⟩:=hx
 obtain⟨hy1,hy2⟩:=hy
 obtain⟨hz1,hz2⟩:=hz
 dsimp only at kx ky kz
 have mx:=m_add (k:= .i64) (a:=cx) (b:=x) (wrapA_i64 (by omega) (by omega))
 have my:=m_add (k:= .i64) (a:=cy) (b:=y) (wrapA_i64 (by omega) (by omega))
 have mz:=m_add (k:= .i64) (a:=cz) (b:=z) (wrapA_i64 (by omega) (by omega))
 have ck:ltake 3 (ldrop 0 (ceL (shC x y z ⟨cx,cy,cz⟩)))=ceL (shC x y z ⟨cx,cy,cz⟩):=rfl
 refine y4 ?_;refine yB ?_;refine wO_val (a_new) ?_;refine y3 ?_;refine y4 ?_;refine yF ?_
 refine yL ?_;refine yM ?_
 refine wO_val (a_num (by exact rfl) (by exact rfl) (by with_reducible assumption)) ?_;refine yF ?_
 refine yL ?_;refine yM ?_
 refine wO_val (a_num (by exact rfl) (by exact rfl) (by with_reducible assumption)) ?_;refine yF ?_
 refine yL ?_;refine yM ?_
 refine wO_val (a_num (by exact rfl) (by exact rfl) (by with_reducible assumption)) ?_;refine wO_val (a_build (by exact rfl)) ?_
 refine yS ?_;refine y3 ?_;refine wE_ret ?_
 refine endP_ret ?_ (res_cells (own:=true) (s:=1) rfl ?_ ck rfl rfl) rfl
 ·rw[Heap.log_wr_new (by show h.next≤h.next+1;omega)];exact hr.log
 ·(simp(disch:=first|omega|(simp only[z1,z2];omega)|(simp only[z1,z2];done)|fail)only[z8,z4,z5,z9,z7,z1,z2];exact rfl)
set_option maxHeartbeats 8000000 in
theorem moved139(F:FnsTr2 T)(hg:T 225=some f225){h:Heap}(hr:Rdy h){s:List Nat}(hs:IsS s){x y z:Int}(hx:Sh7 x)(hy:Sh7 y)(hz:Sh7 z)(hall:∀c∈cellsTo s 512,inG (shC x y z c)=true):Pu T 139 [sv s, .int .i64 x, .int .i64 y, .int .i64 z] h (.tuple #[sv (mapS (shC x y z) s), .int .i64 0]):=by
 have hp:=F.cr.hr.p
 refine .of hp F.f139 hr (sv_tupN _ 0) ?_
 have k8:=us_llen hs.len
 have k9:=us_take8 hs.len
 have x0:Ext h ((h.push (.cells (cellsOf (sv s)) true 1)).push (.cells (lrep 8 (.int .u64 0)) true 1)):=((Ext.refl h).push _).push _
 have g0:((h.push (.cells (cellsOf (sv s)) true 1)).push (.cells (lrep 8 (.int .u64 0)) true 1)).get h.next=some (.cells (us s) true 1):=by(simp(disch:=first|omega|(simp only[z1,z2];omega))only[z3,z4,z5,z6,z7,z1,z2];exact rfl)
 have g1:((h.push (.cells (cellsOf (sv s)) true 1)).push (.cells (lrep 8 (.int .u64 0)) true 1)).get (h.next+1)=some (.cells (lrep 8 (.int .u64 0)) true 1):=by(simp(disch:=first|omega|(simp only[z1,z2];omega)|(simp only[z1,z2];done)|fail)only[z8,z4,z5,z9,z7,z1,z2,g0];done)
 have n0:((h.push (.cells (cellsOf (sv s)) true 1)).push (.cells (lrep 8 (.int .u64 0)) true 1)).next=h.next+2:=rfl
 refine y4 ?_;refine yB ?_;refine wO_val (a_new) ?_;refine yM ?_;refine y3 ?_
 generalize((h.push (.cells (cellsOf (sv s)) true 1)).push (.cells (lrep 8 (.int .u64 0)) true 1))=H at*
 have W:=x0.wf hr.wf
 have hL:=x0.log.trans hr.log
 have C:=cells170 F.cr (h:={H with log:=[]}) (.of W) hs
 have hin:∀c∈cellsTo s 512,inG c=true:=fun c hc=>cells_inG hc
 have hle:=cellsTo_le s 512
 unfold mapS
 generalize cellsTo s 512=l at*
 refine y4 ?_;refine wO_val (a_loadN (by exact rfl) (by assumption) (by assumption) (by assumption)) ?_
 refine yC ?_
 refine FW.al C (fun v h' m q=>q.log m) ?_
 rintro v H2 x2 q
 clear C
 have ey2':=x0.trans x2
 have W2:=ey2'.wf hr.wf
 have hL2:=x2.log.trans hL
 have n2:=x2.next
 have gb2:=(x2.old _ (by omega)).trans g1
 obtain⟨a,cc,rfl⟩:=(q.slice (by omega)).form
 have C1:=short223 hp F.f223 (h:={H2 with log:=[]}) (.of W2) hx
 have C2:=short223 hp F.f223 (h:={H2 with log:=[]}) (.of W2) hy
 have C3:=short223 hp F.f223 (h:={H2 with log:=[]}) (.of W2) hz
 clear g0 g1
 refine yM ?_;refine y3 ?_
 refine wE_cutP (E0:=[(1, .int .i64 x),(2, .int .i64 y),(3, .int .i64 z),(8, .pointer (some ⟨h.next+1,0,none⟩)),(10, .slice a l.length cc),(33, .bool false)]) (P:=fun h'=>H2=h') ?_ ?_
 ·by_cases hl:l.length=0
  ·have m1:numOp .gtr (.int .i64 (l.length:Nat)) (.int .i64 0)=some (.bool false):=m_gtrF (by omega)
   refine y4 ?_;refine yM ?_;refine yD ?_;refine wO_val (a_num (by exact rfl) (by exact rfl) (by with_reducible assumption)) ?_;refine yM ?_;refine yP ?_;refine yP ?_;refine yP ?_
   refine yP ?_;refine wO_off2 (by exact rfl) ?_;refine wO_off2 (by exact rfl) ?_;refine wO_off2 (by exact rfl) ?_;refine yP ?_;refine yP ?_;refine wO_off2 (by exact rfl) ?_;refine wO_off2 (by exact rfl) ?_;refine wO_off2 (by exact rfl) ?_;refine yP ?_
   refine yU ?_;refine y3 ?_;refine yX ?_;refine wE_skip ?_
   exact⟨rfl,rfl,rfl,rfl⟩
  ·have m1:numOp .gtr (.int .i64 (l.length:Nat)) (.int .i64 0)=some (.bool true):=m_gtrT (by omega)
   refine y4 ?_;refine yM ?_;refine yD ?_;refine wO_val (a_num (by exact rfl) (by exact rfl) (by with_reducible assumption)) ?_;refine yM ?_;refine yO ?_;refine yM ?_;refine yO ?_
   refine yC ?_
   refine FW.pu C1 ?_
   refine yO ?_;refine yA ?_;refine yO ?_;refine yM ?_;refine yO ?_;refine yM ?_;refine yO ?_
   refine yC ?_
   refine FW.pu C2 ?_
   refine yO ?_;refine yA ?_;refine yO ?_;refine yU ?_;refine yO ?_;refine yM ?_;refine yO ?_;refine yM ?_;refine yO ?_
   refine yC ?_
   refine FW.pu C3 ?_
   refine yO ?_;refine yA ?_;refine yO ?_;refine yU ?_;refine yT ?_;refine y3 ?_;refine yX ?_
   refine wE_skip ?_
   exact⟨rfl,rfl,rfl,rfl⟩
 rintro _ rfl
 clear C1 C2 C3
 have x3:Ext H2 (H2.push (.cells (lrep 8 (.int .u64 0)) true 1)):=(Ext.refl H2).push _
 have q3:(H2.push (.cells (lrep 8 (.int .u64 0)) true 1)).get H2.next=some (.cells (us s0) true 1):=z3 _ _
 have n3:(H2.push (.cells (lrep 8 (.int .u64 0)) true 1)).next=H2.next+1:=rfl
 refine y4 ?_;refine wO_val (a_new) ?_;refine y3 ?_
 generalize(H2.push (.cells (lrep 8 (.int .u64 0)) true 1))=H3 at*
 refine wE_seq ?_;refine y4 ?_;refine yM ?_;refine y3 ?_;refine wE_block ?_
 refine wE_loop (fun m e ds h'=>∃j:Nat,j≤l.length∧l.length-j=m∧e=[(1, .int .i64 x),(2, .int .i64 y),(3, .int .i64 z),(8, .pointer (some ⟨h.next+1,0,none⟩)),(10, .slice a l.length cc),(11, .pointer (some ⟨H2.next,0,none⟩)),(12, .int .i64 (j:Nat))]∧ds=[]∧Ext H2 h'∧H2.next<h'.next∧h'.get H2.next=some (.cells (us (mapD (shC x y z) (l.take j))) true 1))
  ⟨0,Nat.zero_le _,rfl,rfl,rfl,x3,by omega,q3⟩ ?_
 rintro m e ds h' ⟨j,hj,rfl,rfl,rfl,xx,hn,gd⟩
 have ey:=ey2'.trans xx
 have Wh:=ey.wf hr.wf
 have hLh:=ey.log.trans hr.log
 have gc:=(xx.old _ (by omega)).trans gb2
 clear q3 x3
 by_cases hlt:j<l.length
 ·obtain⟨c,hc⟩:∃c,l[j]? =some c:=⟨l[j]'hlt,List.getElem?_eq_getElem _⟩
  have hcm:=List.mem_of_getElem? hc
  have hcl:=hin c hcm
  have hcl2:=hall c hcm
  obtain⟨b,o,c2,vs,own,tt,hv,gl,hbl,el,_,_,_⟩:=CeQ.elem ((q.slice (by omega)).ext xx) hc
  cases hv
  have hO:IsS (mapD (shC x y z) (l.take j)):=mapD_ok fun d hd=>hall d (List.mem_of_mem_take hd)
  have hs1:mapD (shC x y z) (l.take (j+1))=putC (mapD (shC x y z) (l.take j)) (shC x y z c):=by rw[take_snoc hc,mapD_snoc]
  generalize mapD (shC x y z) (l.take j)=out at*
  have C1:=moved224 hp F.f224 (h:={h' with log:=[]}) (.of Wh) (inB_iff.1 hcl) hx hy hz
  generalize shC x y z c=d at*
  have k1:=us_take8 hO.len
  have k2:=us_llen hO.len
  have k4:=hO.len
  have mlt:numOp .lss (.int .i64 (j:Nat)) (.int .i64 (l.length:Nat))=some (.bool true):=m_lssT (by omega)
  refine wE_seq ?_;refine y4 ?_;refine yM ?_;refine yM ?_;refine yD ?_;refine wO_val (a_num (by exact rfl) (by exact rfl) (by with_reducible assumption)) ?_;refine y3 ?_
  refine yY ?_;refine wE_skip ?_;refine kS_n ?_;refine wE_seq ?_;refine wE_block ?_
  refine wE_cutP (E0:=[(1, .int .i64 x),(2, .int .i64 y),(3, .int .i64 z),(8, .pointer (some ⟨h.next+1,0,none⟩)),(10, .slice (some ⟨b,o,none⟩) l.length cc),(11, .pointer (some ⟨H2.next,0,none⟩)),(12, .int .i64 (j:Nat)),(13, .pointer (some ⟨h'.next,0,none⟩))]) (P:=fun h4=>Ext h' h4∧h4.next=h'.next+1∧h4.get h'.next=some (.cells (ceL d) true 1)) ?_ ?_
  ·refine wE_region ?_;refine yM ?_;refine yM ?_;refine wO_val (a_iaddrS (by exact rfl) (by exact rfl) (by omega)) ?_;refine wO_val (a_loadN (by exact rfl) (by assumption) (by assumption) (by exact rfl)) ?_;refine yM ?_;refine yM ?_;refine yM ?_
   refine yC ?_
   refine FW.pu C1 ?_
   clear C1
   refine wO_val (a_new) ?_;refine yS ?_;refine wO_nil ?_
   refine y1 ?_
   exact⟨rfl,rfl,rfl,ext_pw (by omega) _ _,rfl,get_pw _ _⟩
  rintro H4 ⟨x4,n4,g4⟩
  clear C1
  have W4:=x4.wf Wh
  have L4:=x4.log.trans hLh
  have gd4:=(x4.old _ (by omega)).trans gd
  have C2:=inGrid225 hp hg (h:={H4 with log:=[]}) (.of W4) d
  rw[hcl2]at C2
  have C3:=with221 hp F.f221 (h:={H4 with log:=[]}) (.of W4) hO hcl2
  have hO2:=hO.putC hcl2
  have k3:=us_llen hO2.len
  have k5:=hO2.len
  have ck:ltake 3 (ldrop 0 (ceL d))=ceL d:=rfl
  have ckl:Nat.beq (llen (ceL d)) 3=true:=rfl
  clear gd gl
  refine wE_seq ?_;refine y4 ?_;refine yN ?_
  refine yC ?_
  refine FW.pu C2 ?_
  clear C2
  refine yA ?_;refine y3 ?_;refine yX ?_;refine wE_skip ?_;refine kS_n ?_;refine wE_region ?_;refine wO_val (a_loadN (by exact rfl) (by assumption) (by assumption) (by assumption)) ?_
  refine yN ?_
  refine yC ?_
  refine FW.pu C3 ?_
  clear C3
  refine wO_val (a_storeAll (by exact rfl) (by exact rfl) (by assumption) (by(simp only[us_length];assumption)) (by(simp only[us_length];assumption)) (by exact us_ones _)) ?_;refine wO_nil ?_;refine y1 ?_;refine kB_n ?_;refine kS_n ?_;refine wE_region ?_;refine yM ?_
  refine yinc ?_;refine yM ?_;refine y3 ?_
  have xx4:=xx.trans x4
  refine⟨l.length-(j+1),by omega,j+1,by omega,rfl,rfl,rfl,⟨xx4.next,(Heap.log_wr_new (by omega)).trans xx4.log,fun b hb=>(z5 (by omega)).trans (xx4.old b hb),fun w=>(xx4.wf w).as (AS.wr h.next _ _ _)⟩,by show H2.next<H4.next;omega,?_⟩
  rw[hs1];(simp(disch:=first|omega|(simp only[z1,z2];omega))only[z3,z4,z5,z6,z7,z1,z2,gb2,gc,g4,gd4];done)
 ·obtain rfl:j=l.length:=by omega
  rw[List.take_length]at gd
  have hO:IsS (mapD (shC x y z) l):=mapD_ok fun d hd=>hall d hd
  generalize mapD (shC x y z) l=out at*
  have k1:=us_take8 hO.len
  have k2:=us_llen hO.len
  have k3:=hO.len
  have mlt:numOp .lss (.int .i64 (l.length:Nat)) (.int .i64 (l.length:Nat))=some (.bool false):=m_lssF (by omega)
  refine wE_seq ?_;refine y4 ?_;refine yM ?_;refine yM ?_;refine yD ?_;refine wO_val (a_num (by exact rfl) (by exact rfl) (by with_reducible assumption)) ?_;refine y3 ?_
  refine yX ?_;refine wE_exit ?_;refine kS_e ?_;refine kS_e ?_;refine kB_e ?_;refine kS_n ?_;refine y4 ?_;refine wO_val (a_loadN (by exact rfl) (by assumption) (by assumption) (by assumption)) ?_;refine wO_val (a_storeAll (by exact rfl) (by exact rfl) (by assumption) (by(simp only[us_length];assumption)) (by exact rfl) (by exact us_ones _)) ?_
  refine yM ?_;refine y3 ?_;refine wE_ret ?_
  refine endP_ret ?_ (res_cells (own:=true) (s:=1) rfl ?_ k1 k2 rfl) rfl
  ·rw[Heap.log_wr_new (by show h.next≤h.next+1;omega)];exact hLh
  ·(simp(disch:=first|omega|(simp only[z1,z2];omega))only[z3,z4,z5,z6,z7,z1,z2,gb2,gc,gd];done)
end Go.A.Pk
end
section
set_option maxRecDepth 100000
namespace Go.A.Pk
variable {T:Nat→Option AFunc}
theorem cells_nil{s:List Nat}(hs:IsS s)(h:cellsTo s 512=[]):s=s0:=by
 refine has_ext hs s0_ok fun z i hz hi=> ?_
 rw[sHas_s0]
 cases hc:sHas s (ceOf z i)with
 |false=>rfl
 |true=>
  have:ceOf z i∈cellsTo s 512:=List.mem_filter.2 ⟨List.mem_map.2 ⟨z*64+i,List.mem_range.2 (by omega),ceN_of hi⟩,hc⟩
  rw[h]at this;cases this
theorem cells_s0:cellsTo s0 512=[]:=by
 rw[cellsTo,List.filter_eq_nil_iff]
 intro c _
 rw[sHas_s0];simp
theorem bx_first{c:Ce}(hc:InB c):bxUp ⟨c,c⟩ c=bxUp bx0 c:=by
 obtain⟨cx,cy,cz⟩:=c
 obtain⟨hx,hy,hz⟩:=hc
 dsimp only at hx hy hz
 unfold bxUp bx0 mi mx
 dsimp only
 congr 1<;>congr 1<;>(repeat' split)<;>omega
theorem bxS_first{c:Ce}(hc:InB c)(l:List Ce):(c::l).foldl bxUp ⟨c,c⟩=bxS (c::l):=by
 unfold bxS
 rw[List.foldl_cons,List.foldl_cons,bx_first hc]
set_option maxHeartbeats 16000000 in
theorem bounds138(F:FnsTr2 T)(hf:T 138=some f138){h:Heap}(hr:Rdy h){s:List Nat}(hs:IsS s):Pu T 138 [sv s] h (bndV (bndS s)):=by
 have hp:=F.cr.hr.p
 refine .of hp hf hr rfl ?_
 have k8:=us_llen hs.len
 have k9:=us_take8 hs.len
 have x0:Ext h ((h.push (.cells (cellsOf (sv s)) true 1)).push (.cells [I.O,I.O,I.O,I.O,I.O,I.O] true 1)):=((Ext.refl h).push _).push _
 have g0:((h.push (.cells (cellsOf (sv s)) true 1)).push (.cells [I.O,I.O,I.O,I.O,I.O,I.O] true 1)).get h.next=some (.cells (us s) true 1):=(z4 (Nat.lt_succ_self _)).trans (z3 h _)
 have g1:((h.push (.cells (cellsOf (sv s)) true 1)).push (.cells [I.O,I.O,I.O,I.O,I.O,I.O] true 1)).get (h.next+1)=some (.cells [I.O,I.O,I.O,I.O,I.O,I.O] true 1):=z3 _ _
 have n0:((h.push (.cells (cellsOf (sv s)) true 1)).push (.cells [I.O,I.O,I.O,I.O,I.O,I.O] true 1)).next=h.next+2:=rfl
 refine y4 ?_;refine yB ?_;refine wO_val (a_new) ?_;refine yM ?_;refine y3 ?_
 generalize((h.push (.cells (cellsOf (sv s)) true 1)).push (.cells [I.O,I.O,I.O,I.O,I.O,I.O] true 1))=H at*
 have W:=x0.wf hr.wf
 have hL:=x0.log.trans hr.log
 have C:=cells170 F.cr (h:={H with log:=[]}) (.of W) hs
 have hin:∀c∈cellsTo s 512,inG c=true:=fun c hc=>cells_inG hc
 have hle:=cellsTo_le s 512
 have hnil:cellsTo s 512=[]↔s=s0:=⟨cells_nil hs,fun e=>by rw[e];exact cells_s0⟩
 have hbn:bndS s=if cellsTo s 512=[]then(⟨c0,c0⟩,false)else(bxS (cellsTo s 512),true):=by
  unfold bndS
  by_cases e:s=s0
  ·rw[if_pos e,if_pos (hnil.2 e)]
  ·rw[if_neg e,if_neg (fun q=>e (hnil.1 q))]
 rw[hbn]
 generalize cellsTo s 512=l at*
 refine y4 ?_;refine wO_val (a_loadN (by exact rfl) (by assumption) (by assumption) (by assumption)) ?_
 refine yC ?_
 refine FW.al C (fun v h' m q=>q.log m) ?_
 rintro v H2 x2 q
 clear C
 have ey2':=x0.trans x2
 have W2:=ey2'.wf hr.wf
 have hL2:=x2.log.trans hL
 have n2:=x2.next
 have gb2:=(x2.old _ (by omega)).trans g1
 clear g0 g1
 cases l with
 |nil=>
  obtain rfl:v= .slice none 0 0:=by
   cases q with
   |nil=>rfl
   |full a b c d e=>exact absurd rfl e
  rw[if_pos rfl]
  have ck0:ltake 6 (ldrop 0 (bxL ⟨c0,c0⟩))=bxL ⟨c0,c0⟩:=rfl
  refine yM ?_;refine y3 ?_;refine wE_seq ?_;refine y4 ?_;refine yM ?_;refine yD ?_;refine yt ?_
  refine y3 ?_;refine yY ?_;refine y4 ?_;refine wO_val (a_build (by exact rfl)) ?_;refine yS ?_;refine yM ?_
  refine y3 ?_;refine wE_ret ?_;refine kS_r ?_
  refine endP_ret ?_ (res_cells (own:=true) (s:=1) (l:=bxL ⟨c0,c0⟩) rfl ?_ ck0 rfl rfl) rfl
  ·rw[Heap.log_wr_new (by show h.next≤h.next+1;omega)];exact hL2
  ·(simp(disch:=first|omega|(simp only[z1,z2];omega))only[z3,z4,z5,z6,z7,z1,z2,gb2];exact rfl)
 |cons d r=>
  rw[if_neg (by simp)]
  have hd:=inB_iff.1 (hin d List.mem_cons_self)
  rw[←bxS_first hd r]
  have qs:=q.slice (by omega)
  obtain⟨b,o,cc,vs,own,tt,rfl,gl,hbl,el,_,_,_⟩:=CeQ.elem (i:=0) (x:=d) qs rfl
  clear q
  generalize hl:d::r=l at*
  have hl0:0<l.length:=by rw[←hl];simp
  clear hl
  have m0:numOp .eql (.int .i64 (l.length:Nat)) (.int .i64 0)=some (.bool false):=m_eqlF (by omega)
  have x5:=ext_pw (h:=H2) (base:=h.next) (by omega) (.cells [I.O,I.O,I.O,I.O,I.O,I.O] true 1) (.cells (bxL ⟨d,d⟩) true 1)
  have g5:=get_pw (h:=H2) (base:=h.next) [I.O,I.O,I.O,I.O,I.O,I.O] (bxL ⟨d,d⟩)
  have ckb:ltake 6 (ldrop 0 (bxL ⟨d,d⟩))=bxL ⟨d,d⟩:=rfl
  refine yM ?_;refine y3 ?_;refine wE_seq ?_;refine y4 ?_;refine yM ?_;refine yD ?_;refine wO_val (a_num (by exact rfl) (by exact rfl) (by with_reducible assumption)) ?_
  refine y3 ?_;refine yX ?_;refine wE_skip ?_;refine kS_n ?_
  refine wE_cutP (E0:=[(2, .pointer (some ⟨h.next+1,0,none⟩)),(4, .slice (some ⟨b,o,none⟩) l.length cc),(5, .pointer (some ⟨H2.next,0,none⟩))]) (P:=fun h'=>Ext H2 h'∧H2.next<h'.next∧h'.get H2.next=some (.cells (bxL ⟨d,d⟩) true 1)) ?_ ?_
  ·refine wE_draw ?_;refine qM ?_;refine wD_quiet rfl rfl rfl (by exact rfl) (by exact rfl) (by exact rfl) (a_iaddrS (by exact rfl) (by exact rfl) (by omega)) ?_;refine wD_quiet rfl rfl rfl (by exact rfl) (by exact rfl) (by exact rfl) (a_loadN (by exact rfl) (by assumption) (by assumption) (by exact rfl)) ?_
   refine qM ?_;refine wD_quiet rfl rfl rfl (by exact rfl) (by exact rfl) (by exact rfl) (a_iaddrS (by exact rfl) (by exact rfl) (by omega)) ?_;refine wD_quiet rfl rfl rfl (by exact rfl) (by exact rfl) (by exact rfl) (a_loadN (by exact rfl) (by assumption) (by assumption) (by exact rfl)) ?_
   refine wD_quiet rfl rfl rfl (by exact rfl) (by exact rfl) (by exact rfl) (a_build (by exact rfl)) ?_
   refine wD_new rfl rfl rfl (by exact rfl) (by exact rfl) (by exact rfl) a_new (by refine rs_cons (rq_quiet rfl (a_build (by exact rfl)) (by refine sv_agg ?_;refine sl_cons (s1_int _ _) ?_;refine sl_cons (s1_int _ _) ?_;refine sl_cons (s1_int _ _) ?_;refine sl_cons (s1_int _ _) ?_;refine sl_cons (s1_int _ _) ?_;refine sl_cons (s1_int _ _) ?_;exact sl_nil)) ?_;refine rs_cons (rq_quiet rfl (a_loadN (by exact rfl) (by(simp(disch:=first|omega|(simp only[z1,z2];omega))only[z3,z4,z5,z6,z7,z1,z2,gb2,gl,g5];exact rfl)) (by assumption) (by exact rfl)) (by refine sv_agg ?_;refine sl_cons (s1_int _ _) ?_;refine sl_cons (s1_int _ _) ?_;refine sl_cons (s1_int _ _) ?_;exact sl_nil)) ?_;refine rs_cons (rq_quiet rfl (a_iaddrS (by exact rfl) (by exact rfl) (by omega)) (by exact sv_ptr _)) ?_;refine rs_cons (rq_quiet rfl (a_mov (by exact rfl)) (by exact sv_slice _ _ _)) ?_;refine rs_cons (rq_quiet rfl (a_loadN (by exact rfl) (by(simp(disch:=first|omega|(simp only[z1,z2];omega))only[z3,z4,z5,z6,z7,z1,z2,gb2,gl,g5];exact rfl)) (by assumption) (by exact rfl)) (by refine sv_agg ?_;refine sl_cons (s1_int _ _) ?_;refine sl_cons (s1_int _ _) ?_;refine sl_cons (s1_int _ _) ?_;exact sl_nil)) ?_;refine rs_cons (rq_quiet rfl (a_iaddrS (by exact rfl) (by exact rfl) (by omega)) (by exact sv_ptr _)) ?_;refine rs_cons (rq_quiet rfl (a_mov (by exact rfl)) (by exact sv_slice _ _ _)) ?_;exact rs_nil) ?_
   refine wD_store rfl rfl rfl (by exact rfl) (by exact rfl) (by exact rfl) (by(simp(disch:=first|omega|(simp only[z1,z2];omega))only[z3,z4,z5,z6,z7,z1,z2,gb2,gl,g5];exact rfl)) (by exact rfl) (by exact rfl) (by(simp only[z1,z2];omega)) (by omega) (by apply ra_dropC rfl;apply ra_dropC rfl;apply ra_dropC rfl;apply ra_dropC rfl;apply ra_dropC rfl;apply ra_dropC rfl;apply ra_dropC rfl;apply ra_dropC rfl;exact ra_nil) ?_
   refine wD_nil ?_;refine y1 ?_
   exact⟨rfl,rfl,rfl,x5,Nat.lt_succ_self _,g5⟩
  clear x5 g5
  rintro H5 ⟨x5,n5,g5⟩
  clear gl el
  refine wE_seq ?_;refine y4 ?_;refine yM ?_;refine y3 ?_;refine wE_block ?_
  refine wE_loop (fun m e ds h'=>∃j:Nat,j≤l.length∧l.length-j=m∧e=[(2, .pointer (some ⟨h.next+1,0,none⟩)),(4, .slice (some ⟨b,o,none⟩) l.length cc),(5, .pointer (some ⟨H2.next,0,none⟩)),(6, .int .i64 (j:Nat))]∧ds=[]∧Ext H2 h'∧H2.next<h'.next∧h'.get H2.next=some (.cells (bxL ((l.take j).foldl bxUp ⟨d,d⟩)) true 1))
   ⟨0,Nat.zero_le _,rfl,rfl,rfl,x5,n5,g5⟩ ?_
  rintro m e ds h' ⟨j,hj,rfl,rfl,rfl,xx,hn,gd⟩
  have ey:=ey2'.trans xx
  have Wh:=ey.wf hr.wf
  have hLh:=ey.log.trans hr.log
  have gc:=(xx.old _ (by omega)).trans gb2
  clear g5 x5 n5
  by_cases hlt:j<l.length
  ·obtain⟨c,hc⟩:∃c,l[j]? =some c:=⟨l[j]'hlt,List.getElem?_eq_getElem _⟩
   obtain⟨b',o',c2,vs',own',tt',hv,gl,_,el,e1,e2,e3⟩:=CeQ.elem (qs.ext xx) hc
   cases hv
   have hs1:(l.take (j+1)).foldl bxUp ⟨d,d⟩=bxUp ((l.take j).foldl bxUp ⟨d,d⟩) c:=by rw[take_snoc hc,List.foldl_append];rfl
   generalize(l.take j).foldl bxUp ⟨d,d⟩=bb at*
   have mlt:numOp .lss (.int .i64 (j:Nat)) (.int .i64 (l.length:Nat))=some (.bool true):=m_lssT (by omega)
   have hbq:b<H2.next:=hbl
   obtain⟨⟨x1,ey1,z1q⟩,⟨x2q,eyy2,z2q⟩⟩:=bb
   obtain⟨cx,cy,cz⟩:=c
   dsimp only at e1 e2 e3
   unfold bxL ceL at gd
   dsimp only[List.cons_append,List.nil_append]at gd
   clear gc
   refine wE_seq ?_;refine y4 ?_;refine yM ?_;refine yM ?_;refine yD ?_;refine wO_val (a_num (by exact rfl) (by exact rfl) (by with_reducible assumption)) ?_;refine y3 ?_
   refine yY ?_;refine wE_skip ?_;refine kS_n ?_;refine wE_seq ?_;refine wE_block ?_;refine wE_seq ?_;refine wE_draw ?_;refine qF ?_;refine qF ?_
   refine qL ?_;refine qM ?_;refine qM ?_
   refine wD_quiet rfl rfl rfl (by exact rfl) (by exact rfl) (by exact rfl) (a_iaddrS (by exact rfl) (by exact rfl) (by omega)) ?_;refine qF ?_;refine wD_quiet rfl rfl rfl (by exact rfl) (by exact rfl) (by exact rfl) (a_load (by exact rfl) (by assumption) (by assumption)) ?_
   refine wD_quiet rfl rfl rfl (by exact rfl) (by exact rfl) (by exact rfl) (a_minI (by exact rfl) (by exact rfl)) ?_;refine qF ?_;refine qF ?_
   refine wD_store rfl rfl rfl (by exact rfl) (by exact rfl) (by exact rfl) (by assumption) (by exact rfl) (by exact rfl) (by omega) (by omega) (by apply ra_dropC rfl;apply ra_dropC rfl;apply ra_dropC rfl;apply ra_dropC rfl;apply ra_dropC rfl;apply ra_dropC rfl;apply ra_dropC rfl;apply ra_dropC rfl;apply ra_dropC rfl;apply ra_dropC rfl;apply ra_dropC rfl;exact ra_nil) ?_;refine wD_nil ?_
   refine y1 ?_;refine kS_n ?_;refine wE_seq ?_;refine wE_draw ?_;refine qF ?_;refine qF ?_
   refine qL ?_
   refine qM ?_;refine qM ?_;refine wD_quiet rfl rfl rfl (by exact rfl) (by exact rfl) (by exact rfl) (a_iaddrS (by exact rfl) (by exact rfl) (by omega)) ?_
   refine qF ?_
   refine wD_quiet rfl rfl rfl (by exact rfl) (by exact rfl) (by exact rfl) (a_load (by exact rfl) (by(simp(disch:=first|omega|(simp only[z1,z2];omega))only[z3,z4,z5,z6,z7,z1,z2,gb2,gl,gd];exact rfl)) (by assumption)) ?_
   refine wD_quiet rfl rfl rfl (by exact rfl) (by exact rfl) (by exact rfl) (a_minI (by exact rfl) (by exact rfl)) ?_;refine qF ?_;refine qF ?_
   refine wD_store rfl rfl rfl (by exact rfl) (by exact rfl) (by exact rfl) (by(simp(disch:=first|omega|(simp only[z1,z2];omega))only[z3,z4,z5,z6,z7,z1,z2,gb2,gl,gd];exact rfl)) (by exact rfl) (by exact rfl) (by(simp only[z1,z2];omega)) (by omega) (by apply ra_dropC rfl;apply ra_dropC rfl;apply ra_dropC rfl;apply ra_dropC rfl;apply ra_dropC rfl;apply ra_dropC rfl;apply ra_dropC rfl;apply ra_dropC rfl;apply ra_dropC rfl;apply ra_dropC rfl;apply ra_dropC rfl;exact ra_nil) ?_
   refine wD_nil ?_;refine y1 ?_;refine kS_n ?_;refine wE_seq ?_;refine wE_draw ?_;refine qF ?_;refine qF ?_
   refine qL ?_
   refine qM ?_;refine qM ?_;refine wD_quiet rfl rfl rfl (by exact rfl) (by exact rfl) (by exact rfl) (a_iaddrS (by exact rfl) (by exact rfl) (by omega)) ?_
   refine qF ?_
   refine wD_quiet rfl rfl rfl (by exact rfl) (by exact rfl) (by exact rfl) (a_load (by exact rfl) (by(simp(disch:=first|omega|(simp only[z1,z2];omega))only[z3,z4,z5,z6,z7,z1,z2,gb2,gl,gd];exact rfl)) (by assumption)) ?_
   refine wD_quiet rfl rfl rfl (by exact rfl) (by exact rfl) (by exact rfl) (a_minI (by exact rfl) (by exact rfl)) ?_;refine qF ?_;refine qF ?_
   refine wD_store rfl rfl rfl (by exact rfl) (by exact rfl) (by exact rfl) (by(simp(disch:=first|omega|(simp only[z1,z2];omega))only[z3,z4,z5,z6,z7,z1,z2,gb2,gl,gd];exact rfl)) (by exact rfl) (by exact rfl) (by(simp only[z1,z2];omega)) (by omega) (by apply ra_dropC rfl;apply ra_dropC rfl;apply ra_dropC rfl;apply ra_dropC rfl;apply ra_dropC rfl;apply ra_dropC rfl;apply ra_dropC rfl;apply ra_dropC rfl;apply ra_dropC rfl;apply ra_dropC rfl;apply ra_dropC rfl;exact ra_nil) ?_
   refine wD_nil ?_;refine y1 ?_;refine kS_n ?_;refine wE_seq ?_;refine wE_draw ?_;refine qF ?_;refine qF ?_
   refine qL ?_
   refine qM ?_;refine qM ?_;refine wD_quiet rfl rfl rfl (by exact rfl) (by exact rfl) (by exact rfl) (a_iaddrS (by exact rfl) (by exact rfl) (by omega)) ?_
   refine qF ?_
   refine wD_quiet rfl rfl rfl (by exact rfl) (by exact rfl) (by exact rfl) (a_load (by exact rfl) (by(simp(disch:=first|omega|(simp only[z1,z2];omega))only[z3,z4,z5,z6,z7,z1,z2,gb2,gl,gd];exact rfl)) (by assumption)) ?_
   refine wD_quiet rfl rfl rfl (by exact rfl) (by exact rfl) (by exact rfl) (a_max (by exact rfl) (by exact rfl)) ?_;refine qF ?_;refine qF ?_
   refine wD_store rfl rfl rfl (by exact rfl) (by exact rfl) (by exact rfl) (by(simp(disch:=first|omega|(simp only[z1,z2];omega))only[z3,z4,z5,z6,z7,z1,z2,gb2,gl,gd];exact rfl)) (by exact rfl) (by exact rfl) (by(simp only[z1,z2];omega)) (by omega) (by apply ra_dropC rfl;apply ra_dropC rfl;apply ra_dropC rfl;apply ra_dropC rfl;apply ra_dropC rfl;apply ra_dropC rfl;apply ra_dropC rfl;apply ra_dropC rfl;apply ra_dropC rfl;apply ra_dropC rfl;apply ra_dropC rfl;exact ra_nil) ?_
   refine wD_nil ?_;refine y1 ?_;refine kS_n ?_;refine wE_seq ?_;refine wE_draw ?_;refine qF ?_;refine qF ?_
   refine qL ?_
   refine qM ?_;refine qM ?_;refine wD_quiet rfl rfl rfl (by exact rfl) (by exact rfl) (by exact rfl) (a_iaddrS (by exact rfl) (by exact rfl) (by omega)) ?_
   refine qF ?_
   refine wD_quiet rfl rfl rfl (by exact rfl) (by exact rfl) (by exact rfl) (a_load (by exact rfl) (by(simp(disch:=first|omega|(simp only[z1,z2];omega))only[z3,z4,z5,z6,z7,z1,z2,gb2,gl,gd];exact rfl)) (by assumption)) ?_
   refine wD_quiet rfl rfl rfl (by exact rfl) (by exact rfl) (by exact rfl) (a_max (by exact rfl) (by exact rfl)) ?_;refine qF ?_;refine qF ?_
   refine wD_store rfl rfl rfl (by exact rfl) (by exact rfl) (by exact rfl) (by(simp(disch:=first|omega|(simp only[z1,z2];omega))only[z3,z4,z5,z6,z7,z1,z2,gb2,gl,gd];exact rfl)) (by exact rfl) (by exact rfl) (by(simp only[z1,z2];omega)) (by omega) (by apply ra_dropC rfl;apply ra_dropC rfl;apply ra_dropC rfl;apply ra_dropC rfl;apply ra_dropC rfl;apply ra_dropC rfl;apply ra_dropC rfl;apply ra_dropC rfl;apply ra_dropC rfl;apply ra_dropC rfl;apply ra_dropC rfl;exact ra_nil) ?_
   refine wD_nil ?_;refine y1 ?_;refine kS_n ?_;refine wE_draw ?_;refine qF ?_;refine qF ?_
   refine qL ?_
   refine qM ?_;refine qM ?_;refine wD_quiet rfl rfl rfl (by exact rfl) (by exact rfl) (by exact rfl) (a_iaddrS (by exact rfl) (by exact rfl) (by omega)) ?_
   refine qF ?_
   refine wD_quiet rfl rfl rfl (by exact rfl) (by exact rfl) (by exact rfl) (a_load (by exact rfl) (by(simp(disch:=first|omega|(simp only[z1,z2];omega))only[z3,z4,z5,z6,z7,z1,z2,gb2,gl,gd];exact rfl)) (by assumption)) ?_
   refine wD_quiet rfl rfl rfl (by exact rfl) (by exact rfl) (by exact rfl) (a_max (by exact rfl) (by exact rfl)) ?_;refine qF ?_;refine qF ?_
   refine wD_store rfl rfl rfl (by exact rfl) (by exact rfl) (by exact rfl) (by(simp(disch:=first|omega|(simp only[z1,z2];omega))only[z3,z4,z5,z6,z7,z1,z2,gb2,gl,gd];exact rfl)) (by exact rfl) (by exact rfl) (by(simp only[z1,z2];omega)) (by omega) (by apply ra_dropC rfl;apply ra_dropC rfl;apply ra_dropC rfl;apply ra_dropC rfl;apply ra_dropC rfl;apply ra_dropC rfl;apply ra_dropC rfl;apply ra_dropC rfl;apply ra_dropC rfl;apply ra_dropC rfl;apply ra_dropC rfl;exact ra_nil) ?_
   refine wD_nil ?_;refine y1 ?_;refine kB_n ?_;refine kS_n ?_;refine wE_region ?_;refine yM ?_;refine yinc ?_;refine yM ?_;refine y3 ?_
   refine⟨l.length-(j+1),by omega,j+1,by omega,rfl,rfl,rfl,⟨xx.next,?_,fun z hz=> ?_,fun w=> ?_⟩,hn,?_⟩
   ·rw[Heap.log_wr_new (by omega),Heap.log_wr_new (by omega),Heap.log_wr_new (by omega),Heap.log_wr_new (by omega),Heap.log_wr_new (by omega),Heap.log_wr_new (by omega)];exact xx.log
   ·simp only[z5 (show z≠H2.next by omega)];exact xx.old z hz
   ·exact((((((xx.wf w).as (AS.wr h.next _ _ _)).as (AS.wr h.next _ _ _)).as (AS.wr h.next _ _ _)).as (AS.wr h.next _ _ _)).as (AS.wr h.next _ _ _)).as (AS.wr h.next _ _ _)
   ·rw[hs1];exact(Heap.get_wr_new (Heap.get_wr_new (Heap.get_wr_new (Heap.get_wr_new (Heap.get_wr_new (Heap.get_wr_new (gd))))))).trans rfl
  ·obtain rfl:j=l.length:=by omega
   rw[List.take_length]at gd
   generalize l.foldl bxUp ⟨d,d⟩=bb at*
   have ck:ltake 6 (ldrop 0 (bxL bb))=bxL bb:=rfl
   have ckl:Nat.beq (llen (bxL bb)) 6=true:=rfl
   have mlt:numOp .lss (.int .i64 (l.length:Nat)) (.int .i64 (l.length:Nat))=some (.bool false):=m_lssF (by omega)
   refine wE_seq ?_;refine y4 ?_;refine yM ?_;refine yM ?_;refine yD ?_;refine wO_val (a_num (by exact rfl) (by exact rfl) (by with_reducible assumption)) ?_;refine y3 ?_
   refine yX ?_;refine wE_exit ?_;refine kS_e ?_;refine kS_e ?_;refine kB_e ?_;refine kS_n ?_;refine y4 ?_;refine yN ?_;refine yS ?_;refine yM ?_
   refine y3 ?_;refine wE_ret ?_
   refine endP_ret ?_ (res_cells (own:=true) (s:=1) (l:=bxL bb) rfl ?_ ck ckl rfl) rfl
   ·rw[Heap.log_wr_new (by show h.next≤h.next+1;omega)];exact hLh
   ·(simp(disch:=first|omega|(simp only[z1,z2];omega))only[z3,z4,z5,z6,z7,z1,z2,gb2,gc,gd];exact rfl)
end Go.A.Pk
end
section
set_option maxRecDepth 100000
namespace Go.A.Pk
theorem ceOf_inj{z i z' i':Nat}(h:ceOf z i=ceOf z' i'):z=z'∧i=i':=by
 unfold ceOf at h
 injection h with h1 h2 h3
 omega
theorem put_has{o:List Nat}(ho:IsS o){d:Ce}(hd:inG d=true)(c:Ce):sHas (putC o d) c=(sHas o c||decide (c=d)):=by
 by_cases hc:inG c=true
 ·obtain⟨z,i,hz,hi,rfl⟩:=inG_form hc
  obtain⟨m,j,hm,hj,rfl⟩:=inG_form hd
  rw[sHas_of hz hi,sHas_of hz hi,putC_of o hj]
  by_cases e:m=z
  ·subst e
   have e1:(o.set m (Nat.lor (o.getD m 0) (2 ^ j))).getD m 0=Nat.lor (o.getD m 0) (2 ^ j):=by
    rw[List.getD_eq_getElem?_getD,List.getElem?_set_self (by rw[ho.len];exact hm)];rfl
   rw[e1]
   show Nat.testBit (o.getD m 0|||2 ^ j) i=_
   rw[Nat.testBit_or,Nat.testBit_two_pow]
   congr 1
   by_cases e2:j=i
   ·subst e2;simp
   ·rw[decide_eq_false e2,decide_eq_false (fun q=>e2 (ceOf_inj q).2.symm)]
  ·have e1:(o.set m (Nat.lor (o.getD m 0) (2 ^ j))).getD z 0=o.getD z 0:=by
    rw[List.getD_eq_getElem?_getD,List.getElem?_set_ne e,←List.getD_eq_getElem?_getD]
   rw[e1,decide_eq_false (fun q=>e (ceOf_inj q).1.symm),Bool.or_false]
 ·rw[sHas_out hc,sHas_out hc,decide_eq_false (fun(q:c=d)=>hc (by rw[q];exact hd))];rfl
theorem mapD_has{f:Ce→Ce}(c:Ce):∀{l:List Ce},(∀x∈l,inG (f x)=true)→(sHas (mapD f l) c=true↔ ∃x∈l,f x=c):=by
 intro l
 have:∀(l:List Ce) (o:List Nat),IsS o→(∀x∈l,inG (f x)=true)→(sHas (l.foldl (fun o c=>putC o (f c)) o) c=true↔sHas o c=true∨∃x∈l,f x=c):=by
  intro l
  induction l with
  |nil=>intro o _ _;simp
  |cons d l ih=>
   intro o ho hl
   rw[List.foldl_cons,ih _ (ho.putC (hl d List.mem_cons_self)) fun x hx=>hl x (List.mem_cons_of_mem _ hx),put_has ho (hl d List.mem_cons_self),Bool.or_eq_true,decide_eq_true_eq]
   constructor
   ·rintro((h|h)|⟨x,hx,h⟩)
    ·exact .inl h
    ·exact .inr ⟨d,List.mem_cons_self,h.symm⟩
    ·exact .inr ⟨x,List.mem_cons_of_mem _ hx,h⟩
   ·rintro(h|⟨x,hx,h⟩)
    ·exact .inl (.inl h)
    ·rcases List.mem_cons.1 hx with rfl|hx
     ·exact .inl (.inr h.symm)
     ·exact .inr ⟨x,hx,h⟩
 intro hl
 have e:=this l s0 s0_ok hl
 rw[sHas_s0]at e
 simpa[mapD]using e
theorem mem_cellI{s:List Nat}{c:Ce}:c∈cellsTo s 512↔sHas s c=true:=by
 constructor
 ·intro h;exact(List.mem_filter.1 h).2
 ·intro h
  have hc:inG c=true:=by
   cases hq:inG c with
   |true=>rfl
   |false=>rw[sHas_out (by rw[hq];simp)]at h;cases h
  obtain⟨z,i,hz,hi,rfl⟩:=inG_form hc
  exact List.mem_filter.2 ⟨ceOf_mem hz hi,h⟩
theorem mapS_has{f:Ce→Ce}{s:List Nat}(h:∀x∈cellsTo s 512,inG (f x)=true)(c:Ce):sHas (mapS f s) c=true↔ ∃x,sHas s x=true∧f x=c:=by
 unfold mapS
 rw[mapD_has c h]
 constructor
 ·rintro⟨x,hx,e⟩;exact⟨x,mem_cellI.1 hx,e⟩
 ·rintro⟨x,hx,e⟩;exact⟨x,mem_cellI.2 hx,e⟩
theorem shP_bit{p:Nat}{k:Int}{i:Nat}(hi:i<64):Nat.testBit (shP p k) i=(decide (0≤(i:Int)-k)&&Nat.testBit p ((i:Int)-k).toNat):=by
 unfold shP
 split
 ·rename_i h
  show Nat.testBit ((p<<<k.toNat) % 2 ^ 64) i=_
  rw[Nat.testBit_mod_two_pow,decide_eq_true hi,Bool.true_and,Nat.testBit_shiftLeft]
  by_cases hk:k.toNat≤i
  ·rw[decide_eq_true (show i≥k.toNat from hk),decide_eq_true (show 0≤(i:Int)-k by omega),show((i:Int)-k).toNat=i-k.toNat by omega]
  ·rw[decide_eq_false (show¬i≥k.toNat from hk),decide_eq_false (show¬0≤(i:Int)-k by omega)];rfl
 ·rename_i h
  show Nat.testBit (p>>>(-k).toNat) i=_
  rw[Nat.testBit_shiftRight,decide_eq_true (show 0≤(i:Int)-k by omega),show((i:Int)-k).toNat=(-k).toNat+i by omega];rfl
theorem liftN_getD{s:List Nat}(hs:IsS s){a:Nat}{z k:Int}:∀{n:Nat},0≤(a:Int)+z→(a:Int)+z+(n:Nat)≤8→∀m:Nat,m<8→
 (liftN s a z k n).getD m 0=if(a:Int)+z≤(m:Int)∧(m:Int)<(a:Int)+z+(n:Nat)then shP (s.getD ((m:Int)-z).toNat 0) k else 0
 |0,_,_,m,hm=>by
  rw[if_neg (by omega)]
  have:∀z:Fin 8,s0.getD z.val 0=0:=by decide
  exact this ⟨m,hm⟩
 |n+1,h1,h2,m,hm=>by
  have ih:=liftN_getD (k:=k) hs (n:=n) h1 (by omega) m hm
  unfold liftN
  by_cases e:(((a+n:Nat):Int)+z).toNat=m
  ·rw[List.getD_eq_getElem?_getD,e,List.getElem?_set_self (by rw[(liftN_ok hs a z k n).len];exact hm),if_pos (by omega)]
   show shP (s.getD (a+n) 0) k=_
   rw[show((m:Int)-z).toNat=a+n by omega]
  ·rw[List.getD_eq_getElem?_getD,List.getElem?_set_ne e,←List.getD_eq_getElem?_getD,ih]
   by_cases q:(a:Int)+z≤(m:Int)∧(m:Int)<(a:Int)+z+(n:Nat)
   ·rw[if_pos q,if_pos (by omega)]
   ·rw[if_neg q,if_neg (by omega)]
theorem big_bit{x i:Nat}(hx:x<U64)(h:x.testBit i=true):i<64:=by
 rcases Nat.lt_or_ge i 64 with hi|hi
 ·exact hi
 ·rw[Nat.testBit_lt_two_pow (Nat.lt_of_lt_of_le hx (show 2 ^ 64≤2 ^ i from Nat.pow_le_pow_right (by omega) hi))]at h;cases h
theorem box_has{s:List Nat}{c:Ce}(h:sHas s c=true):((bndS s).1.lo.x≤c.x∧c.x≤(bndS s).1.hi.x)∧((bndS s).1.lo.y≤c.y∧c.y≤(bndS s).1.hi.y)∧((bndS s).1.lo.z≤c.z∧c.z≤(bndS s).1.hi.z):=by
 have hc:=mem_cellI.2 h
 have h0:¬s=s0:=fun q=>by rw[q,sHas_s0]at h;cases h
 have e:(bndS s).1=bxS (cellsTo s 512):=by unfold bndS;rw[if_neg h0]
 rw[e,bxS_eq]
 exact⟨⟨(mlo_le (·.x) _ 7).2 c hc,(mhi_ge (·.x) _ 0).2 c hc⟩,⟨(mlo_le (·.y) _ 7).2 c hc,(mhi_ge (·.y) _ 0).2 c hc⟩,⟨(mlo_le (·.z) _ 7).2 c hc,(mhi_ge (·.z) _ 0).2 c hc⟩⟩
theorem box_ge{s:List Nat}(h0:¬s=s0){x y z:Int}(hx:x≤7)(hy:y≤7)(hz:z≤7)(h:∀c,sHas s c=true→x≤c.x∧y≤c.y∧z≤c.z):x≤(bndS s).1.lo.x∧y≤(bndS s).1.lo.y∧z≤(bndS s).1.lo.z:=by
 have e:(bndS s).1=bxS (cellsTo s 512):=by unfold bndS;rw[if_neg h0]
 rw[e,bxS_eq]
 exact⟨mlo_ge (·.x) _ 7 hx fun c hc=>(h c (mem_cellI.1 hc)).1,mlo_ge (·.y) _ 7 hy fun c hc=>(h c (mem_cellI.1 hc)).2.1,mlo_ge (·.z) _ 7 hz fun c hc=>(h c (mem_cellI.1 hc)).2.2⟩
theorem box_le{s:List Nat}(h0:¬s=s0){x y z:Int}(hx:0≤x)(hy:0≤y)(hz:0≤z)(h:∀c,sHas s c=true→c.x≤x∧c.y≤y∧c.z≤z):(bndS s).1.hi.x≤x∧(bndS s).1.hi.y≤y∧(bndS s).1.hi.z≤z:=by
 have e:(bndS s).1=bxS (cellsTo s 512):=by unfold bndS;rw[if_neg h0]
 rw[e,bxS_eq]
 exact⟨mhi_le (·.x) _ 0 hx fun c hc=>(h c (mem_cellI.1 hc)).1,mhi_le (·.y) _ 0 hy fun c hc=>(h c (mem_cellI.1 hc)).2.1,mhi_le (·.z) _ 0 hz fun c hc=>(h c (mem_cellI.1 hc)).2.2⟩
theorem has_in{s:List Nat}{c:Ce}(h:sHas s c=true):inG c=true:=by
 cases hq:inG c with
 |true=>rfl
 |false=>rw[sHas_out (by rw[hq];simp)]at h;cases h
theorem some_cell{s:List Nat}(hs:IsS s)(h0:¬s=s0):∃c,sHas s c=true:=by
 cases hl:cellsTo s 512 with
 |nil=>exact absurd (cells_nil hs hl) h0
 |cons c l=>exact⟨c,mem_cellI.1 (by rw[hl];exact List.mem_cons_self)⟩
structure Rng (b:Bx) (x y z:Int):Prop where
 x:0≤b.lo.x+x∧b.hi.x+x≤7
 y:0≤b.lo.y+y∧b.hi.y+y≤7
 z:0≤b.lo.z+z∧b.hi.z+z≤7
theorem Rng.all{s:List Nat}{x y z:Int}(r:Rng (bndS s).1 x y z){c:Ce}(h:sHas s c=true):inG (shC x y z c)=true:=by
 obtain⟨h1,h2,h3⟩:=box_has h
 obtain⟨r1,r2,r3⟩:=r
 refine inB_iff.2 ⟨?_,?_,?_⟩<;>(unfold shC;dsimp only;omega)
theorem lift_has{s:List Nat}(hs:IsS s){x y z:Int}(r:Rng (bndS s).1 x y z){m i:Nat}(hm:m<8)(hi:i<64):
 sHas (liftS s (bndS s).1 x y z) (ceOf m i)=true↔ ∃c,sHas s c=true∧shC x y z c=ceOf m i:=by
 have hall:∀c,sHas s c=true→inG (shC x y z c)=true:=fun c hc=>r.all hc
 have hbx:=fun c hc=> @box_has s c hc
 obtain⟨⟨bl1,bl2,bl3⟩,⟨bh1,bh2,bh3⟩⟩:=bndS_in s
 obtain⟨_,_,r3⟩:=r
 unfold liftS
 generalize(bndS s).1=b at*
 rw[sHas_of hm hi]
 by_cases hlh:b.lo.z≤b.hi.z
 ·rw[liftN_getD hs (by omega) (by omega) m hm]
  have hcond:((b.lo.z.toNat:Int)+z≤(m:Int)∧(m:Int)<(b.lo.z.toNat:Int)+z+((b.hi.z-b.lo.z+1).toNat:Nat))↔(b.lo.z+z≤m∧(m:Int)≤b.hi.z+z):=by omega
  by_cases hq:b.lo.z+z≤m∧(m:Int)≤b.hi.z+z
  ·rw[if_pos (hcond.2 hq),shP_bit hi,Bool.and_eq_true,decide_eq_true_eq]
   constructor
   ·rintro⟨h1,h2⟩
    have hi':=big_bit (hs.getD_lt _) h2
    have hm':((m:Int)-z).toNat<8:=by omega
    have hc:sHas s (ceOf ((m:Int)-z).toNat ((i:Int)-(8*y+x)).toNat)=true:=by rw[sHas_of hm' hi'];exact h2
    refine⟨_,hc,?_⟩
    obtain⟨q1,q2,q3⟩:=inB_iff.1 (hall _ hc)
    unfold shC ceOf at q1 q2 q3⊢
    dsimp only at q1 q2 q3⊢
    congr 1<;>omega
   ·rintro⟨c,hc,e⟩
    obtain⟨m',i',hm',hi',rfl⟩:=inG_form (has_in hc)
    rw[sHas_of hm' hi']at hc
    unfold shC ceOf at e
    injection e with e1 e2 e3
    dsimp only at e1 e2 e3
    have e4:((m:Int)-z).toNat=m':=by omega
    have e5:((i:Int)-(8*y+x)).toNat=i':=by omega
    rw[e4,e5]
    exact⟨by omega,hc⟩
  ·rw[if_neg (fun q=>hq (hcond.1 q)),Nat.zero_testBit]
   constructor
   ·intro h;cases h
   ·rintro⟨c,hc,e⟩
    obtain⟨_,_,h3⟩:=hbx c hc
    unfold shC ceOf at e
    injection e with e1 e2 e3
    exact absurd ⟨by omega,by omega⟩ hq
 ·have hno:∀c,¬sHas s c=true:=fun c hc=>by have:=(hbx c hc).2.2;omega
  rw[show(b.hi.z-b.lo.z+1).toNat=0 by omega]
  constructor
  ·intro h
   unfold liftN at h
   have:∀z:Fin 8,s0.getD z.val 0=0:=by decide
   rw[this ⟨m,hm⟩,Nat.zero_testBit]at h;cases h
  ·rintro⟨c,hc,_⟩;exact absurd hc (hno c)
theorem mapSh_ok{s:List Nat}{x y z:Int}(r:Rng (bndS s).1 x y z):IsS (mapS (shC x y z) s):=mapD_ok fun c hc=>r.all (mem_cellI.1 hc)
theorem lift_eq{s:List Nat}(hs:IsS s){x y z:Int}(r:Rng (bndS s).1 x y z):liftS s (bndS s).1 x y z=mapS (shC x y z) s:=by
 refine has_ext (liftN_ok hs _ _ _ _) (mapSh_ok r) fun m i hm hi=> ?_
 have e1:=lift_has hs r hm hi
 have e2:=mapS_has (f:=shC x y z) (s:=s) (fun c hc=>r.all (mem_cellI.1 hc)) (ceOf m i)
 cases h1:sHas (liftS s (bndS s).1 x y z) (ceOf m i)with
 |true=>rw[e2.2 (e1.1 h1)]
 |false=>
  cases h2:sHas (mapS (shC x y z) s) (ceOf m i)with
  |false=>rfl
  |true=>rw[e1.2 (e2.1 h2)]at h1;cases h1
def hitX(a s:List Nat)(z y x:Int):Bool:=sIn (mapS (shC x y z) s) a
def refX(a s:List Nat)(b:Bx)(z y:Int):Bool:=(zr (-b.lo.x) (7-b.hi.x)).any (hitX a s z y)
def refY(a s:List Nat)(b:Bx)(z:Int):Bool:=(zr (-b.lo.y) (7-b.hi.y)).any (refX a s b z)
def refZ(a s:List Nat)(b:Bx):Bool:=(zr (-b.lo.z) (7-b.hi.z)).any (refY a s b)
def refT(a b:List Nat)(t:Nat):Bool:=refZ a (spunS b t) (bndS (spunS b t)).1
def refB(a b:List Nat):Bool:=decide (b=s0)||(!decide (cntS a<cntS b)&&(List.range 24).any (refT a b))
theorem zr_iff{lo hi z:Int}:z∈zr lo hi↔lo≤z∧z≤hi:=by
 constructor
 ·intro h
  obtain⟨n,hn,rfl⟩:=List.mem_map.1 h
  have:=List.mem_range.1 hn
  omega
 ·rintro⟨h1,h2⟩
  exact zr_mem (n:=(z-lo).toNat) (by omega) h2
theorem refT_iff{a b:List Nat}{t:Nat}:refT a b t=true↔ ∃x y z,Rng (bndS (spunS b t)).1 x y z∧sIn (mapS (shC x y z) (spunS b t)) a=true:=by
 unfold refT refZ refY refX hitX
 simp only[List.any_eq_true,zr_iff]
 constructor
 ·rintro⟨z,hz,y,hy,x,hx,h⟩
  exact⟨x,y,z,⟨by omega,by omega,by omega⟩,h⟩
 ·rintro⟨x,y,z,⟨r1,r2,r3⟩,h⟩
  exact⟨z,by omega,y,by omega,x,by omega,h⟩
theorem fitT_iff{a b:List Nat}{t:Nat}:(∃f,f∈fitT a b t)↔ ∃x y z,((bndS a).1.lo.x-(bndS (spunS b t)).1.lo.x≤x∧x≤(bndS a).1.hi.x-(bndS (spunS b t)).1.hi.x)∧((bndS a).1.lo.y-(bndS (spunS b t)).1.lo.y≤y∧y≤(bndS a).1.hi.y-(bndS (spunS b t)).1.hi.y)∧((bndS a).1.lo.z-(bndS (spunS b t)).1.lo.z≤z∧z≤(bndS a).1.hi.z-(bndS (spunS b t)).1.hi.z)∧sIn (liftS (spunS b t) (bndS (spunS b t)).1 x y z) a=true:=by
 unfold fitT fitZ fitY fitX tryX
 constructor
 ·rintro⟨f,hf⟩
  obtain⟨z,hz,hf⟩:=List.mem_flatMap.1 hf
  obtain⟨y,hy,hf⟩:=List.mem_flatMap.1 hf
  obtain⟨x,hx,hf⟩:=List.mem_flatMap.1 hf
  split at hf
  ·rename_i h
   exact⟨x,y,z,zr_iff.1 hx,zr_iff.1 hy,zr_iff.1 hz,h⟩
  ·cases hf
 ·rintro⟨x,y,z,hx,hy,hz,h⟩
  refine⟨⟨t,x,y,z,liftS (spunS b t) (bndS (spunS b t)).1 x y z⟩,List.mem_flatMap.2 ⟨z,zr_iff.2 hz,List.mem_flatMap.2 ⟨y,zr_iff.2 hy,List.mem_flatMap.2 ⟨x,zr_iff.2 hx,?_⟩⟩⟩⟩
  rw[if_pos h]
  exact List.mem_singleton.2 rfl
theorem ref_fit{a b:List Nat}(ha:IsS a)(hb:IsS b)(h0:¬b=s0)(h0a:¬a=s0){t:Nat}:refT a b t=true↔ ∃f,f∈fitT a b t:=by
 rw[refT_iff,fitT_iff]
 have hsp:=spunS_ok b t
 have hall:∀x∈cellsTo b 512,inG (turnC t x)=true:=fun c hc=>turn_in c (cells_inG hc)
 have hs0:¬spunS b t=s0:=by
  intro q
  obtain⟨c,hc⟩:=some_cell hb h0
  have:=(mapS_has hall (turnC t c)).2 ⟨c,hc,rfl⟩
  rw[show mapS (turnC t) b=s0 from q,sHas_s0]at this;cases this
 have bi:=bndS_in (spunS b t)
 have bia:=bndS_in a
 constructor
 ·rintro⟨x,y,z,r,h⟩
  have hsub:=(sIn_iff (mapSh_ok r) ha).1 h
  have hcell:∀c,sHas (spunS b t) c=true→sHas a (shC x y z c)=true:=fun c hc=>hsub _ ((mapS_has (fun d hd=>r.all (mem_cellI.1 hd)) _).2 ⟨c,hc,rfl⟩)
  obtain⟨c1,hc1⟩:=some_cell hsp hs0
  have k1:=box_has (hcell c1 hc1)
  have k2:=inB_iff.1 (has_in hc1)
  obtain⟨k2x,k2y,k2z⟩:=k2
  unfold shC at k1
  dsimp only at k1
  have lo:=box_ge hs0 (x:=(bndS a).1.lo.x-x) (y:=(bndS a).1.lo.y-y) (z:=(bndS a).1.lo.z-z) (by omega) (by omega) (by omega) fun c hc=>by
   have:=box_has (hcell c hc)
   unfold shC at this
   dsimp only at this
   omega
  have hi:=box_le hs0 (x:=(bndS a).1.hi.x-x) (y:=(bndS a).1.hi.y-y) (z:=(bndS a).1.hi.z-z) (by omega) (by omega) (by omega) fun c hc=>by
   have:=box_has (hcell c hc)
   unfold shC at this
   dsimp only at this
   omega
  refine⟨x,y,z,by omega,by omega,by omega,?_⟩
  rw[lift_eq hsp r];exact h
 ·rintro⟨x,y,z,hx,hy,hz,h⟩
  obtain⟨⟨bl1,bl2,bl3⟩,⟨bh1,bh2,bh3⟩⟩:=bia
  have r:Rng (bndS (spunS b t)).1 x y z:=⟨by omega,by omega,by omega⟩
  refine⟨x,y,z,r,?_⟩
  rw[←lift_eq hsp r];exact h
theorem refB_eq{a b:List Nat}(ha:IsS a)(hb:IsS b):refB a b=fitB a b:=by
 unfold refB fitB
 by_cases h0:b=s0
 ·rw[decide_eq_true h0];rfl
 rw[decide_eq_false h0,Bool.false_or,Bool.false_or]
 by_cases hc:cntS a<cntS b
 ·have e:fitsL a b=[]:=if_pos (.inr hc)
  rw[e,decide_eq_true hc];rfl
 rw[decide_eq_false hc,Bool.not_false,Bool.true_and]
 have h0a:¬a=s0:=by
  intro q
  apply hc
  obtain⟨c,hcc⟩:=some_cell hb h0
  have e:cntS a=0:=by unfold cntS;rw[q,cells_s0];rfl
  rw[e]
  unfold cntS
  exact List.length_pos_of_mem (mem_cellI.2 hcc)
 have e:fitsL a b=(List.range 24).flatMap (fitT a b):=if_neg (fun q=>q.elim h0a hc)
 rw[e]
 cases hq:(List.range 24).any (refT a b)with
 |true=>
  obtain⟨t,ht,h⟩:=List.any_eq_true.1 hq
  obtain⟨f,hf⟩:=(ref_fit ha hb h0 h0a).1 h
  cases hl:(List.range 24).flatMap (fitT a b)with
  |nil=>have:=List.mem_flatMap.2 ⟨t,ht,hf⟩;rw[hl]at this;cases this
  |cons _ _=>rfl
 |false=>
  cases hl:(List.range 24).flatMap (fitT a b)with
  |nil=>rfl
  |cons f r=>
   exfalso
   have hf:f∈(List.range 24).flatMap (fitT a b):=by rw[hl];exact List.mem_cons_self
   obtain⟨t,ht,hf⟩:=List.mem_flatMap.1 hf
   have:=List.any_eq_false.1 hq t ht
   exact this ((ref_fit ha hb h0 h0a).2 ⟨f,hf⟩)
end Go.A.Pk
end
section
set_option maxRecDepth 100000
namespace Go.A.Pk
variable {T:Nat→Option AFunc}
structure FnsRF (T:Nat→Option AFunc):Prop where
 tr:FnsTr2 T
 f51:T 51=some f51
 f52:T 52=some f52
 f84:T 84=some f84
 f138:T 138=some f138
 f140:T 140=some f140
 f225:T 225=some f225
theorem m_neg7{a:Int}(h:0≤a∧a≤7):unOpA .neg (.int .i64 a)=some (.int .i64 (-a)):=by
 simp only[unOpA,Int.zero_sub]
 rw[wrapA_i64 (by omega) (by omega)]
theorem any_snoc{α:Type}{l:List α}{x:α}{p:α→Bool}(h:l.any p=false)(hx:p x=false):(l++[x]).any p=false:=by
 rw[List.any_append,h];simp[hx]
set_option maxHeartbeats 16000000 in
theorem rfits51(F:FnsRF T){h:Heap}(hr:Rdy h){a b:List Nat}(ha:IsS a)(hb:IsS b):
 Al T 51 [sv a,sv b] h fun v _=>∃t x y z,v= .tuple #[moV t x y z, .bool (fitB a b)]:=by
 have hp:=F.tr.cr.hr.p
 rw[←refB_eq ha hb]
 refine .of hp F.f51 hr (fun v h1 hv q=>q) ?_
 have ka8:=us_llen ha.len
 have ka9:=us_take8 ha.len
 have kb8:=us_llen hb.len
 have kb9:=us_take8 hb.len
 have x0:Ext h (((h.push (.cells (cellsOf (sv a)) true 1)).push (.cells (cellsOf (sv b)) true 1)).push (.cells [I.O,I.O,I.O,I.O] true 1)):=(((Ext.refl h).push _).push _).push _
 have gA:(((h.push (.cells (cellsOf (sv a)) true 1)).push (.cells (cellsOf (sv b)) true 1)).push (.cells [I.O,I.O,I.O,I.O] true 1)).get h.next=some (.cells (us a) true 1):=by(simp(disch:=first|omega|(simp only[z1,z2];omega))only[z3,z4,z5,z6,z7,z1,z2];exact rfl)
 have gB:(((h.push (.cells (cellsOf (sv a)) true 1)).push (.cells (cellsOf (sv b)) true 1)).push (.cells [I.O,I.O,I.O,I.O] true 1)).get (h.next+1)=some (.cells (us b) true 1):=by(simp(disch:=first|omega|(simp only[z1,z2];omega)|(simp only[z1,z2];done)|fail)only[z8,z4,z5,z9,z7,z1,z2,gA];exact rfl)
 have gC:(((h.push (.cells (cellsOf (sv a)) true 1)).push (.cells (cellsOf (sv b)) true 1)).push (.cells [I.O,I.O,I.O,I.O] true 1)).get (h.next+2)=some (.cells [I.O,I.O,I.O,I.O] true 1):=by(simp(disch:=first|omega|(simp only[z1,z2];omega)|(simp only[z1,z2];done)|fail)only[z8,z4,z5,z9,z7,z1,z2,gA,gB];done)
 have n0:(((h.push (.cells (cellsOf (sv a)) true 1)).push (.cells (cellsOf (sv b)) true 1)).push (.cells [I.O,I.O,I.O,I.O] true 1)).next=h.next+3:=rfl
 refine y4 ?_;refine yB ?_;refine yB ?_;refine wO_val (a_new) ?_;refine yM ?_;refine y3 ?_
 generalize(((h.push (.cells (cellsOf (sv a)) true 1)).push (.cells (cellsOf (sv b)) true 1)).push (.cells [I.O,I.O,I.O,I.O] true 1))=H at*
 have W:=x0.wf hr.wf
 have hL:=x0.log.trans hr.log
 by_cases he:b=s0
 ·have hf:refB a b=true:=by unfold refB;rw[decide_eq_true he];rfl
  rw[hf]
  have ck:ltake 4 (ldrop 0 (moL 0 (-7) (-7) (-7)))=moL 0 (-7) (-7) (-7):=rfl
  refine wE_seq ?_;refine y4 ?_;refine wO_val (a_loadN (by exact rfl) (by assumption) (by assumption) (by assumption)) ?_;refine wO_val (a_build (by exact rfl)) ?_
  refine wO_val (a_eqS (b:=s0) (by exact rfl) (by exact rfl) hb.len rfl) ?_
  rw[decide_eq_true he]
  refine y3 ?_;refine yY ?_;refine y4 ?_;refine wO_val (a_build (by exact rfl)) ?_;refine yS ?_;refine yM ?_
  refine y3 ?_;refine wE_ret ?_;refine kS_r ?_
  refine endA_ret ?_ (res_cells (own:=true) (s:=1) rfl ?_ ck rfl rfl) ⟨0, -7, -7, -7,rfl⟩
  ·rw[Heap.log_wr_new (by show h.next≤h.next+2;omega)];exact hL
  ·(simp(disch:=first|omega|(simp only[z1,z2];omega))only[z3,z4,z5,z6,z7,z1,z2,gA,gB,gC];exact rfl)
 refine wE_seq ?_;refine y4 ?_;refine wO_val (a_loadN (by exact rfl) (by assumption) (by assumption) (by assumption)) ?_;refine wO_val (a_build (by exact rfl)) ?_
 refine wO_val (a_eqS (b:=s0) (by exact rfl) (by exact rfl) hb.len rfl) ?_
 rw[decide_eq_false he]
 have hrb:refB a b=(!decide (cntS a<cntS b)&&(List.range 24).any (refT a b)):=by unfold refB;rw[decide_eq_false he,Bool.false_or]
 have C1:=count84 F.tr.cr F.f84 (h:={H with log:=[]}) (.of W) hb
 have C2:=count84 F.tr.cr F.f84 (h:={H with log:=[]}) (.of W) ha
 by_cases hcn:cntS a<cntS b
 ·rw[hrb,decide_eq_true hcn]
  have m1:numOp .gtr (.int .i64 ((cntS b:Nat):Int)) (.int .i64 ((cntS a:Nat):Int))=some (.bool true):=m_gtrT (by omega)
  have ck:ltake 4 (ldrop 0 (moL 0 0 0 0))=moL 0 0 0 0:=rfl
  refine y3 ?_;refine yX ?_;refine wE_skip ?_;refine kS_n ?_;refine wE_seq ?_;refine wE_seq ?_;refine wE_draw ?_
  refine wD_quiet rfl rfl rfl (by exact rfl) (by exact rfl) (by exact rfl) (a_loadN (by exact rfl) (by assumption) (by assumption) (by assumption)) ?_;refine wD_quiet rfl rfl rfl (by exact rfl) (by exact rfl) (by exact rfl) (a_loadN (by exact rfl) (by assumption) (by assumption) (by assumption)) ?_
  refine qC ?_
  refine FW.puD C1 (by apply ra_keepC rfl (rq_quiet rfl (a_loadN (by exact rfl) (by assumption) (by assumption) (by assumption)) (by exact sv_us _)) rfl;apply ra_dropC rfl;exact ra_nil) ?_
  skip
  refine qC ?_
  refine FW.puD C2 (by apply ra_dropC rfl;exact ra_nil) ?_
  refine wD_quiet rfl rfl rfl (by exact rfl) (by exact rfl) (by exact rfl) (a_num (by exact rfl) (by exact rfl) (by with_reducible assumption)) ?_;refine wD_nil ?_;refine y1 ?_;refine kS_n ?_;refine yY ?_;refine y4 ?_;refine wO_val (a_build (by exact rfl)) ?_
  refine yS ?_;refine yM ?_;refine y3 ?_;refine wE_ret ?_;refine kS_r ?_
  refine endA_ret ?_ (res_cells (own:=true) (s:=1) rfl ?_ ck rfl rfl) ⟨0,0,0,0,rfl⟩
  ·rw[Heap.log_wr_new (by show h.next≤h.next+2;omega)];exact hL
  ·(simp(disch:=first|omega|(simp only[z1,z2];omega))only[z3,z4,z5,z6,z7,z1,z2,gA,gB,gC];exact rfl)
 have m1:numOp .gtr (.int .i64 ((cntS b:Nat):Int)) (.int .i64 ((cntS a:Nat):Int))=some (.bool false):=m_gtrF (by omega)
 rw[decide_eq_false hcn,Bool.not_false,Bool.true_and]at hrb
 refine y3 ?_;refine yX ?_;refine wE_skip ?_;refine kS_n ?_;refine wE_seq ?_;refine wE_seq ?_;refine wE_draw ?_
 refine wD_quiet rfl rfl rfl (by exact rfl) (by exact rfl) (by exact rfl) (a_loadN (by exact rfl) (by assumption) (by assumption) (by assumption)) ?_;refine wD_quiet rfl rfl rfl (by exact rfl) (by exact rfl) (by exact rfl) (a_loadN (by exact rfl) (by assumption) (by assumption) (by assumption)) ?_
 refine qC ?_
 refine FW.puD C1 (by apply ra_keepC rfl (rq_quiet rfl (a_loadN (by exact rfl) (by assumption) (by assumption) (by assumption)) (by exact sv_us _)) rfl;apply ra_dropC rfl;exact ra_nil) ?_
 skip
 refine qC ?_
 refine FW.puD C2 (by apply ra_dropC rfl;exact ra_nil) ?_
 clear C1 C2 m1
 refine wD_quiet rfl rfl rfl (by exact rfl) (by exact rfl) (by exact rfl) (a_num (by exact rfl) (by exact rfl) (by exact m_gtrF (by omega))) ?_;refine wD_nil ?_;refine y1 ?_;refine kS_n ?_;refine yX ?_;refine wE_skip ?_;refine kS_n ?_;refine wE_seq ?_;refine y4 ?_;refine yM ?_;refine y3 ?_;refine wE_block ?_
 refine wE_loop (fun k e ds h'=>∃t:Nat,t≤24∧24-t=k∧e=[(2, .pointer (some ⟨h.next,0,none⟩)),(3, .pointer (some ⟨h.next+1,0,none⟩)),(4, .pointer (some ⟨h.next+2,0,none⟩)),(6, .int .i64 (t:Nat))]∧ds=[]∧Ext H h'∧(List.range t).any (refT a b)=false)
  ⟨0,Nat.zero_le _,rfl,rfl,rfl, .refl _,rfl⟩ ?_
 rintro k e ds G ⟨t,ht24,rfl,rfl,rfl,xG,hno⟩
 have WG:=xG.wf W
 have hLG:=xG.log.trans hL
 have gA1:=(xG.old _ (by omega)).trans gA
 have gB1:=(xG.old _ (by omega)).trans gB
 have gC1:=(xG.old _ (by omega)).trans gC
 have nG:=xG.next
 by_cases ht:t<24
 ·have hps:=spunS_ok b t
  have hbp:=bndS_in (spunS b t)
  have D1:=turned137 F.tr (h:={G with log:=[]}) (.of WG) hb ht
  have hall:=fun x y z (r:Rng (bndS (spunS b t)).1 x y z) (c:Ce) (hc:c∈cellsTo (spunS b t) 512)=>r.all (mem_cellI.1 hc)
  have hT:refT a b t=refZ a (spunS b t) (bndS (spunS b t)).1:=rfl
  have hyes:refT a b t=true→refB a b=true:=fun q=>by
   rw[hrb];exact List.any_eq_true.2 ⟨t,List.mem_range.2 ht,q⟩
  have hnext:refT a b t=false→(List.range (t+1)).any (refT a b)=false:=fun q=>by
   rw[List.range_succ];exact any_snoc hno q
  have hmok:=fun x y z (r:Rng (bndS (spunS b t)).1 x y z)=>mapSh_ok r
  rw[hT]at hyes hnext
  clear hT
  generalize hbb:bndS (spunS b t)=bb at*
  generalize spunS b t=p at*
  obtain⟨bp,some'⟩:=bb
  dsimp only at hbp hyes hnext hall hmok
  have kp8:=us_llen hps.len
  have kp9:=us_take8 hps.len
  have kpl:=hps.len
  have mlt:numOp .lss (.int .i64 (t:Nat)) (.int .i64 24)=some (.bool true):=m_lssT (by omega)
  refine wE_seq ?_;refine y4 ?_;refine yM ?_;refine wO_val (a_num (by exact rfl) (by exact rfl) (by with_reducible assumption)) ?_;refine y3 ?_;refine yY ?_;refine wE_skip ?_;refine kS_n ?_
  refine wE_seq ?_;refine wE_block ?_
  refine wE_cutP (E0:=[(2, .pointer (some ⟨h.next,0,none⟩)),(3, .pointer (some ⟨h.next+1,0,none⟩)),(4, .pointer (some ⟨h.next+2,0,none⟩)),(6, .int .i64 (t:Nat)),(7, .pointer (some ⟨G.next,0,none⟩))]) (P:=fun h'=>Ext G h'∧h'.next=G.next+1∧h'.get G.next=some (.cells (us p) true 1)) ?_ ?_
  ·refine wE_region ?_;refine wO_val (a_loadN (by exact rfl) (by assumption) (by assumption) (by assumption)) ?_;refine yM ?_
   refine yC ?_
   refine FW.pu D1 ?_
   refine yM ?_;refine yE ?_;refine yE ?_;refine wO_val (a_new) ?_
   refine wO_val (a_storeAll (by exact rfl) (by exact rfl) (by(simp(disch:=first|omega|(simp only[z1,z2];omega))only[z3,z4,z5,z6,z7,z1,z2,gA,gB,gC,gA1,gB1,gC1];exact rfl)) (by(simp only[us_length];assumption)) (by exact rfl) (by exact us_ones _)) ?_
   refine yM ?_;refine wO_nil ?_;refine y1 ?_
   refine⟨rfl,rfl,rfl,(by first|exact ext_pw (by omega) _ _|skip),rfl,?_⟩
   (simp(disch:=first|omega|(simp only[z1,z2];omega))only[z3,z4,z5,z6,z7,z1,z2,gA,gB,gC,gA1,gB1,gC1];done)
  clear D1
  rintro G1 ⟨x1,n1,q1⟩
  have WG1:=x1.wf WG
  have D2:=bounds138 F.tr F.f138 (h:={G1 with log:=[]}) (.of WG1) hps
  rw[hbb]at D2
  unfold bndV at D2
  dsimp only at D2
  refine wE_cutP (E0:=[(2, .pointer (some ⟨h.next,0,none⟩)),(3, .pointer (some ⟨h.next+1,0,none⟩)),(4, .pointer (some ⟨h.next+2,0,none⟩)),(6, .int .i64 (t:Nat)),(7, .pointer (some ⟨G.next,0,none⟩)),(9, .pointer (some ⟨G1.next,0,none⟩))]) (P:=fun h'=>Ext G1 h'∧h'.next=G1.next+1∧h'.get G1.next=some (.cells (bxL bp) true 1)) ?_ ?_
  ·refine wE_region ?_;refine wO_val (a_loadN (by exact rfl) (by assumption) (by assumption) (by assumption)) ?_
   refine yC ?_
   refine FW.pu D2 ?_
   refine yM ?_;refine yE ?_;refine yE ?_;refine wO_val (a_new) ?_
   refine yS ?_;refine yM ?_;refine wO_nil ?_
   refine y1 ?_
   exact⟨rfl,rfl,rfl,ext_pw (by omega) _ _,rfl,get_pw _ _⟩
  clear D2
  rintro G2 ⟨x2,n2,q2⟩
  have xH:=(xG.trans x1).trans x2
  have qp:=(x2.old _ (by omega)).trans q1
  clear q1 WG1 gA1 gB1 gC1
  rw[n1]at q2 n2⊢
  have hnn:H.next≤G.next:=nG
  clear x1 x2 n1 WG hLG xG nG
  generalize G.next=q at*
  have px1:=hbp.lo.x
  have px2:=hbp.hi.x
  have py1:=hbp.lo.y
  have py2:=hbp.hi.y
  have pz1:=hbp.lo.z
  have pz2:=hbp.hi.z
  have nx:=m_neg7 px1
  have ny:=m_neg7 py1
  have nz:=m_neg7 pz1
  have sx:=m_sub7 px2
  have sy:=m_sub7 py2
  have sz:=m_sub7 pz2
  refine y4 ?_;refine yF ?_;refine yF ?_;refine yL ?_;refine wO_val (a_un (by exact rfl) (by assumption)) ?_;refine yM ?_;refine y3 ?_;refine wE_block ?_
  refine wE_loop (fun k e ds h'=>∃(n:Nat) (z:Int),z= -bp.lo.z+(n:Nat)∧(n=0∨z≤7-bp.hi.z+1)∧16-n=k∧e=[(2, .pointer (some ⟨h.next,0,none⟩)),(3, .pointer (some ⟨h.next+1,0,none⟩)),(4, .pointer (some ⟨h.next+2,0,none⟩)),(6, .int .i64 (t:Nat)),(7, .pointer (some ⟨q,0,none⟩)),(9, .pointer (some ⟨q+1,0,none⟩)),(11, .int .i64 z)]∧ds=[]∧Ext G2 h'∧(zrN (-bp.lo.z) n).any (refY a p bp)=false)
   ⟨0,_,by simp, .inl rfl,rfl,rfl,rfl, .refl _,rfl⟩ ?_
  rintro k e ds G3 ⟨n,z,hz,hn,rfl,rfl,rfl,x3,noz⟩
  have hn16:n<16:=by omega
  have q3:=(x3.old _ (by omega)).trans q2
  by_cases hle:z≤7-bp.hi.z
  ·have lz:numOp .leq (.int .i64 z) (.int .i64 (7-bp.hi.z))=some (.bool true):=m_leqT hle
   have az:numOp .add (.int .i64 z) (.int .i64 1)=some (.int .i64 (z+1)):=m_add (wrapA_i64 (by omega) (by omega))
   have mz:=zr_mem hz hle
   have snz:refY a p bp z=false→(zrN (-bp.lo.z) (n+1)).any (refY a p bp)=false:=fun q=>by rw[zrN_succ];exact any_snoc noz (by rw[←hz];exact q)
   refine wE_seq ?_;refine y4 ?_;refine yM ?_;refine yF ?_;refine yF ?_;refine yL ?_;refine wO_val (a_num (by exact rfl) (by exact rfl) (by with_reducible assumption)) ?_
   refine wO_val (a_num (by exact rfl) (by exact rfl) (by with_reducible assumption)) ?_;refine y3 ?_;refine yY ?_;refine wE_skip ?_;refine kS_n ?_;refine wE_seq ?_;refine wE_block ?_;refine y4 ?_
   refine yF ?_;refine yF ?_;refine yL ?_;refine wO_val (a_un (by exact rfl) (by assumption)) ?_;refine yM ?_;refine y3 ?_
   refine wE_block ?_
   refine wE_loop (fun k e ds h'=>∃(j:Nat) (y:Int),y= -bp.lo.y+(j:Nat)∧(j=0∨y≤7-bp.hi.y+1)∧16-j=k∧e=[(2, .pointer (some ⟨h.next,0,none⟩)),(3, .pointer (some ⟨h.next+1,0,none⟩)),(4, .pointer (some ⟨h.next+2,0,none⟩)),(6, .int .i64 (t:Nat)),(7, .pointer (some ⟨q,0,none⟩)),(9, .pointer (some ⟨q+1,0,none⟩)),(11, .int .i64 z),(12, .int .i64 y)]∧ds=[]∧Ext G2 h'∧(zrN (-bp.lo.y) j).any (refX a p bp z)=false)
    ⟨0,_,by simp, .inl rfl,rfl,rfl,rfl,x3,rfl⟩ ?_
   clear x3 q3
   rintro k e ds G3 ⟨j,y,hy,hj,rfl,rfl,rfl,x3,noy⟩
   have hj16:j<16:=by omega
   have q3:=(x3.old _ (by omega)).trans q2
   by_cases hley:y≤7-bp.hi.y
   ·have ly:numOp .leq (.int .i64 y) (.int .i64 (7-bp.hi.y))=some (.bool true):=m_leqT hley
    have ay:numOp .add (.int .i64 y) (.int .i64 1)=some (.int .i64 (y+1)):=m_add (wrapA_i64 (by omega) (by omega))
    have my:=zr_mem hy hley
    have sny:refX a p bp z y=false→(zrN (-bp.lo.y) (j+1)).any (refX a p bp z)=false:=fun q=>by rw[zrN_succ];exact any_snoc noy (by rw[←hy];exact q)
    refine wE_seq ?_;refine y4 ?_;refine yM ?_;refine yF ?_;refine yF ?_;refine yL ?_;refine wO_val (a_num (by exact rfl) (by exact rfl) (by with_reducible assumption)) ?_
    refine wO_val (a_num (by exact rfl) (by exact rfl) (by with_reducible assumption)) ?_;refine y3 ?_;refine yY ?_;refine wE_skip ?_;refine kS_n ?_;refine wE_seq ?_;refine wE_block ?_;refine y4 ?_
    refine yF ?_;refine yF ?_;refine yL ?_;refine wO_val (a_un (by exact rfl) (by assumption)) ?_;refine yM ?_;refine y3 ?_
    refine wE_block ?_
    refine wE_loop (fun k e ds h'=>∃(i:Nat) (x:Int),x= -bp.lo.x+(i:Nat)∧(i=0∨x≤7-bp.hi.x+1)∧16-i=k∧e=[(2, .pointer (some ⟨h.next,0,none⟩)),(3, .pointer (some ⟨h.next+1,0,none⟩)),(4, .pointer (some ⟨h.next+2,0,none⟩)),(6, .int .i64 (t:Nat)),(7, .pointer (some ⟨q,0,none⟩)),(9, .pointer (some ⟨q+1,0,none⟩)),(11, .int .i64 z),(12, .int .i64 y),(13, .int .i64 x)]∧ds=[]∧Ext G2 h'∧(zrN (-bp.lo.x) i).any (hitX a p z y)=false)
     ⟨0,_,by simp, .inl rfl,rfl,rfl,rfl,x3,rfl⟩ ?_
    clear x3 q3
    rintro k e ds G3 ⟨i,x,hx,hi,rfl,rfl,rfl,x3,nox⟩
    have hi16:i<16:=by omega
    have q3:=(x3.old _ (by omega)).trans q2
    by_cases hlex:x≤7-bp.hi.x
    ·have lx:numOp .leq (.int .i64 x) (.int .i64 (7-bp.hi.x))=some (.bool true):=m_leqT hlex
     have ax:numOp .add (.int .i64 x) (.int .i64 1)=some (.int .i64 (x+1)):=m_add (wrapA_i64 (by omega) (by omega))
     have mx':=zr_mem hx hlex
     have snx:hitX a p z y x=false→(zrN (-bp.lo.x) (i+1)).any (hitX a p z y)=false:=fun q=>by rw[zrN_succ];exact any_snoc nox (by rw[←hx];exact q)
     have hhit:hitX a p z y x=sIn (mapS (shC x y z) p) a:=rfl
     have hfound:hitX a p z y x=true→refB a b=true:=fun hh=>hyes (List.any_eq_true.2 ⟨z,mz,List.any_eq_true.2 ⟨y,my,List.any_eq_true.2 ⟨x,mx',hh⟩⟩⟩)
     have hrng:Rng bp x y z:=⟨by omega,by omega,by omega⟩
     have WG3:=x3.wf (xH.wf W)
     have hL3:=x3.log.trans (xH.log.trans hL)
     have n3:=x3.next
     have qp3:=(x3.old _ (by omega)).trans qp
     have D3:=moved139 F.tr F.f225 (h:={G3 with log:=[]}) (.of WG3) hps (x:=x) (y:=y) (z:=z) ⟨by omega,by omega⟩ ⟨by omega,by omega⟩ ⟨by omega,by omega⟩ (hall x y z hrng)
     have hls:=hmok x y z hrng
     generalize mapS (shC x y z) p=ls at*
     have kls:=us_take8 hls.len
     have kll:=us_llen hls.len
     have klen:=hls.len
     refine wE_seq ?_;refine y4 ?_;refine yM ?_;refine yF ?_;refine yF ?_;refine yL ?_;refine wO_val (a_num (by exact rfl) (by exact rfl) (by with_reducible assumption)) ?_
     refine wO_val (a_num (by exact rfl) (by exact rfl) (by with_reducible assumption)) ?_;refine y3 ?_;refine yY ?_;refine wE_skip ?_;refine kS_n ?_;refine wE_seq ?_;refine wE_block ?_
     refine wE_cutP (E0:=[(2, .pointer (some ⟨h.next,0,none⟩)),(3, .pointer (some ⟨h.next+1,0,none⟩)),(4, .pointer (some ⟨h.next+2,0,none⟩)),(6, .int .i64 (t:Nat)),(7, .pointer (some ⟨q,0,none⟩)),(9, .pointer (some ⟨q+1,0,none⟩)),(11, .int .i64 z),(12, .int .i64 y),(13, .int .i64 x),(14, .pointer (some ⟨G3.next,0,none⟩))]) (P:=fun h'=>Ext G3 h'∧h'.next=G3.next+1∧h'.get G3.next=some (.cells (us ls) true 1)) ?_ ?_
     ·refine wE_region ?_;refine wO_val (a_loadN (by exact rfl) (by assumption) (by assumption) (by assumption)) ?_;refine yM ?_;refine yM ?_;refine yM ?_
      refine yC ?_
      refine FW.pu D3 ?_
      refine yM ?_;refine yE ?_;refine yE ?_;refine wO_val (a_new) ?_
      refine wO_val (a_storeAll (by exact rfl) (by exact rfl) (by(simp(disch:=first|omega|(simp only[z1,z2];omega))only[z3,z4,z5,z6,z7,z1,z2,gA,gB,gC,q2,qp,q3,qp3];exact rfl)) (by(simp only[us_length];assumption)) (by exact rfl) (by exact us_ones _)) ?_
      refine yM ?_;refine wO_nil ?_;refine y1 ?_
      refine⟨rfl,rfl,rfl,(by first|exact ext_pw (by omega) _ _|skip),rfl,?_⟩
      (simp(disch:=first|omega|(simp only[z1,z2];omega))only[z3,z4,z5,z6,z7,z1,z2,gA,gB,gC,q2,qp,q3,qp3];done)
     clear D3 q3 qp3
     rintro G4 ⟨x4,n4,q4⟩
     have WG4:=x4.wf WG3
     have hL4:=x4.log.trans hL3
     have x34:=x3.trans x4
     have gA4:=((xH.trans x34).old _ (by omega)).trans gA
     have gC4:=((xH.trans x34).old _ (by omega)).trans gC
     have D4:=rin52 hp F.f52 F.f140 (h:={G4 with log:=[]}) (.of WG4) hls ha
     refine y4 ?_;refine wO_val (a_loadN (by exact rfl) (by assumption) (by assumption) (by assumption)) ?_;refine wO_val (a_loadN (by exact rfl) (by assumption) (by assumption) (by assumption)) ?_
     refine yC ?_
     refine FW.pu D4 ?_
     clear D4
     cases hin:sIn ls a with
     |false=>
      refine yM ?_;refine y3 ?_;refine y4 ?_;refine yM ?_;refine y3 ?_
      refine yX ?_;refine wE_skip ?_;refine kB_n ?_;refine kS_n ?_;refine wE_region ?_;refine yM ?_;refine wO_val (a_num (by exact rfl) (by exact rfl) (by with_reducible assumption)) ?_;refine yM ?_;refine y3 ?_
      refine⟨16-(i+1),by omega,i+1,x+1,by omega, .inr (by omega),rfl,rfl,rfl,x34,snx (by rw[hhit];exact hin)⟩
     |true=>
      rw[hfound (by rw[hhit];exact hin)]
      have ck:ltake 4 (ldrop 0 (moL t x y z))=moL t x y z:=rfl
      refine yM ?_;refine y3 ?_;refine y4 ?_;refine yM ?_;refine y3 ?_
      refine yY ?_;refine y4 ?_;refine yM ?_;refine yM ?_;refine yM ?_;refine yM ?_;refine wO_val (a_build (by exact rfl)) ?_;refine yS ?_
      refine yM ?_;refine y3 ?_;refine wE_ret ?_;refine kB_r ?_;refine kS_r ?_;refine kS_r ?_;refine kB_r ?_;refine kB_r ?_;refine kS_r ?_;refine kS_r ?_;refine kB_r ?_;refine kB_r ?_;refine kS_r ?_;refine kS_r ?_;refine kB_r ?_;refine kB_r ?_
      refine kS_r ?_;refine kS_r ?_;refine kB_r ?_;refine kS_r ?_
      refine endA_ret ?_ (res_cells (own:=true) (s:=1) rfl ?_ ck rfl rfl) ⟨t,x,y,z,rfl⟩
      ·rw[Heap.log_wr_new (by show h.next≤h.next+2;omega)];exact hL4
      ·(simp(disch:=first|omega|(simp only[z1,z2];omega))only[z3,z4,z5,z6,z7,z1,z2,gA,gB,gC,q2,qp,q4,gA4,gC4];exact rfl)
    ·have lx:numOp .leq (.int .i64 x) (.int .i64 (7-bp.hi.x))=some (.bool false):=m_leqF (by omega)
     have hie:=rng_end (lo:= -bp.lo.x) (hi:=7-bp.hi.x) (n:=i) (by omega) (by omega)
     have e:refX a p bp z y=false:=by rw[hie]at nox;exact nox
     refine wE_seq ?_;refine y4 ?_;refine yM ?_;refine yF ?_;refine yF ?_;refine yL ?_;refine wO_val (a_num (by exact rfl) (by exact rfl) (by with_reducible assumption)) ?_
     refine wO_val (a_num (by exact rfl) (by exact rfl) (by with_reducible assumption)) ?_;refine y3 ?_;refine yX ?_;refine wE_exit ?_;refine kS_e ?_;refine kS_e ?_;refine kB_e ?_;refine kB_n ?_;refine kS_n ?_;refine wE_region ?_
     refine yM ?_;refine wO_val (a_num (by exact rfl) (by exact rfl) (by with_reducible assumption)) ?_;refine yM ?_;refine y3 ?_
     refine⟨16-(j+1),by omega,j+1,y+1,by omega, .inr (by omega),rfl,rfl,rfl,x3,sny e⟩
   ·have ly:numOp .leq (.int .i64 y) (.int .i64 (7-bp.hi.y))=some (.bool false):=m_leqF (by omega)
    have hje:=rng_end (lo:= -bp.lo.y) (hi:=7-bp.hi.y) (n:=j) (by omega) (by omega)
    have e:refY a p bp z=false:=by rw[hje]at noy;exact noy
    refine wE_seq ?_;refine y4 ?_;refine yM ?_;refine yF ?_;refine yF ?_;refine yL ?_;refine wO_val (a_num (by exact rfl) (by exact rfl) (by with_reducible assumption)) ?_
    refine wO_val (a_num (by exact rfl) (by exact rfl) (by with_reducible assumption)) ?_;refine y3 ?_;refine yX ?_;refine wE_exit ?_;refine kS_e ?_;refine kS_e ?_;refine kB_e ?_;refine kB_n ?_;refine kS_n ?_;refine wE_region ?_
    refine yM ?_;refine wO_val (a_num (by exact rfl) (by exact rfl) (by with_reducible assumption)) ?_;refine yM ?_;refine y3 ?_
    refine⟨16-(n+1),by omega,n+1,z+1,by omega, .inr (by omega),rfl,rfl,rfl,x3,snz e⟩
  ·have lz:numOp .leq (.int .i64 z) (.int .i64 (7-bp.hi.z))=some (.bool false):=m_leqF (by omega)
   have hne:=rng_end (lo:= -bp.lo.z) (hi:=7-bp.hi.z) (n:=n) (by omega) (by omega)
   have e:refZ a p bp=false:=by rw[hne]at noz;exact noz
   refine wE_seq ?_;refine y4 ?_;refine yM ?_;refine yF ?_;refine yF ?_;refine yL ?_;refine wO_val (a_num (by exact rfl) (by exact rfl) (by with_reducible assumption)) ?_
   refine wO_val (a_num (by exact rfl) (by exact rfl) (by with_reducible assumption)) ?_;refine y3 ?_;refine yX ?_;refine wE_exit ?_;refine kS_e ?_;refine kS_e ?_;refine kB_e ?_;refine kB_n ?_;refine kS_n ?_;refine wE_region ?_
   refine yM ?_;refine yinc ?_;refine yM ?_;refine y3 ?_
   refine⟨24-(t+1),by omega,t+1,by omega,rfl,rfl,rfl,xH.trans x3,hnext e⟩
 ·obtain rfl:t=24:=by omega
  rw[hrb,hno]
  have mlt:numOp .lss (.int .i64 ((24:Nat):Int)) (.int .i64 24)=some (.bool false):=rfl
  have ck:ltake 4 (ldrop 0 (moL 0 0 0 0))=moL 0 0 0 0:=rfl
  refine wE_seq ?_;refine y4 ?_;refine yM ?_;refine wO_val (a_num (by exact rfl) (by exact rfl) (by with_reducible assumption)) ?_;refine y3 ?_;refine yX ?_;refine wE_exit ?_;refine kS_e ?_
  refine kS_e ?_;refine kB_e ?_;refine kS_n ?_;refine y4 ?_;refine wO_val (a_build (by exact rfl)) ?_;refine yS ?_;refine yM ?_;refine y3 ?_;refine wE_ret ?_
  refine endA_ret ?_ (res_cells (own:=true) (s:=1) rfl ?_ ck rfl rfl) ⟨0,0,0,0,rfl⟩
  ·rw[Heap.log_wr_new (by show h.next≤h.next+2;omega)];exact hLG
  ·(simp(disch:=first|omega|(simp only[z1,z2];omega))only[z3,z4,z5,z6,z7,z1,z2,gA,gB,gC,gA1,gB1,gC1];exact rfl)
end Go.A.Pk
end
section
set_option maxRecDepth 100000
namespace Go.A.Pk
variable {T:Nat→Option AFunc}
def ssL(l:List (List Nat)):List Value:=l.flatMap us
structure SsQ (h:Heap) (v:Value) (l:List (List Nat)):Prop where
 sl:SliceOf h 8 v l.length (ssL l)
 ok:∀s∈l,IsS s
theorem SsQ.ext{h h':Heap}{v:Value}{l:List (List Nat)}(s:SsQ h v l)(x:Ext h h'):SsQ h' v l:=⟨s.sl.ext x,s.ok⟩
theorem SsQ.log{h:Heap}{v:Value}{l:List (List Nat)}(s:SsQ h v l)(m:List Nat):SsQ {h with log:=m} v l:=⟨s.sl.log m,s.ok⟩
theorem ss_at:∀{l:List (List Nat)} {i:Nat} {x:List Nat},(∀s∈l,IsS s)→l[i]? =some x→((ssL l).drop (i*8)).take 8=us x
 |[],i,x,_,h=>by simp at h
 |c::l,0,x,hl,h=>by
  simp at h;subst h
  have e:ssL (c::l)=us c++ssL l:=rfl
  have e8:(us c).length=8:=by rw[us_length,(hl c List.mem_cons_self).len]
  rw[e,Nat.zero_mul,List.drop_zero,List.take_append_of_le_length (by omega),List.take_of_length_le (by omega)]
 |c::l,i+1,x,hl,h=>by
  have e:ssL (c::l)=us c++ssL l:=rfl
  have e8:(us c).length=8:=by rw[us_length,(hl c List.mem_cons_self).len]
  have e2:(us c++ssL l).drop 8=ssL l:=by rw[←e8];exact List.drop_left
  rw[e,show(i+1)*8=8+i*8 by omega,←List.drop_drop,e2]
  exact ss_at (fun s hs=>hl s (List.mem_cons_of_mem _ hs)) (by simpa using h)
theorem SsQ.elem{h:Heap}{v:Value}{l:List (List Nat)}(s:SsQ h v l){i:Nat}{x:List Nat}(hi:l[i]? =some x):
 ∃b o c vs own t,v= .slice (some ⟨b,o,none⟩) l.length c∧h.get b=some (.cells vs own t)∧b<h.next∧ltake 8 (ldrop (o+i*8) vs)=us x:=by
 have hlt:=(List.getElem?_eq_some_iff.1 hi).1
 rcases SliceOf.inv s.sl with⟨_,_,h0,_⟩|⟨b,o,cap,hv,s1,hc⟩
 ·omega
 ·obtain⟨vs,own,t,g1,g2⟩:=s1.obj
  refine⟨b,o,cap,vs,own,t,hv,g1,s1.lt,?_⟩
  rw[←ss_at s.ok hi,←g2]
  simp only[ltake_eq,ldrop_eq,List.drop_take,List.take_take,List.drop_drop]
  congr 1;omega
def ordE(l:List (List Nat)):Int:=if 6<l.length then 2 else if l.any (fun s=>decide (s=s0))then 1 else 0
theorem orders93(hp:primAS T)(hf:T 93=some f93){h:Heap}(hr:Rdy h){a:Option Addr}{n c:Nat}{l:List (List Nat)}(s:SsQ h (.slice a n c) l)(hn:n<1000000):Pu T 93 [.slice a n c] h (.int .i64 (ordE l)):=by
 refine .of hp hf hr rfl ?_
 obtain rfl:n=l.length:=by
  rcases SliceOf.inv s.sl with⟨_,hv,h0,_⟩|⟨b,o,cap,hv,s1,hc⟩
  ·cases hv;exact h0.symm
  ·cases hv;rfl
 unfold ordE
 by_cases h6:6<l.length
 ·rw[if_pos h6]
  have m1:numOp .gtr (.int .i64 (l.length:Nat)) (.int .i64 6)=some (.bool true):=m_gtrT (by omega)
  refine y4 ?_;refine yM ?_;refine y3 ?_;refine wE_seq ?_;refine y4 ?_;refine yM ?_;refine yD ?_
  refine wO_val (a_num (by exact rfl) (by exact rfl) (by with_reducible assumption)) ?_;refine y3 ?_;refine yY ?_;refine y4 ?_;refine yM ?_;refine y3 ?_;refine wE_ret ?_;refine kS_r ?_
  exact endP_ret hr.log rfl rfl
 rw[if_neg h6]
 have m1:numOp .gtr (.int .i64 (l.length:Nat)) (.int .i64 6)=some (.bool false):=m_gtrF (by omega)
 refine y4 ?_;refine yM ?_;refine y3 ?_;refine wE_seq ?_;refine y4 ?_;refine yM ?_;refine yD ?_
 refine wO_val (a_num (by exact rfl) (by exact rfl) (by with_reducible assumption)) ?_;refine y3 ?_;refine yX ?_;refine wE_skip ?_;refine kS_n ?_;refine wE_seq ?_;refine y4 ?_;refine yM ?_
 refine y3 ?_;refine wE_block ?_
 refine wE_loop (fun m e ds h'=>∃j:Nat,j≤l.length∧l.length-j=m∧e=[(0, .slice a l.length c),(3, .int .i64 (j:Nat))]∧ds=[]∧h=h'∧(l.take j).any (fun s=>decide (s=s0))=false)
  ⟨0,Nat.zero_le _,rfl,rfl,rfl,rfl,rfl⟩ ?_
 rintro m e ds h' ⟨j,hj,rfl,rfl,rfl,rfl,hno⟩
 by_cases hlt:j<l.length
 ·obtain⟨x,hx⟩:∃x,l[j]? =some x:=⟨l[j]'hlt,List.getElem?_eq_getElem _⟩
  have hxs:=s.ok x (List.mem_of_getElem? hx)
  obtain⟨b,o,c2,vs,own,tt,hv,gl,hbl,el⟩:=s.elem hx
  cases hv
  have k8:=us_llen hxs.len
  have mlt:numOp .lss (.int .i64 (j:Nat)) (.int .i64 (l.length:Nat))=some (.bool true):=m_lssT (by omega)
  by_cases h0:x=s0
  ·have e:l.any (fun s=>decide (s=s0))=true:=List.any_eq_true.2 ⟨x,List.mem_of_getElem? hx,decide_eq_true h0⟩
   rw[if_pos e]
   refine wE_seq ?_;refine y4 ?_;refine yM ?_;refine yM ?_;refine yD ?_;refine wO_val (a_num (by exact rfl) (by exact rfl) (by with_reducible assumption)) ?_;refine y3 ?_
   refine yY ?_;refine wE_skip ?_;refine kS_n ?_;refine wE_seq ?_;refine wE_block ?_;refine y4 ?_;refine yM ?_;refine yM ?_;refine wO_val (a_iaddrS (by exact rfl) (by exact rfl) (by omega)) ?_;refine wO_val (a_loadN (by exact rfl) (by assumption) (by assumption) (by assumption)) ?_
   refine wO_val (a_build (by exact rfl)) ?_
   refine wO_val (a_eqS (b:=s0) (by exact rfl) (by exact rfl) hxs.len rfl) ?_
   rw[decide_eq_true h0]
   refine y3 ?_;refine yY ?_;refine y4 ?_;refine yM ?_;refine y3 ?_;refine wE_ret ?_
   refine kB_r ?_;refine kS_r ?_;refine kS_r ?_;refine kB_r ?_;refine kS_r ?_
   exact endP_ret hr.log rfl rfl
  ·refine wE_seq ?_;refine y4 ?_;refine yM ?_;refine yM ?_;refine yD ?_;refine wO_val (a_num (by exact rfl) (by exact rfl) (by with_reducible assumption)) ?_;refine y3 ?_
   refine yY ?_;refine wE_skip ?_;refine kS_n ?_;refine wE_seq ?_;refine wE_block ?_;refine y4 ?_;refine yM ?_;refine yM ?_;refine wO_val (a_iaddrS (by exact rfl) (by exact rfl) (by omega)) ?_;refine wO_val (a_loadN (by exact rfl) (by assumption) (by assumption) (by assumption)) ?_
   refine wO_val (a_build (by exact rfl)) ?_
   refine wO_val (a_eqS (b:=s0) (by exact rfl) (by exact rfl) hxs.len rfl) ?_
   rw[decide_eq_false h0]
   refine y3 ?_;refine yX ?_;refine wE_skip ?_;refine kB_n ?_;refine kS_n ?_;refine wE_region ?_;refine yM ?_;refine yinc ?_
   refine yM ?_;refine y3 ?_
   refine⟨l.length-(j+1),by omega,j+1,by omega,rfl,rfl,rfl,rfl,?_⟩
   rw[take_snoc hx];exact any_snoc hno (decide_eq_false h0)
 ·obtain rfl:j=l.length:=by omega
  rw[List.take_length]at hno
  rw[if_neg (by rw[hno];simp)]
  have mlt:numOp .lss (.int .i64 (l.length:Nat)) (.int .i64 (l.length:Nat))=some (.bool false):=m_lssF (by omega)
  refine wE_seq ?_;refine y4 ?_;refine yM ?_;refine yM ?_;refine yD ?_;refine wO_val (a_num (by exact rfl) (by exact rfl) (by with_reducible assumption)) ?_;refine y3 ?_
  refine yX ?_;refine wE_exit ?_;refine kS_e ?_;refine kS_e ?_;refine kB_e ?_;refine kS_n ?_;refine y4 ?_;refine yM ?_;refine y3 ?_;refine wE_ret ?_
  exact endP_ret hr.log rfl rfl
theorem fill_sv{h:Heap}{e:Env}{x:Operand}{s:List Nat}(hs:IsS s)(hx:ev h e x=some (sv s)):fillA h e (lrow 1 (lrep 8 (.int .u64 0))) [(0,8,x)]=some (us s):=by
 have e1:cellsOf (sv s)=us s:=by show(us s).toArray.toList=_;simp
 have h0:lrow 1 (lrep 8 (.int .u64 0))=us s0:=rfl
 have e2:lputs (us s0) 0 (us s)=us s:=by
  rw[lputs_mid (by rw[us_length,us_length,hs.len];decide),us_length,hs.len,List.take_zero]
  simp[us,s0]
 have e3:llen (us s)=8:=by rw[llen_eq,us_length,hs.len]
 rw[h0]
 simp only[fillA,hx,e1,e2,e3];rfl
structure FnsRS (T:Nat→Option AFunc):Prop where
 rf:FnsRF T
 f31:T 31=some f31
 f49:T 49=some f49
 f93:T 93=some f93
theorem wood31(F:FnsRS T){h:Heap}(hr:Rdy h){w:List Nat×List Nat}(hw:IsW w):Pu T 31 [wV w] h (.int .i64 (if sIn w.1 w.2 then 0 else 1)):=by
 have hp:=F.rf.tr.cr.hr.p
 refine .of hp F.f31 hr rfl ?_
 have hwc:cellsOf (wV w)=wL w:=by show(wL w).toArray.toList=_;simp
 have g0:(h.push (.cells (cellsOf (wV w)) true 1)).get h.next=some (.cells (wL w) true 1):=by rw[hwc];exact z3 h _
 have W:WF (h.push (.cells (cellsOf (wV w)) true 1)):=hr.wf.push _
 have hL:(h.push (.cells (cellsOf (wV w)) true 1)).log=[]:=hr.log
 refine y4 ?_;refine yB ?_;refine yM ?_;refine y3 ?_
 generalize(h.push (.cells (cellsOf (wV w)) true 1))=H at*
 have C:=rin52 hp F.rf.f52 F.rf.f140 (h:={H with log:=[]}) (.of W) hw.a hw.b
 have wa:=wL_a hw
 have wb:=wL_b hw
 have wka:=us_llen hw.a.len
 have wkb:=us_llen hw.b.len
 cases hin:sIn w.1 w.2 with
 |true=>
  rw[hin]at C
  rw[if_pos rfl]
  refine wE_seq ?_;refine y4 ?_;refine yF ?_;refine wO_val (a_loadN (by exact rfl) (by assumption) (by assumption) (by assumption)) ?_;refine yF ?_;refine wO_val (a_loadN (by exact rfl) (by assumption) (by assumption) (by assumption)) ?_
  refine yC ?_
  refine FW.pu C ?_
  refine yA ?_;refine y3 ?_;refine yX ?_;refine wE_skip ?_;refine kS_n ?_;refine y4 ?_;refine yM ?_;refine y3 ?_;refine wE_ret ?_
  exact endP_ret hL rfl rfl
 |false=>
  rw[hin]at C
  rw[if_neg (by simp)]
  refine wE_seq ?_;refine y4 ?_;refine yF ?_;refine wO_val (a_loadN (by exact rfl) (by assumption) (by assumption) (by assumption)) ?_;refine yF ?_;refine wO_val (a_loadN (by exact rfl) (by assumption) (by assumption) (by assumption)) ?_
  refine yC ?_
  refine FW.pu C ?_
  refine yA ?_;refine y3 ?_;refine yY ?_;refine y4 ?_;refine yM ?_;refine y3 ?_;refine wE_ret ?_;refine kS_r ?_
  exact endP_ret hL rfl rfl
set_option maxHeartbeats 8000000 in
theorem rserves49(F:FnsRS T){h:Heap}(hr:Rdy h){w:List Nat×List Nat}(hw:IsW w){o:List Nat}(ho:IsS o):Pu T 49 [wV w,sv o] h (svV (svR w o)):=by
 have hp:=F.rf.tr.cr.hr.p
 refine .of hp F.f49 hr rfl ?_
 have hwc:cellsOf (wV w)=wL w:=by show(wL w).toArray.toList=_;simp
 have g0:((h.push (.cells (cellsOf (wV w)) true 1)).push (.cells (cellsOf (sv o)) true 1)).get h.next=some (.cells (wL w) true 1):=by rw[hwc];exact(z4 (Nat.lt_succ_self _)).trans (z3 h _)
 have g1:((h.push (.cells (cellsOf (wV w)) true 1)).push (.cells (cellsOf (sv o)) true 1)).get (h.next+1)=some (.cells (us o) true 1):=z3 _ _
 have n0:((h.push (.cells (cellsOf (wV w)) true 1)).push (.cells (cellsOf (sv o)) true 1)).next=h.next+2:=rfl
 have x0:Ext h ((h.push (.cells (cellsOf (wV w)) true 1)).push (.cells (cellsOf (sv o)) true 1)):=((Ext.refl h).push _).push _
 refine y4 ?_;refine yB ?_;refine yB ?_;refine yM ?_;refine yM ?_;refine y3 ?_
 generalize((h.push (.cells (cellsOf (wV w)) true 1)).push (.cells (cellsOf (sv o)) true 1))=H at*
 have W:=x0.wf hr.wf
 have hL:=x0.log.trans hr.log
 have wk:=wL_all hw
 have wkl:=wL_llen hw
 have wa:=wL_a hw
 have wb:=wL_b hw
 have wka:=us_llen hw.a.len
 have wkb:=us_llen hw.b.len
 have k8:=us_llen ho.len
 have k9:=us_take8 ho.len
 have C1:=wood31 F (h:={H with log:=[]}) (.of W) hw
 unfold svR
 cases hin:sIn w.1 w.2 with
 |false=>
  rw[hin,if_neg (by simp)]at C1
  rw[if_pos (.inl rfl)]
  refine y4 ?_;refine wO_val (a_loadN (by exact rfl) (by assumption) (by assumption) (by assumption)) ?_
  refine yC ?_
  refine FW.pu C1 ?_
  refine yM ?_;refine y3 ?_;refine wE_seq ?_;refine y4 ?_;refine yM ?_;refine yf ?_;refine y3 ?_;refine yX ?_;refine wE_skip ?_;refine kS_n ?_;refine wE_seq ?_;refine y4 ?_;refine yM ?_;refine yt ?_;refine y3 ?_;refine yY ?_;refine y4 ?_;refine yM ?_;refine yM ?_;refine yM ?_;refine y3 ?_;refine wE_ret ?_;refine kS_r ?_
  exact endP_ret hL rfl rfl
 |true=>
  rw[hin,if_pos rfl]at C1
  have hs1:ssL [o]=us o:=by simp[ssL]
  have s2:SsQ {H.push (.cells (us o) true 8)with log:=[]} (.slice (some ⟨H.next,0,none⟩) 1 1) [o]:=by
   refine⟨.mem ⟨Nat.lt_succ_self _,⟨_,_,_,z3 _ _,?_⟩,?_⟩ (Nat.le_refl _),fun s hs=>by rw[List.mem_singleton.1 hs];exact ho⟩
   ·rw[hs1];exact k9
   ·rw[hs1,us_length,ho.len]
  have C2:=orders93 hp F.f93 (h:={H.push (.cells (us o) true 8)with log:=[]}) (.of (W.push _)) s2 (by decide)
  have x1:Ext H (H.push (.cells (us o) true 8)):=(Ext.refl H).push _
  have n1:(H.push (.cells (us o) true 8)).next=H.next+1:=rfl
  unfold ordE at C2
  by_cases hz:o=s0
  ·rw[if_pos (.inr hz)]
   rw[if_neg (by simp),if_pos (by simp[hz])]at C2
   refine y4 ?_;refine wO_val (a_loadN (by exact rfl) (by assumption) (by assumption) (by assumption)) ?_
   refine yC ?_
   refine FW.pu C1 ?_
   clear C1
   refine yM ?_;refine y3 ?_;refine wE_seq ?_;refine y4 ?_;refine yM ?_;refine yt ?_;refine y3 ?_;refine yY ?_;refine wE_region ?_;refine wO_val (a_loadN (by exact rfl) (by assumption) (by assumption) (by assumption)) ?_
   refine wO_val (a_bslice (fill_sv ho (by exact rfl)) (show llen (lrep 8 (Value.int IntKind.u64 0))=8 from rfl)) ?_
   skip
   refine yC ?_
   refine FW.pu C2 ?_
   refine yM ?_;refine y3 ?_;refine wE_seq ?_;refine y4 ?_;refine yM ?_;refine yt ?_;refine y3 ?_;refine yY ?_;refine y4 ?_;refine yM ?_;refine yM ?_;refine yM ?_;refine y3 ?_;refine wE_ret ?_;refine kS_r ?_
   exact endP_ret hL rfl rfl
  ·rw[if_neg (fun q=>q.elim (by simp) hz)]
   rw[if_neg (by simp),if_neg (by simp[hz])]at C2
   refine y4 ?_;refine wO_val (a_loadN (by exact rfl) (by assumption) (by assumption) (by assumption)) ?_
   refine yC ?_
   refine FW.pu C1 ?_
   clear C1
   refine yM ?_;refine y3 ?_;refine wE_seq ?_;refine y4 ?_;refine yM ?_;refine yt ?_;refine y3 ?_;refine yY ?_;refine wE_region ?_;refine wO_val (a_loadN (by exact rfl) (by assumption) (by assumption) (by assumption)) ?_
   refine wO_val (a_bslice (fill_sv ho (by exact rfl)) (show llen (lrep 8 (Value.int IntKind.u64 0))=8 from rfl)) ?_
   skip
   generalize(H.push (.cells (us o) true 8))=H1 at*
   refine yC ?_
   refine FW.pu C2 ?_
   clear C2 s2
   have ey1':=x0.trans x1
   have W1:=ey1'.wf hr.wf
   have g01:=(x1.old _ (by omega)).trans g0
   have g11:=(x1.old _ (by omega)).trans g1
   have hL1:=x1.log.trans hL
   have C3:=rfits51 F.rf (h:={H1 with log:=[]}) (.of W1) hw.a ho
   clear g0 g1
   refine yM ?_;refine y3 ?_;refine wE_seq ?_;refine y4 ?_;refine yM ?_;refine yf ?_;refine y3 ?_;refine yX ?_;refine wE_skip ?_;refine kS_n ?_;refine y4 ?_;refine yF ?_;refine wO_val (a_loadN (by exact rfl) (by assumption) (by assumption) (by assumption)) ?_
   refine wO_val (a_loadN (by exact rfl) (by assumption) (by assumption) (by assumption)) ?_
   refine yC ?_
   refine FW.al C3 (fun v h' m q=>q) ?_
   rintro _ H2 x2 ⟨t,x,y,z,rfl⟩
   clear C3
   have n2:=x2.next
   have ey2':=ey1'.trans x2
   have g02:=(x2.old _ (by omega)).trans g01
   have g12:=(x2.old _ (by omega)).trans g11
   have hL2:=x2.log.trans hL1
   have x3:=ext_pw (h:=H2) (base:=h.next) (by omega) (.cells [I.O,I.O,I.O,I.O] true 1) (.cells (lputs [I.O,I.O,I.O,I.O] 0 (cellsOf (moV t x y z))) true 1)
   have n3:((H2.push (.cells [I.O,I.O,I.O,I.O] true 1)).wr h.next H2.next (.cells (lputs [I.O,I.O,I.O,I.O] 0 (cellsOf (moV t x y z))) true 1)).next=H2.next+1:=rfl
   clear g01 g11
   refine yM ?_;refine yE ?_;refine yE ?_;refine wO_val (a_new) ?_
   refine yS ?_;refine yM ?_;refine y3 ?_
   generalize((H2.push (.cells [I.O,I.O,I.O,I.O] true 1)).wr h.next H2.next (.cells (lputs [I.O,I.O,I.O,I.O] 0 (cellsOf (moV t x y z))) true 1))=H3 at*
   have ey3':=ey2'.trans x3
   have W3:=ey3'.wf hr.wf
   have hL3:=x3.log.trans hL2
   have g03:=(x3.old _ (by omega)).trans g02
   have g13:=(x3.old _ (by omega)).trans g12
   have C4:=rfits51 F.rf (h:={H3 with log:=[]}) (.of W3) hw.b ho
   clear g02 g12
   refine y4 ?_;refine yF ?_;refine wO_val (a_loadN (by exact rfl) (by assumption) (by assumption) (by assumption)) ?_;refine wO_val (a_loadN (by exact rfl) (by assumption) (by assumption) (by assumption)) ?_
   refine yC ?_
   refine FW.al C4 (fun v h' m q=>q) ?_
   rintro _ H4 x4 ⟨t',x',y',z',rfl⟩
   clear C4
   have n4:=x4.next
   have hL4:=x4.log.trans hL3
   cases hf1:fitB w.1 o with
   |true=>
    rw[if_pos rfl]
    refine yM ?_;refine yE ?_;refine yE ?_;refine wO_val (a_new) ?_
    refine yS ?_;refine yM ?_;refine y3 ?_;refine wE_seq ?_;refine y4 ?_;refine yM ?_;refine y3 ?_;refine yY ?_;refine y4 ?_;refine yM ?_;refine yM ?_;refine y3 ?_;refine wE_ret ?_;refine kS_r ?_
    exact endP_ret ((Heap.log_wr_new (by omega)).trans hL4) rfl rfl
   |false=>
    rw[if_neg (by simp)]
    cases hf2:fitB w.2 o with
    |true=>
     rw[if_pos rfl]
     refine yM ?_;refine yE ?_;refine yE ?_;refine wO_val (a_new) ?_
     refine yS ?_;refine yM ?_;refine y3 ?_;refine wE_seq ?_;refine y4 ?_;refine yM ?_;refine y3 ?_;refine yX ?_
     refine wE_skip ?_;refine kS_n ?_;refine wE_seq ?_;refine y4 ?_;refine yM ?_;refine y3 ?_;refine yY ?_;refine y4 ?_;refine yM ?_
     refine yM ?_;refine y3 ?_;refine wE_ret ?_;refine kS_r ?_
     exact endP_ret ((Heap.log_wr_new (by omega)).trans hL4) rfl rfl
    |false=>
     rw[if_neg (by simp)]
     refine yM ?_;refine yE ?_;refine yE ?_;refine wO_val (a_new) ?_
     refine yS ?_;refine yM ?_;refine y3 ?_;refine wE_seq ?_;refine y4 ?_;refine yM ?_;refine y3 ?_;refine yX ?_
     refine wE_skip ?_;refine kS_n ?_;refine wE_seq ?_;refine y4 ?_;refine yM ?_;refine y3 ?_;refine yX ?_;refine wE_skip ?_;refine kS_n ?_;refine y4 ?_
     refine yM ?_;refine yM ?_;refine y3 ?_;refine wE_ret ?_
     exact endP_ret ((Heap.log_wr_new (by omega)).trans hL4) rfl rfl
end Go.A.Pk
end
section
set_option maxRecDepth 100000
namespace Go.A.Pk
variable {T:Nat→Option AFunc}
def truR(w:List Nat×List Nat)(o:List Nat)(q:Bool):List Nat×Bool×Int:=
 if(svR w o).2≠0 then(s0,false,(svR w o).2)else if q=true∧(svR w o).1≠2 then(w.2,true,0)else if q=false∧(svR w o).1≠1 then(w.1,true,0)else(s0,false,0)
def truV(p:List Nat×Bool×Int):Value:= .tuple #[sv p.1, .bool p.2.1, .int .i64 p.2.2]
theorem noRef_truV(p:List Nat×Bool×Int):noRef (truV p)=true:=by
 have q:flat (sv p.1)=true:=us_scal p.1
 show flatL [sv p.1, .bool p.2.1, .int .i64 p.2.2]=true
 simp only[flatL,q,cond_true];rfl
theorem sv_cases(w:List Nat×List Nat)(o:List Nat):(svR w o=(0,1))∨(sIn w.1 w.2=true∧o≠s0∧svR w o=(1,0)∧fitB w.1 o=true)∨(sIn w.1 w.2=true∧o≠s0∧svR w o=(3,0)∧fitB w.1 o=false∧fitB w.2 o=true)∨(sIn w.1 w.2=true∧o≠s0∧svR w o=(2,0)∧fitB w.1 o=false∧fitB w.2 o=false):=by
 unfold svR
 by_cases h:sIn w.1 w.2=false∨o=s0
 ·left;rw[if_pos h]
 ·right
  rw[if_neg h]
  have h1:sIn w.1 w.2=true:=by
   cases hq:sIn w.1 w.2 with
   |true=>rfl
   |false=>exact absurd (.inl hq) h
  have h2:o≠s0:=fun q=>h (.inr q)
  cases hf:fitB w.1 o with
  |true=>left;exact⟨h1,h2,if_pos rfl,rfl⟩
  |false=>
   right
   rw[if_neg (by simp)]
   cases hf2:fitB w.2 o with
   |true=>left;exact⟨h1,h2,if_pos rfl,rfl,rfl⟩
   |false=>right;exact⟨h1,h2,if_neg (by simp),rfl,rfl⟩
structure FnsTh (T:Nat→Option AFunc):Prop where
 sv:FnsSv T
 f50:T 50=some f50
set_option maxHeartbeats 8000000 in
theorem truth50(F:FnsTh T){h:Heap}(hr:Rdy h)(hg:Tab h)(h2:2<h.next){w:List Nat×List Nat}(hw:IsW w){o:List Nat}(ho:IsS o)(q:Bool):Pu T 50 [wV w,sv o, .bool q] h (truV (truR w o q)):=by
 have hp:=F.sv.fi.ft.li.p
 refine .of hp F.f50 hr (noRef_truV _) ?_
 have hwc:cellsOf (wV w)=wL w:=by show(wL w).toArray.toList=_;simp
 have g0:(((h.push (.cells (cellsOf (wV w)) true 1)).push (.cells (cellsOf (sv o)) true 1)).push (.cells (lrep 8 (.int .u64 0)) true 1)).get h.next=some (.cells (wL w) true 1):=by
  rw[hwc,z4 (by show h.next<h.next+2;omega),z4 (Nat.lt_succ_self _)];exact z3 h _
 have g1:(((h.push (.cells (cellsOf (wV w)) true 1)).push (.cells (cellsOf (sv o)) true 1)).push (.cells (lrep 8 (.int .u64 0)) true 1)).get (h.next+1)=some (.cells (us o) true 1):=by(simp(disch:=first|omega|(simp only[z1,z2];omega)|(simp only[z1,z2];done)|fail)only[z8,z4,z5,z9,z7,z1,z2,g0];exact rfl)
 have g2:(((h.push (.cells (cellsOf (wV w)) true 1)).push (.cells (cellsOf (sv o)) true 1)).push (.cells (lrep 8 (.int .u64 0)) true 1)).get (h.next+2)=some (.cells (us s0) true 1):=by(simp(disch:=first|omega|(simp only[z1,z2];omega)|(simp only[z1,z2];done)|fail)only[z8,z4,z5,z9,z7,z1,z2,g0,g1];exact rfl)
 have n0:(((h.push (.cells (cellsOf (wV w)) true 1)).push (.cells (cellsOf (sv o)) true 1)).push (.cells (lrep 8 (.int .u64 0)) true 1)).next=h.next+3:=rfl
 have x0:Ext h (((h.push (.cells (cellsOf (wV w)) true 1)).push (.cells (cellsOf (sv o)) true 1)).push (.cells (lrep 8 (.int .u64 0)) true 1)):=(((Ext.refl h).push _).push _).push _
 refine y4 ?_;refine yB ?_;refine yB ?_;refine wO_val (a_new) ?_;refine yM ?_;refine yM ?_;refine y3 ?_
 generalize(((h.push (.cells (cellsOf (wV w)) true 1)).push (.cells (cellsOf (sv o)) true 1)).push (.cells (lrep 8 (.int .u64 0)) true 1))=H at*
 have W:=x0.wf hr.wf
 have hL:=x0.log.trans hr.log
 have wk:=wL_all hw
 have wkl:=wL_llen hw
 have wa:=wL_a hw
 have wb:=wL_b hw
 have wka:=us_llen hw.a.len
 have wkb:=us_llen hw.b.len
 have k8:=us_llen ho.len
 have k9:=us_take8 ho.len
 have kA:=us_take8 hw.a.len
 have kB:=us_take8 hw.b.len
 have klA:=hw.a.len
 have klB:=hw.b.len
 have C:=serves33 F.sv (h:={H with log:=[]}) (.of W) (show Tab H from hg.ext x0 h2) (by show 2<H.next;omega) hw ho
 have ck0:ltake 8 (ldrop 0 (us s0))=us s0:=rfl
 have hne:∀a b:Nat,a<10→b<10→numOp .neq (.int .u8 ((a:Nat):Int)) (.int .u8 ((b:Nat):Int))=some (.bool (decide (a≠b))):=fun a b _ _=>by
  rw[m_neq]
  by_cases e:a=b
  ·subst e;simp
  ·rw[decide_eq_true e]
   have:((a:Nat):Int)≠((b:Nat):Int):=by omega
   simp only[bne,beq_eq_false_iff_ne.2 this];rfl
 unfold truR svV at*
 have hc:=sv_cases w o
 generalize svR w o=p at*
 rcases hc with rfl|⟨_,_,rfl,_⟩|⟨_,_,rfl,_⟩|⟨_,_,rfl,_⟩
 ·have m1:numOp .neq (.int .i64 1) (.int .i64 0)=some (.bool true):=rfl
  rw[if_pos (by decide)]
  refine y4 ?_;refine wO_val (a_loadN (by exact rfl) (by assumption) (by assumption) (by assumption)) ?_;refine wO_val (a_loadN (by exact rfl) (by assumption) (by assumption) (by assumption)) ?_
  refine yC ?_
  refine FW.pu C ?_
  refine yM ?_;refine yE ?_;refine yE ?_;refine yM ?_;refine yM ?_;refine y3 ?_;refine wE_seq ?_
  refine wE_block ?_;refine y4 ?_;refine yM ?_;refine wO_val (a_num (by exact rfl) (by exact rfl) (by with_reducible assumption)) ?_;refine yM ?_;refine y3 ?_;refine yY ?_
  refine y4 ?_;refine wO_val (a_build (by exact rfl)) ?_;refine yM ?_;refine yS ?_;refine yM ?_;refine yM ?_;refine y3 ?_;refine wE_ret ?_;refine kB_r ?_;refine kS_r ?_
  refine endP_ret ?_ (res_cells (own:=true) (s:=1) rfl ?_ ck0 rfl rfl) rfl
  ·rw[Heap.log_wr_new (by show h.next≤h.next+2;omega)];exact hL
  ·(simp(disch:=first|omega|(simp only[z1,z2];omega))only[z3,z4,z5,z6,z7,z1,z2,g0,g1,g2];exact rfl)
 ·have m1:numOp .neq (.int .i64 0) (.int .i64 0)=some (.bool false):=rfl
  rw[if_neg (by decide)]
  dsimp only at C⊢
  have q2:numOp .neq (.int .u8 ((1:Nat):Int)) (.int .u8 2)=some (.bool true):=hne 1 2 (by omega) (by omega)
  have q1:numOp .neq (.int .u8 ((1:Nat):Int)) (.int .u8 1)=some (.bool false):=hne 1 1 (by omega) (by omega)
  cases q with
  |true=>
   rw[if_pos (by decide)]
   refine y4 ?_;refine wO_val (a_loadN (by exact rfl) (by assumption) (by assumption) (by assumption)) ?_;refine wO_val (a_loadN (by exact rfl) (by assumption) (by assumption) (by assumption)) ?_
   refine yC ?_
   refine FW.pu C ?_
   refine yM ?_;refine yE ?_;refine yE ?_;refine yM ?_;refine yM ?_;refine y3 ?_;refine wE_seq ?_
   refine wE_block ?_;refine y4 ?_;refine yM ?_;refine wO_val (a_num (by exact rfl) (by exact rfl) (by with_reducible assumption)) ?_;refine yM ?_;refine y3 ?_;refine yX ?_
   refine y4 ?_;refine yM ?_;refine yM ?_;refine yO ?_;refine yM ?_;refine yO ?_;refine wO_val (a_num (by exact rfl) (by exact rfl) (by with_reducible assumption)) ?_;refine yT ?_
   refine yM ?_;refine y3 ?_;refine yY ?_;refine y4 ?_;refine yF ?_;refine wO_val (a_loadN (by exact rfl) (by assumption) (by assumption) (by assumption)) ?_
   refine wO_val (a_storeAll (by exact rfl) (by exact rfl) (by assumption) (by(simp only[us_length];assumption)) (by exact rfl) (by exact us_ones _)) ?_;refine yM ?_;refine yM ?_;refine y3 ?_;refine wE_ret ?_
   refine kB_r ?_;refine kS_r ?_
   refine endP_ret ?_ (res_cells (own:=true) (s:=1) rfl ?_ kB wkb rfl) rfl
   ·rw[Heap.log_wr_new (by show h.next≤h.next+2;omega)];exact hL
   ·(simp(disch:=first|omega|(simp only[z1,z2];omega))only[z3,z4,z5,z6,z7,z1,z2,g0,g1,g2];done)
  |false=>
   rw[if_neg (by decide),if_neg (by decide)]
   refine y4 ?_;refine wO_val (a_loadN (by exact rfl) (by assumption) (by assumption) (by assumption)) ?_;refine wO_val (a_loadN (by exact rfl) (by assumption) (by assumption) (by assumption)) ?_
   refine yC ?_
   refine FW.pu C ?_
   refine yM ?_;refine yE ?_;refine yE ?_;refine yM ?_;refine yM ?_;refine y3 ?_;refine wE_seq ?_
   refine wE_block ?_;refine y4 ?_;refine yM ?_;refine wO_val (a_num (by exact rfl) (by exact rfl) (by with_reducible assumption)) ?_;refine yM ?_;refine y3 ?_;refine yX ?_
   refine y4 ?_;refine yM ?_;refine yM ?_;refine yP ?_;refine yP ?_;refine yU ?_;refine yM ?_;refine y3 ?_;refine yX ?_;refine y4 ?_;refine yM ?_;refine yA ?_;refine yM ?_;refine yO ?_;refine yM ?_
   refine yO ?_;refine wO_val (a_num (by exact rfl) (by exact rfl) (by with_reducible assumption)) ?_;refine yT ?_;refine yM ?_;refine y3 ?_;refine yX ?_
   refine wE_skip ?_;refine kB_n ?_;refine kS_n ?_;refine y4 ?_;refine wO_val (a_build (by exact rfl)) ?_;refine yS ?_;refine yM ?_;refine yM ?_;refine y3 ?_;refine wE_ret ?_
   refine endP_ret ?_ (res_cells (own:=true) (s:=1) rfl ?_ ck0 rfl rfl) rfl
   ·rw[Heap.log_wr_new (by show h.next≤h.next+2;omega)];exact hL
   ·(simp(disch:=first|omega|(simp only[z1,z2];omega))only[z3,z4,z5,z6,z7,z1,z2,g0,g1,g2];exact rfl)
 ·have m1:numOp .neq (.int .i64 0) (.int .i64 0)=some (.bool false):=rfl
  rw[if_neg (by decide)]
  dsimp only at C⊢
  have q2:numOp .neq (.int .u8 ((3:Nat):Int)) (.int .u8 2)=some (.bool true):=hne 3 2 (by omega) (by omega)
  have q1:numOp .neq (.int .u8 ((3:Nat):Int)) (.int .u8 1)=some (.bool true):=hne 3 1 (by omega) (by omega)
  cases q with
  |true=>
   rw[if_pos (by decide)]
   refine y4 ?_;refine wO_val (a_loadN (by exact rfl) (by assumption) (by assumption) (by assumption)) ?_;refine wO_val (a_loadN (by exact rfl) (by assumption) (by assumption) (by assumption)) ?_
   refine yC ?_
   refine FW.pu C ?_
   refine yM ?_;refine yE ?_;refine yE ?_;refine yM ?_;refine yM ?_;refine y3 ?_;refine wE_seq ?_
   refine wE_block ?_;refine y4 ?_;refine yM ?_;refine wO_val (a_num (by exact rfl) (by exact rfl) (by with_reducible assumption)) ?_;refine yM ?_;refine y3 ?_;refine yX ?_
   refine y4 ?_;refine yM ?_;refine yM ?_;refine yO ?_;refine yM ?_;refine yO ?_;refine wO_val (a_num (by exact rfl) (by exact rfl) (by with_reducible assumption)) ?_;refine yT ?_
   refine yM ?_;refine y3 ?_;refine yY ?_;refine y4 ?_;refine yF ?_;refine wO_val (a_loadN (by exact rfl) (by assumption) (by assumption) (by assumption)) ?_
   refine wO_val (a_storeAll (by exact rfl) (by exact rfl) (by assumption) (by(simp only[us_length];assumption)) (by exact rfl) (by exact us_ones _)) ?_;refine yM ?_;refine yM ?_;refine y3 ?_;refine wE_ret ?_
   refine kB_r ?_;refine kS_r ?_
   refine endP_ret ?_ (res_cells (own:=true) (s:=1) rfl ?_ kB wkb rfl) rfl
   ·rw[Heap.log_wr_new (by show h.next≤h.next+2;omega)];exact hL
   ·(simp(disch:=first|omega|(simp only[z1,z2];omega))only[z3,z4,z5,z6,z7,z1,z2,g0,g1,g2];done)
  |false=>
   rw[if_neg (by decide),if_pos (by decide)]
   refine y4 ?_;refine wO_val (a_loadN (by exact rfl) (by assumption) (by assumption) (by assumption)) ?_;refine wO_val (a_loadN (by exact rfl) (by assumption) (by assumption) (by assumption)) ?_
   refine yC ?_
   refine FW.pu C ?_
   refine yM ?_;refine yE ?_;refine yE ?_;refine yM ?_;refine yM ?_;refine y3 ?_;refine wE_seq ?_
   refine wE_block ?_;refine y4 ?_;refine yM ?_;refine wO_val (a_num (by exact rfl) (by exact rfl) (by with_reducible assumption)) ?_;refine yM ?_;refine y3 ?_;refine yX ?_
   refine y4 ?_;refine yM ?_;refine yM ?_;refine yP ?_;refine yP ?_;refine yU ?_;refine yM ?_;refine y3 ?_;refine yX ?_;refine y4 ?_;refine yM ?_;refine yA ?_;refine yM ?_;refine yO ?_;refine yM ?_
   refine yO ?_;refine wO_val (a_num (by exact rfl) (by exact rfl) (by with_reducible assumption)) ?_;refine yT ?_;refine yM ?_;refine y3 ?_;refine yY ?_
   refine y4 ?_;refine yF ?_;refine wO_val (a_loadN (by exact rfl) (by assumption) (by assumption) (by assumption)) ?_;refine wO_val (a_storeAll (by exact rfl) (by exact rfl) (by assumption) (by(simp only[us_length];assumption)) (by exact rfl) (by exact us_ones _)) ?_;refine yM ?_
   refine yM ?_;refine y3 ?_;refine wE_ret ?_;refine kB_r ?_;refine kS_r ?_
   refine endP_ret ?_ (res_cells (own:=true) (s:=1) rfl ?_ kA wka rfl) rfl
   ·rw[Heap.log_wr_new (by show h.next≤h.next+2;omega)];exact hL
   ·(simp(disch:=first|omega|(simp only[z1,z2];omega))only[z3,z4,z5,z6,z7,z1,z2,g0,g1,g2];done)
 ·have m1:numOp .neq (.int .i64 0) (.int .i64 0)=some (.bool false):=rfl
  rw[if_neg (by decide)]
  dsimp only at C⊢
  have q2:numOp .neq (.int .u8 ((2:Nat):Int)) (.int .u8 2)=some (.bool false):=hne 2 2 (by omega) (by omega)
  have q1:numOp .neq (.int .u8 ((2:Nat):Int)) (.int .u8 1)=some (.bool true):=hne 2 1 (by omega) (by omega)
  cases q with
  |true=>
   rw[if_neg (by decide),if_neg (by decide)]
   refine y4 ?_;refine wO_val (a_loadN (by exact rfl) (by assumption) (by assumption) (by assumption)) ?_;refine wO_val (a_loadN (by exact rfl) (by assumption) (by assumption) (by assumption)) ?_
   refine yC ?_
   refine FW.pu C ?_
   refine yM ?_;refine yE ?_;refine yE ?_;refine yM ?_;refine yM ?_;refine y3 ?_;refine wE_seq ?_
   refine wE_block ?_;refine y4 ?_;refine yM ?_;refine wO_val (a_num (by exact rfl) (by exact rfl) (by with_reducible assumption)) ?_;refine yM ?_;refine y3 ?_;refine yX ?_
   refine y4 ?_;refine yM ?_;refine yM ?_;refine yO ?_;refine yM ?_;refine yO ?_;refine wO_val (a_num (by exact rfl) (by exact rfl) (by with_reducible assumption)) ?_;refine yT ?_
   refine yM ?_;refine y3 ?_;refine yX ?_;refine y4 ?_;refine yM ?_;refine yA ?_;refine yM ?_
   refine yP ?_;refine yP ?_;refine yU ?_;refine yM ?_;refine y3 ?_;refine yX ?_;refine wE_skip ?_;refine kB_n ?_
   refine kS_n ?_;refine y4 ?_;refine wO_val (a_build (by exact rfl)) ?_;refine yS ?_;refine yM ?_;refine yM ?_;refine y3 ?_;refine wE_ret ?_
   refine endP_ret ?_ (res_cells (own:=true) (s:=1) rfl ?_ ck0 rfl rfl) rfl
   ·rw[Heap.log_wr_new (by show h.next≤h.next+2;omega)];exact hL
   ·(simp(disch:=first|omega|(simp only[z1,z2];omega))only[z3,z4,z5,z6,z7,z1,z2,g0,g1,g2];exact rfl)
  |false=>
   rw[if_neg (by decide),if_pos (by decide)]
   refine y4 ?_;refine wO_val (a_loadN (by exact rfl) (by assumption) (by assumption) (by assumption)) ?_;refine wO_val (a_loadN (by exact rfl) (by assumption) (by assumption) (by assumption)) ?_
   refine yC ?_
   refine FW.pu C ?_
   refine yM ?_;refine yE ?_;refine yE ?_;refine yM ?_;refine yM ?_;refine y3 ?_;refine wE_seq ?_
   refine wE_block ?_;refine y4 ?_;refine yM ?_;refine wO_val (a_num (by exact rfl) (by exact rfl) (by with_reducible assumption)) ?_;refine yM ?_;refine y3 ?_;refine yX ?_
   refine y4 ?_;refine yM ?_;refine yM ?_;refine yP ?_;refine yP ?_;refine yU ?_;refine yM ?_;refine y3 ?_;refine yX ?_;refine y4 ?_;refine yM ?_;refine yA ?_;refine yM ?_;refine yO ?_;refine yM ?_
   refine yO ?_;refine wO_val (a_num (by exact rfl) (by exact rfl) (by with_reducible assumption)) ?_;refine yT ?_;refine yM ?_;refine y3 ?_;refine yY ?_
   refine y4 ?_;refine yF ?_;refine wO_val (a_loadN (by exact rfl) (by assumption) (by assumption) (by assumption)) ?_;refine wO_val (a_storeAll (by exact rfl) (by exact rfl) (by assumption) (by(simp only[us_length];assumption)) (by exact rfl) (by exact us_ones _)) ?_;refine yM ?_
   refine yM ?_;refine y3 ?_;refine wE_ret ?_;refine kB_r ?_;refine kS_r ?_
   refine endP_ret ?_ (res_cells (own:=true) (s:=1) rfl ?_ kA wka rfl) rfl
   ·rw[Heap.log_wr_new (by show h.next≤h.next+2;omega)];exact hL
   ·(simp(disch:=first|omega|(simp only[z1,z2];omega))only[z3,z4,z5,z6,z7,z1,z2,g0,g1,g2];done)
end Go.A.Pk
end
section
set_option maxRecDepth 100000
namespace Go.A.Pk
variable {T:Nat→Option AFunc}
structure FnsLA (T:Nat→Option AFunc):Prop where
 th:FnsTh T
 rs:FnsRS T
 f10:T 10=some f10
 f21:T 21=some (.prim pSd)
theorem sIn_refl{a:List Nat}(ha:IsS a):sIn a a=true:=(sIn_iff ha ha).2 fun _ h=>h
set_option maxHeartbeats 32000000 in
theorem law10(F:FnsLA T){h:Heap}(hr:Rdy h)(hg:Tab h)(h2:2<h.next){w:List Nat×List Nat}(hw:IsW w){o:List Nat}(ho:IsS o)(q:Bool):Pu T 10 [wV w,sv o, .bool q] h (.bool true):=by
 have hp:=F.th.sv.fi.ft.li.p
 refine .of hp F.f10 hr rfl ?_
 have hwc:cellsOf (wV w)=wL w:=by show(wL w).toArray.toList=_;simp
 have g0:((h.push (.cells (cellsOf (wV w)) true 1)).push (.cells (cellsOf (sv o)) true 1)).get h.next=some (.cells (wL w) true 1):=by rw[hwc];exact(z4 (Nat.lt_succ_self _)).trans (z3 h _)
 have g1:((h.push (.cells (cellsOf (wV w)) true 1)).push (.cells (cellsOf (sv o)) true 1)).get (h.next+1)=some (.cells (us o) true 1):=z3 _ _
 have n0:((h.push (.cells (cellsOf (wV w)) true 1)).push (.cells (cellsOf (sv o)) true 1)).next=h.next+2:=rfl
 have x0:Ext h ((h.push (.cells (cellsOf (wV w)) true 1)).push (.cells (cellsOf (sv o)) true 1)):=((Ext.refl h).push _).push _
 refine y4 ?_;refine yB ?_;refine yB ?_;refine yM ?_;refine y3 ?_
 generalize((h.push (.cells (cellsOf (wV w)) true 1)).push (.cells (cellsOf (sv o)) true 1))=H at*
 have W:=x0.wf hr.wf
 have hL:=x0.log.trans hr.log
 have wk:=wL_all hw
 have wkl:=wL_llen hw
 have wa:=wL_a hw
 have wb:=wL_b hw
 have wka:=us_llen hw.a.len
 have wkb:=us_llen hw.b.len
 have k8:=us_llen ho.len
 have k9:=us_take8 ho.len
 have hgH:Tab H:=hg.ext x0 h2
 have C1:=serves33 F.th.sv (h:={H with log:=[]}) (.of W) (show Tab H from hgH) (by show 2<H.next;omega) hw ho
 have C2:=rserves49 F.rs (h:={H with log:=[]}) (.of W) hw ho
 have C3:=truth50 F.th (h:={H with log:=[]}) (.of W) (show Tab H from hgH) (by show 2<H.next;omega) hw ho q
 have hc:=sv_cases w o
 have htr:truR w o q=if(svR w o).2≠0 then(s0,false,(svR w o).2)else if q=true∧(svR w o).1≠2 then(w.2,true,0)else if q=false∧(svR w o).1≠1 then(w.1,true,0)else(s0,false,0):=rfl
 generalize truR w o q=tr at*
 generalize svR w o=p at*
 have ny00:numOp .neq (.int .i64 0) (.int .i64 0)=some (.bool false):=rfl
 have ny11:numOp .neq (.int .i64 1) (.int .i64 1)=some (.bool false):=rfl
 have ny10:numOp .neq (.int .i64 1) (.int .i64 0)=some (.bool true):=rfl
 rcases hc with rfl|⟨hin,_,rfl,hf1⟩|⟨hin,_,rfl,hf1,hf2⟩|⟨hin,_,rfl,hf1,hf2⟩
 ·rw[if_pos (by decide)]at htr
  subst htr
  unfold svV at C1 C2
  unfold truV at C3
  dsimp only at C1 C2 C3
  have mq:numOp .neq (.int .u8 ((0:Nat):Int)) (.int .u8 ((0:Nat):Int))=some (.bool false):=rfl
  have hts:IsS s0:=s0_ok
  have xn:=ext_pw (h:=H) (base:=h.next) (by omega) (.cells (lrep 8 (.int .u64 0)) true 1) (.cells (lputs (lrep 8 (.int .u64 0)) 0 (cellsOf (sv s0))) true 1)
  have gn:((H.push (.cells (lrep 8 (.int .u64 0)) true 1)).wr h.next H.next (.cells (lputs (lrep 8 (.int .u64 0)) 0 (cellsOf (sv s0))) true 1)).get H.next=some (.cells (us s0) true 1):=get_pw _ _
  have tk8:=us_llen hts.len
  have tk9:=us_take8 hts.len
  have tl:=hts.len
  have nn:((H.push (.cells (lrep 8 (.int .u64 0)) true 1)).wr h.next H.next (.cells (lputs (lrep 8 (.int .u64 0)) 0 (cellsOf (sv s0))) true 1)).next=H.next+1:=rfl
  refine y4 ?_;refine wO_val (a_loadN (by exact rfl) (by assumption) (by assumption) (by assumption)) ?_;refine wO_val (a_loadN (by exact rfl) (by assumption) (by assumption) (by assumption)) ?_
  refine yC ?_
  refine FW.pu C1 ?_
  clear C1
  refine yM ?_;refine yE ?_;refine yE ?_;refine yM ?_;refine yM ?_;refine y3 ?_;refine y4 ?_;refine wO_val (a_loadN (by exact rfl) (by assumption) (by assumption) (by assumption)) ?_;refine wO_val (a_loadN (by exact rfl) (by assumption) (by assumption) (by assumption)) ?_
  refine yC ?_
  refine FW.pu C2 ?_
  clear C2
  refine yM ?_;refine yE ?_;refine yE ?_;refine yM ?_;refine yM ?_;refine y3 ?_;refine y4 ?_;refine wO_val (a_loadN (by exact rfl) (by assumption) (by assumption) (by assumption)) ?_;refine wO_val (a_loadN (by exact rfl) (by assumption) (by assumption) (by assumption)) ?_;refine yM ?_
  refine yC ?_
  refine FW.pu C3 ?_
  clear C3
  refine yM ?_;refine yE ?_;refine yE ?_;refine yE ?_;refine wO_val (a_new) ?_
  refine yS ?_;refine yM ?_
  refine yM ?_;refine y3 ?_
  generalize((H.push (.cells (lrep 8 (.int .u64 0)) true 1)).wr h.next H.next (.cells (lputs (lrep 8 (.int .u64 0)) 0 (cellsOf (sv s0))) true 1))=H1 at*
  have ey1:=x0.trans xn
  have W1:=ey1.wf hr.wf
  have hL1:=xn.log.trans hL
  have g01:=(xn.old _ (by omega)).trans g0
  have g11:=(xn.old _ (by omega)).trans g1
  have C0:Pu T 21 [] {H1 with log:=[]} (.bool true):=puSd F.f21 (show Tab H1 from hgH.ext xn (by omega))
  clear g0 g1 xn
  refine wE_seq ?_;refine y4 ?_;refine yM ?_;refine yM ?_;refine wO_val (a_num (by exact rfl) (by exact rfl) (by with_reducible assumption)) ?_;refine yM ?_;refine yO ?_;refine yM ?_;refine yO ?_
  refine yM ?_;refine yO ?_;refine wO_val (a_num (by exact rfl) (by exact rfl) (by with_reducible assumption)) ?_;refine yU ?_;refine yM ?_;refine yO ?_;refine yM ?_;refine yO ?_
  refine yM ?_;refine yO ?_;refine wO_val (a_num (by exact rfl) (by exact rfl) (by with_reducible assumption)) ?_;refine yU ?_;refine y3 ?_;refine yX ?_
  refine wE_skip ?_;refine kS_n ?_;refine wE_seq ?_;refine y4 ?_;refine yM ?_;refine wO_val (a_num (by exact rfl) (by exact rfl) (by with_reducible assumption)) ?_;refine y3 ?_;refine yY ?_
  refine y4 ?_
  refine yC ?_
  refine FW.pu C0 ?_
  clear C0
  refine yM ?_;refine yO ?_;refine yM ?_;refine yO ?_;refine yA ?_;refine yT ?_;refine yM ?_;refine yO ?_
  refine yN ?_;refine yO ?_;refine wO_val (a_build (by exact rfl)) ?_;refine yO ?_;refine wO_val (a_agg (by exact rfl) (by exact rfl) (by exact rfl)) ?_;refine yT ?_;refine yM ?_;refine y3 ?_;refine wE_ret ?_;refine kS_r ?_
  exact endP_ret hL1 rfl rfl
 ·rw[if_neg (by decide)]at htr
  dsimp only at htr
  unfold svV at C1 C2
  unfold truV at C3
  dsimp only at C1 C2 C3
  have mq:numOp .neq (.int .u8 ((1:Nat):Int)) (.int .u8 ((1:Nat):Int))=some (.bool false):=rfl
  have m3:numOp .eql (.int .u8 ((1:Nat):Int)) (.int .u8 3)=some (.bool false):=rfl
  have m1:numOp .eql (.int .u8 ((1:Nat):Int)) (.int .u8 1)=some (.bool true):=rfl
  have hf2:fitB w.2 o=true:=fitB_more hw.a hw.b ((sIn_iff hw.a hw.b).1 hin) hf1
  cases q with
  |true=>
   rw[if_pos (by decide)]at htr
   subst htr
   dsimp only at C3
   have hts:IsS w.2:=hw.b
   have xn:=ext_pw (h:=H) (base:=h.next) (by omega) (.cells (lrep 8 (.int .u64 0)) true 1) (.cells (us w.2) true 1)
   have gn:((H.push (.cells (lrep 8 (.int .u64 0)) true 1)).wr h.next H.next (.cells (us w.2) true 1)).get H.next=some (.cells (us w.2) true 1):=get_pw _ _
   have tk8:=us_llen hts.len
   have tk9:=us_take8 hts.len
   have tl:=hts.len
   have nn:((H.push (.cells (lrep 8 (.int .u64 0)) true 1)).wr h.next H.next (.cells (us w.2) true 1)).next=H.next+1:=rfl
   refine y4 ?_;refine wO_val (a_loadN (by exact rfl) (by assumption) (by assumption) (by assumption)) ?_;refine wO_val (a_loadN (by exact rfl) (by assumption) (by assumption) (by assumption)) ?_
   refine yC ?_
   refine FW.pu C1 ?_
   clear C1
   refine yM ?_;refine yE ?_;refine yE ?_;refine yM ?_;refine yM ?_;refine y3 ?_;refine y4 ?_;refine wO_val (a_loadN (by exact rfl) (by assumption) (by assumption) (by assumption)) ?_;refine wO_val (a_loadN (by exact rfl) (by assumption) (by assumption) (by assumption)) ?_
   refine yC ?_
   refine FW.pu C2 ?_
   clear C2
   refine yM ?_;refine yE ?_;refine yE ?_;refine yM ?_;refine yM ?_;refine y3 ?_;refine y4 ?_;refine wO_val (a_loadN (by exact rfl) (by assumption) (by assumption) (by assumption)) ?_;refine wO_val (a_loadN (by exact rfl) (by assumption) (by assumption) (by assumption)) ?_;refine yM ?_
   refine yC ?_
   refine FW.pu C3 ?_
   clear C3
   refine yM ?_;refine yE ?_;refine yE ?_;refine yE ?_;refine wO_val (a_new) ?_
   refine wO_val (a_storeAll (by exact rfl) (by exact rfl) (by(simp(disch:=first|omega|(simp only[z1,z2];omega))only[z3,z4,z5,z6,z7,z1,z2,g0,g1,gn];exact rfl)) (by(simp only[us_length];assumption)) (by exact rfl) (by exact us_ones _)) ?_
   refine yM ?_;refine yM ?_;refine y3 ?_
   generalize((H.push (.cells (lrep 8 (.int .u64 0)) true 1)).wr h.next H.next (.cells (us w.2) true 1))=H1 at*
   have ey1:=x0.trans xn
   have W1:=ey1.wf hr.wf
   have hL1:=xn.log.trans hL
   have g01:=(xn.old _ (by omega)).trans g0
   have g11:=(xn.old _ (by omega)).trans g1
   have C0:Pu T 21 [] {H1 with log:=[]} (.bool true):=puSd F.f21 (show Tab H1 from hgH.ext xn (by omega))
   clear g0 g1 xn
   have C4:=rfits51 F.rs.rf (h:={H1 with log:=[]}) (.of W1) hts ho
   refine wE_seq ?_;refine y4 ?_;refine yM ?_;refine yM ?_;refine wO_val (a_num (by exact rfl) (by exact rfl) (by with_reducible assumption)) ?_;refine yM ?_;refine yO ?_;refine yM ?_;refine yO ?_
   refine yM ?_;refine yO ?_;refine wO_val (a_num (by exact rfl) (by exact rfl) (by with_reducible assumption)) ?_;refine yU ?_;refine yM ?_;refine yO ?_;refine yM ?_;refine yO ?_
   refine yM ?_;refine yO ?_;refine wO_val (a_num (by exact rfl) (by exact rfl) (by with_reducible assumption)) ?_;refine yU ?_;refine y3 ?_;refine yX ?_
   refine wE_skip ?_;refine kS_n ?_;refine wE_seq ?_;refine y4 ?_;refine yM ?_;refine wO_val (a_num (by exact rfl) (by exact rfl) (by with_reducible assumption)) ?_;refine y3 ?_;refine yX ?_
   refine wE_skip ?_;refine kS_n ?_;refine y4 ?_;refine wO_val (a_loadN (by exact rfl) (by assumption) (by assumption) (by assumption)) ?_;refine wO_val (a_loadN (by exact rfl) (by assumption) (by assumption) (by assumption)) ?_
   refine yC ?_
   refine FW.al C4 (fun v h' m q=>q) ?_
   rintro _ H2 x2 ⟨t,x,y,z,rfl⟩
   clear C4
   have n2:=x2.next
   have x3:=ext_pw (h:=H2) (base:=h.next) (by omega) (.cells [I.O,I.O,I.O,I.O] true 1) (.cells (lputs [I.O,I.O,I.O,I.O] 0 (cellsOf (moV t x y z))) true 1)
   have n3:((H2.push (.cells [I.O,I.O,I.O,I.O] true 1)).wr h.next H2.next (.cells (lputs [I.O,I.O,I.O,I.O] 0 (cellsOf (moV t x y z))) true 1)).next=H2.next+1:=rfl
   refine yM ?_;refine yE ?_;refine yE ?_;refine wO_val (a_new) ?_
   refine yS ?_;refine yM ?_;refine y3 ?_
   generalize((H2.push (.cells [I.O,I.O,I.O,I.O] true 1)).wr h.next H2.next (.cells (lputs [I.O,I.O,I.O,I.O] 0 (cellsOf (moV t x y z))) true 1))=H3 at*
   have x23:=x2.trans x3
   have ey3:=ey1.trans x23
   have W3:=ey3.wf hr.wf
   have hL3:=x23.log.trans hL1
   have g03:=(x23.old _ (by omega)).trans g01
   have gn3:=(x23.old _ (by omega)).trans gn
   have C0':Pu T 21 [] {H3 with log:=[]} (.bool true):=puSd F.f21 (show Tab H3 from hg.ext ey3 h2)
   clear g01 g11 gn C0 x2 x3 x23 n2 n3
   have C5:=rin52 hp F.rs.rf.f52 F.rs.rf.f140 (h:={H3 with log:=[]}) (.of W3) hw.a hts
   have C6:=rin52 hp F.rs.rf.f52 F.rs.rf.f140 (h:={H3 with log:=[]}) (.of W3) hts hw.b
   rw[hin]at C5
   rw[sIn_refl hw.b]at C6
   rw[hf2]
   refine y4 ?_;refine yM ?_;refine wO_val (a_num (by exact rfl) (by exact rfl) (by with_reducible assumption)) ?_;refine yM ?_;refine yO ?_;refine yM ?_;refine yO ?_;refine wO_val (a_num (by exact rfl) (by exact rfl) (by with_reducible assumption)) ?_
   refine yO ?_;refine yM ?_;refine yO ?_;refine wO_val (a_beqT (by exact rfl) (by exact rfl)) ?_;refine yU ?_;refine yM ?_;refine y3 ?_
   refine wE_seq ?_;refine y4 ?_;refine yM ?_;refine yM ?_;refine wO_val (a_beq (by exact rfl) (by exact rfl)) ?_;refine y3 ?_;refine yX ?_;refine wE_skip ?_;refine kS_n ?_
   refine wE_seq ?_;refine y4 ?_;refine yM ?_;refine yA ?_;refine y3 ?_;refine yX ?_;refine wE_skip ?_;refine kS_n ?_;refine y4 ?_
   refine yC ?_
   refine FW.pu C0' ?_
   clear C0'
   refine yM ?_;refine yO ?_;refine yM ?_;refine yO ?_;refine yM ?_;refine yO ?_;refine wO_val (a_beqT (by exact rfl) (by exact rfl)) ?_;refine yT ?_;refine yM ?_
   refine yO ?_;refine yF ?_;refine yO ?_;refine wO_val (a_loadN (by exact rfl) (by assumption) (by assumption) (by assumption)) ?_;refine yO ?_;refine wO_val (a_loadN (by exact rfl) (by assumption) (by assumption) (by assumption)) ?_;refine yO ?_
   refine yC ?_
   refine FW.pu C5 ?_
   clear C5
   refine yT ?_;refine yM ?_;refine yO ?_;refine wO_val (a_loadN (by exact rfl) (by assumption) (by assumption) (by assumption)) ?_;refine yO ?_;refine yF ?_;refine yO ?_
   refine wO_val (a_loadN (by exact rfl) (by assumption) (by assumption) (by assumption)) ?_;refine yO ?_
   refine yC ?_
   refine FW.pu C6 ?_
   clear C6
   refine yT ?_;refine yM ?_;refine y3 ?_;refine wE_ret ?_
   exact endP_ret hL3 rfl rfl
  |false=>
   rw[if_neg (by decide),if_neg (by decide)]at htr
   subst htr
   dsimp only at C3
   have hts:IsS s0:=s0_ok
   have xn:=ext_pw (h:=H) (base:=h.next) (by omega) (.cells (lrep 8 (.int .u64 0)) true 1) (.cells (lputs (lrep 8 (.int .u64 0)) 0 (cellsOf (sv s0))) true 1)
   have gn:((H.push (.cells (lrep 8 (.int .u64 0)) true 1)).wr h.next H.next (.cells (lputs (lrep 8 (.int .u64 0)) 0 (cellsOf (sv s0))) true 1)).get H.next=some (.cells (us s0) true 1):=get_pw _ _
   have tk8:=us_llen hts.len
   have tk9:=us_take8 hts.len
   have tl:=hts.len
   have nn:((H.push (.cells (lrep 8 (.int .u64 0)) true 1)).wr h.next H.next (.cells (lputs (lrep 8 (.int .u64 0)) 0 (cellsOf (sv s0))) true 1)).next=H.next+1:=rfl
   refine y4 ?_;refine wO_val (a_loadN (by exact rfl) (by assumption) (by assumption) (by assumption)) ?_;refine wO_val (a_loadN (by exact rfl) (by assumption) (by assumption) (by assumption)) ?_
   refine yC ?_
   refine FW.pu C1 ?_
   clear C1
   refine yM ?_;refine yE ?_;refine yE ?_;refine yM ?_;refine yM ?_;refine y3 ?_;refine y4 ?_;refine wO_val (a_loadN (by exact rfl) (by assumption) (by assumption) (by assumption)) ?_;refine wO_val (a_loadN (by exact rfl) (by assumption) (by assumption) (by assumption)) ?_
   refine yC ?_
   refine FW.pu C2 ?_
   clear C2
   refine yM ?_;refine yE ?_;refine yE ?_;refine yM ?_;refine yM ?_;refine y3 ?_;refine y4 ?_;refine wO_val (a_loadN (by exact rfl) (by assumption) (by assumption) (by assumption)) ?_;refine wO_val (a_loadN (by exact rfl) (by assumption) (by assumption) (by assumption)) ?_;refine yM ?_
   refine yC ?_
   refine FW.pu C3 ?_
   clear C3
   refine yM ?_;refine yE ?_;refine yE ?_;refine yE ?_;refine wO_val (a_new) ?_
   refine yS ?_;refine yM ?_
   refine yM ?_;refine y3 ?_
   generalize((H.push (.cells (lrep 8 (.int .u64 0)) true 1)).wr h.next H.next (.cells (lputs (lrep 8 (.int .u64 0)) 0 (cellsOf (sv s0))) true 1))=H1 at*
   have ey1:=x0.trans xn
   have W1:=ey1.wf hr.wf
   have hL1:=xn.log.trans hL
   have g01:=(xn.old _ (by omega)).trans g0
   have g11:=(xn.old _ (by omega)).trans g1
   have C0:Pu T 21 [] {H1 with log:=[]} (.bool true):=puSd F.f21 (show Tab H1 from hgH.ext xn (by omega))
   clear g0 g1 xn
   have C4:=rfits51 F.rs.rf (h:={H1 with log:=[]}) (.of W1) hts ho
   refine wE_seq ?_;refine y4 ?_;refine yM ?_;refine yM ?_;refine wO_val (a_num (by exact rfl) (by exact rfl) (by with_reducible assumption)) ?_;refine yM ?_;refine yO ?_;refine yM ?_;refine yO ?_
   refine yM ?_;refine yO ?_;refine wO_val (a_num (by exact rfl) (by exact rfl) (by with_reducible assumption)) ?_;refine yU ?_;refine yM ?_;refine yO ?_;refine yM ?_;refine yO ?_
   refine yM ?_;refine yO ?_;refine wO_val (a_num (by exact rfl) (by exact rfl) (by with_reducible assumption)) ?_;refine yU ?_;refine y3 ?_;refine yX ?_
   refine wE_skip ?_;refine kS_n ?_;refine wE_seq ?_;refine y4 ?_;refine yM ?_;refine wO_val (a_num (by exact rfl) (by exact rfl) (by with_reducible assumption)) ?_;refine y3 ?_;refine yX ?_
   refine wE_skip ?_;refine kS_n ?_;refine y4 ?_;refine yN ?_;refine wO_val (a_loadN (by exact rfl) (by assumption) (by assumption) (by assumption)) ?_
   refine yC ?_
   refine FW.al C4 (fun v h' m q=>q) ?_
   rintro _ H2 x2 ⟨t,x,y,z,rfl⟩
   clear C4
   have n2:=x2.next
   have x3:=ext_pw (h:=H2) (base:=h.next) (by omega) (.cells [I.O,I.O,I.O,I.O] true 1) (.cells (lputs [I.O,I.O,I.O,I.O] 0 (cellsOf (moV t x y z))) true 1)
   have n3:((H2.push (.cells [I.O,I.O,I.O,I.O] true 1)).wr h.next H2.next (.cells (lputs [I.O,I.O,I.O,I.O] 0 (cellsOf (moV t x y z))) true 1)).next=H2.next+1:=rfl
   refine yM ?_;refine yE ?_;refine yE ?_;refine wO_val (a_new) ?_
   refine yS ?_;refine yM ?_;refine y3 ?_
   generalize((H2.push (.cells [I.O,I.O,I.O,I.O] true 1)).wr h.next H2.next (.cells (lputs [I.O,I.O,I.O,I.O] 0 (cellsOf (moV t x y z))) true 1))=H3 at*
   have x23:=x2.trans x3
   have ey3:=ey1.trans x23
   have W3:=ey3.wf hr.wf
   have hL3:=x23.log.trans hL1
   have g03:=(x23.old _ (by omega)).trans g01
   have gn3:=(x23.old _ (by omega)).trans gn
   have C0':Pu T 21 [] {H3 with log:=[]} (.bool true):=puSd F.f21 (show Tab H3 from hg.ext ey3 h2)
   clear g01 g11 gn C0 x2 x3 x23 n2 n3
   refine y4 ?_;refine yM ?_;refine wO_val (a_num (by exact rfl) (by exact rfl) (by with_reducible assumption)) ?_;refine yM ?_;refine yO ?_;refine yM ?_;refine yO ?_;refine wO_val (a_num (by exact rfl) (by exact rfl) (by with_reducible assumption)) ?_
   refine yO ?_;refine yM ?_;refine yO ?_;refine wO_val (a_beq (by exact rfl) (by exact rfl)) ?_;refine yU ?_;refine yM ?_;refine y3 ?_
   refine wE_seq ?_;refine y4 ?_;refine yM ?_;refine yM ?_;refine wO_val (a_beq (by exact rfl) (by exact rfl)) ?_;refine y3 ?_;refine yX ?_;refine wE_skip ?_;refine kS_n ?_
   refine wE_seq ?_;refine y4 ?_;refine yM ?_;refine yA ?_;refine y3 ?_;refine yY ?_;refine y4 ?_
   refine yC ?_
   refine FW.pu C0' ?_
   clear C0'
   refine yM ?_;refine yO ?_;refine yN ?_;refine yO ?_;refine wO_val (a_build (by exact rfl)) ?_;refine yO ?_;refine wO_val (a_agg (by exact rfl) (by exact rfl) (by exact rfl)) ?_;refine yT ?_
   refine yM ?_;refine y3 ?_;refine wE_ret ?_;refine kS_r ?_
   exact endP_ret hL3 rfl rfl
 ·rw[if_neg (by decide)]at htr
  dsimp only at htr
  unfold svV at C1 C2
  unfold truV at C3
  dsimp only at C1 C2 C3
  have mq:numOp .neq (.int .u8 ((3:Nat):Int)) (.int .u8 ((3:Nat):Int))=some (.bool false):=rfl
  have m3:numOp .eql (.int .u8 ((3:Nat):Int)) (.int .u8 3)=some (.bool true):=rfl
  have m1:numOp .eql (.int .u8 ((3:Nat):Int)) (.int .u8 1)=some (.bool false):=rfl
  cases q with
  |true=>
   rw[if_pos (by decide)]at htr
   subst htr
   dsimp only at C3
   have hts:IsS w.2:=hw.b
   have xn:=ext_pw (h:=H) (base:=h.next) (by omega) (.cells (lrep 8 (.int .u64 0)) true 1) (.cells (us w.2) true 1)
   have gn:((H.push (.cells (lrep 8 (.int .u64 0)) true 1)).wr h.next H.next (.cells (us w.2) true 1)).get H.next=some (.cells (us w.2) true 1):=get_pw _ _
   have tk8:=us_llen hts.len
   have tk9:=us_take8 hts.len
   have tl:=hts.len
   have nn:((H.push (.cells (lrep 8 (.int .u64 0)) true 1)).wr h.next H.next (.cells (us w.2) true 1)).next=H.next+1:=rfl
   refine y4 ?_;refine wO_val (a_loadN (by exact rfl) (by assumption) (by assumption) (by assumption)) ?_;refine wO_val (a_loadN (by exact rfl) (by assumption) (by assumption) (by assumption)) ?_
   refine yC ?_
   refine FW.pu C1 ?_
   clear C1
   refine yM ?_;refine yE ?_;refine yE ?_;refine yM ?_;refine yM ?_;refine y3 ?_;refine y4 ?_;refine wO_val (a_loadN (by exact rfl) (by assumption) (by assumption) (by assumption)) ?_;refine wO_val (a_loadN (by exact rfl) (by assumption) (by assumption) (by assumption)) ?_
   refine yC ?_
   refine FW.pu C2 ?_
   clear C2
   refine yM ?_;refine yE ?_;refine yE ?_;refine yM ?_;refine yM ?_;refine y3 ?_;refine y4 ?_;refine wO_val (a_loadN (by exact rfl) (by assumption) (by assumption) (by assumption)) ?_;refine wO_val (a_loadN (by exact rfl) (by assumption) (by assumption) (by assumption)) ?_;refine yM ?_
   refine yC ?_
   refine FW.pu C3 ?_
   clear C3
   refine yM ?_;refine yE ?_;refine yE ?_;refine yE ?_;refine wO_val (a_new) ?_
   refine wO_val (a_storeAll (by exact rfl) (by exact rfl) (by(simp(disch:=first|omega|(simp only[z1,z2];omega))only[z3,z4,z5,z6,z7,z1,z2,g0,g1,gn];exact rfl)) (by(simp only[us_length];assumption)) (by exact rfl) (by exact us_ones _)) ?_
   refine yM ?_;refine yM ?_;refine y3 ?_
   generalize((H.push (.cells (lrep 8 (.int .u64 0)) true 1)).wr h.next H.next (.cells (us w.2) true 1))=H1 at*
   have ey1:=x0.trans xn
   have W1:=ey1.wf hr.wf
   have hL1:=xn.log.trans hL
   have g01:=(xn.old _ (by omega)).trans g0
   have g11:=(xn.old _ (by omega)).trans g1
   have C0:Pu T 21 [] {H1 with log:=[]} (.bool true):=puSd F.f21 (show Tab H1 from hgH.ext xn (by omega))
   clear g0 g1 xn
   have C4:=rfits51 F.rs.rf (h:={H1 with log:=[]}) (.of W1) hts ho
   refine wE_seq ?_;refine y4 ?_;refine yM ?_;refine yM ?_;refine wO_val (a_num (by exact rfl) (by exact rfl) (by with_reducible assumption)) ?_;refine yM ?_;refine yO ?_;refine yM ?_;refine yO ?_
   refine yM ?_;refine yO ?_;refine wO_val (a_num (by exact rfl) (by exact rfl) (by with_reducible assumption)) ?_;refine yU ?_;refine yM ?_;refine yO ?_;refine yM ?_;refine yO ?_
   refine yM ?_;refine yO ?_;refine wO_val (a_num (by exact rfl) (by exact rfl) (by with_reducible assumption)) ?_;refine yU ?_;refine y3 ?_;refine yX ?_
   refine wE_skip ?_;refine kS_n ?_;refine wE_seq ?_;refine y4 ?_;refine yM ?_;refine wO_val (a_num (by exact rfl) (by exact rfl) (by with_reducible assumption)) ?_;refine y3 ?_;refine yX ?_
   refine wE_skip ?_;refine kS_n ?_;refine y4 ?_;refine wO_val (a_loadN (by exact rfl) (by assumption) (by assumption) (by assumption)) ?_;refine wO_val (a_loadN (by exact rfl) (by assumption) (by assumption) (by assumption)) ?_
   refine yC ?_
   refine FW.al C4 (fun v h' m q=>q) ?_
   rintro _ H2 x2 ⟨t,x,y,z,rfl⟩
   clear C4
   have n2:=x2.next
   have x3:=ext_pw (h:=H2) (base:=h.next) (by omega) (.cells [I.O,I.O,I.O,I.O] true 1) (.cells (lputs [I.O,I.O,I.O,I.O] 0 (cellsOf (moV t x y z))) true 1)
   have n3:((H2.push (.cells [I.O,I.O,I.O,I.O] true 1)).wr h.next H2.next (.cells (lputs [I.O,I.O,I.O,I.O] 0 (cellsOf (moV t x y z))) true 1)).next=H2.next+1:=rfl
   refine yM ?_;refine yE ?_;refine yE ?_;refine wO_val (a_new) ?_
   refine yS ?_;refine yM ?_;refine y3 ?_
   generalize((H2.push (.cells [I.O,I.O,I.O,I.O] true 1)).wr h.next H2.next (.cells (lputs [I.O,I.O,I.O,I.O] 0 (cellsOf (moV t x y z))) true 1))=H3 at*
   have x23:=x2.trans x3
   have ey3:=ey1.trans x23
   have W3:=ey3.wf hr.wf
   have hL3:=x23.log.trans hL1
   have g03:=(x23.old _ (by omega)).trans g01
   have gn3:=(x23.old _ (by omega)).trans gn
   have C0':Pu T 21 [] {H3 with log:=[]} (.bool true):=puSd F.f21 (show Tab H3 from hg.ext ey3 h2)
   clear g01 g11 gn C0 x2 x3 x23 n2 n3
   have C5:=rin52 hp F.rs.rf.f52 F.rs.rf.f140 (h:={H3 with log:=[]}) (.of W3) hw.a hts
   have C6:=rin52 hp F.rs.rf.f52 F.rs.rf.f140 (h:={H3 with log:=[]}) (.of W3) hts hw.b
   rw[hin]at C5
   rw[sIn_refl hw.b]at C6
   rw[hf2]
   refine y4 ?_;refine yM ?_;refine wO_val (a_num (by exact rfl) (by exact rfl) (by with_reducible assumption)) ?_;refine yM ?_;refine yP ?_;refine yP ?_;refine yP ?_;refine yP ?_
   refine yT ?_;refine yM ?_;refine y3 ?_;refine wE_seq ?_;refine y4 ?_;refine yM ?_;refine yM ?_
   refine wO_val (a_beq (by exact rfl) (by exact rfl)) ?_;refine y3 ?_;refine yX ?_;refine wE_skip ?_;refine kS_n ?_;refine wE_seq ?_;refine y4 ?_;refine yM ?_;refine yA ?_
   refine y3 ?_;refine yX ?_;refine wE_skip ?_;refine kS_n ?_;refine y4 ?_
   refine yC ?_
   refine FW.pu C0' ?_
   clear C0'
   refine yM ?_;refine yO ?_;refine yM ?_;refine yO ?_;refine yM ?_;refine yO ?_;refine wO_val (a_beqT (by exact rfl) (by exact rfl)) ?_;refine yT ?_;refine yM ?_
   refine yO ?_;refine yF ?_;refine yO ?_;refine wO_val (a_loadN (by exact rfl) (by assumption) (by assumption) (by assumption)) ?_;refine yO ?_;refine wO_val (a_loadN (by exact rfl) (by assumption) (by assumption) (by assumption)) ?_;refine yO ?_
   refine yC ?_
   refine FW.pu C5 ?_
   clear C5
   refine yT ?_;refine yM ?_;refine yO ?_;refine wO_val (a_loadN (by exact rfl) (by assumption) (by assumption) (by assumption)) ?_;refine yO ?_;refine yF ?_;refine yO ?_
   refine wO_val (a_loadN (by exact rfl) (by assumption) (by assumption) (by assumption)) ?_;refine yO ?_
   refine yC ?_
   refine FW.pu C6 ?_
   clear C6
   refine yT ?_;refine yM ?_;refine y3 ?_;refine wE_ret ?_
   exact endP_ret hL3 rfl rfl
  |false=>
   rw[if_neg (by decide),if_pos (by decide)]at htr
   subst htr
   dsimp only at C3
   have hts:IsS w.1:=hw.a
   have xn:=ext_pw (h:=H) (base:=h.next) (by omega) (.cells (lrep 8 (.int .u64 0)) true 1) (.cells (us w.1) true 1)
   have gn:((H.push (.cells (lrep 8 (.int .u64 0)) true 1)).wr h.next H.next (.cells (us w.1) true 1)).get H.next=some (.cells (us w.1) true 1):=get_pw _ _
   have tk8:=us_llen hts.len
   have tk9:=us_take8 hts.len
   have tl:=hts.len
   have nn:((H.push (.cells (lrep 8 (.int .u64 0)) true 1)).wr h.next H.next (.cells (us w.1) true 1)).next=H.next+1:=rfl
   refine y4 ?_;refine wO_val (a_loadN (by exact rfl) (by assumption) (by assumption) (by assumption)) ?_;refine wO_val (a_loadN (by exact rfl) (by assumption) (by assumption) (by assumption)) ?_
   refine yC ?_
   refine FW.pu C1 ?_
   clear C1
   refine yM ?_;refine yE ?_;refine yE ?_;refine yM ?_;refine yM ?_;refine y3 ?_;refine y4 ?_;refine wO_val (a_loadN (by exact rfl) (by assumption) (by assumption) (by assumption)) ?_;refine wO_val (a_loadN (by exact rfl) (by assumption) (by assumption) (by assumption)) ?_
   refine yC ?_
   refine FW.pu C2 ?_
   clear C2
   refine yM ?_;refine yE ?_;refine yE ?_;refine yM ?_;refine yM ?_;refine y3 ?_;refine y4 ?_;refine wO_val (a_loadN (by exact rfl) (by assumption) (by assumption) (by assumption)) ?_;refine wO_val (a_loadN (by exact rfl) (by assumption) (by assumption) (by assumption)) ?_;refine yM ?_
   refine yC ?_
   refine FW.pu C3 ?_
   clear C3
   refine yM ?_;refine yE ?_;refine yE ?_;refine yE ?_;refine wO_val (a_new) ?_
   refine wO_val (a_storeAll (by exact rfl) (by exact rfl) (by(simp(disch:=first|omega|(simp only[z1,z2];omega))only[z3,z4,z5,z6,z7,z1,z2,g0,g1,gn];exact rfl)) (by(simp only[us_length];assumption)) (by exact rfl) (by exact us_ones _)) ?_
   refine yM ?_;refine yM ?_;refine y3 ?_
   generalize((H.push (.cells (lrep 8 (.int .u64 0)) true 1)).wr h.next H.next (.cells (us w.1) true 1))=H1 at*
   have ey1:=x0.trans xn
   have W1:=ey1.wf hr.wf
   have hL1:=xn.log.trans hL
   have g01:=(xn.old _ (by omega)).trans g0
   have g11:=(xn.old _ (by omega)).trans g1
   have C0:Pu T 21 [] {H1 with log:=[]} (.bool true):=puSd F.f21 (show Tab H1 from hgH.ext xn (by omega))
   clear g0 g1 xn
   have C4:=rfits51 F.rs.rf (h:={H1 with log:=[]}) (.of W1) hts ho
   refine wE_seq ?_;refine y4 ?_;refine yM ?_;refine yM ?_;refine wO_val (a_num (by exact rfl) (by exact rfl) (by with_reducible assumption)) ?_;refine yM ?_;refine yO ?_;refine yM ?_;refine yO ?_
   refine yM ?_;refine yO ?_;refine wO_val (a_num (by exact rfl) (by exact rfl) (by with_reducible assumption)) ?_;refine yU ?_;refine yM ?_;refine yO ?_;refine yM ?_;refine yO ?_
   refine yM ?_;refine yO ?_;refine wO_val (a_num (by exact rfl) (by exact rfl) (by with_reducible assumption)) ?_;refine yU ?_;refine y3 ?_;refine yX ?_
   refine wE_skip ?_;refine kS_n ?_;refine wE_seq ?_;refine y4 ?_;refine yM ?_;refine wO_val (a_num (by exact rfl) (by exact rfl) (by with_reducible assumption)) ?_;refine y3 ?_;refine yX ?_
   refine wE_skip ?_;refine kS_n ?_;refine y4 ?_;refine wO_val (a_loadN (by exact rfl) (by assumption) (by assumption) (by assumption)) ?_;refine wO_val (a_loadN (by exact rfl) (by assumption) (by assumption) (by assumption)) ?_
   refine yC ?_
   refine FW.al C4 (fun v h' m q=>q) ?_
   rintro _ H2 x2 ⟨t,x,y,z,rfl⟩
   clear C4
   have n2:=x2.next
   have x3:=ext_pw (h:=H2) (base:=h.next) (by omega) (.cells [I.O,I.O,I.O,I.O] true 1) (.cells (lputs [I.O,I.O,I.O,I.O] 0 (cellsOf (moV t x y z))) true 1)
   have n3:((H2.push (.cells [I.O,I.O,I.O,I.O] true 1)).wr h.next H2.next (.cells (lputs [I.O,I.O,I.O,I.O] 0 (cellsOf (moV t x y z))) true 1)).next=H2.next+1:=rfl
   refine yM ?_;refine yE ?_;refine yE ?_;refine wO_val (a_new) ?_
   refine yS ?_;refine yM ?_;refine y3 ?_
   generalize((H2.push (.cells [I.O,I.O,I.O,I.O] true 1)).wr h.next H2.next (.cells (lputs [I.O,I.O,I.O,I.O] 0 (cellsOf (moV t x y z))) true 1))=H3 at*
   have x23:=x2.trans x3
   have ey3:=ey1.trans x23
   have W3:=ey3.wf hr.wf
   have hL3:=x23.log.trans hL1
   have g03:=(x23.old _ (by omega)).trans g01
   have gn3:=(x23.old _ (by omega)).trans gn
   have C0':Pu T 21 [] {H3 with log:=[]} (.bool true):=puSd F.f21 (show Tab H3 from hg.ext ey3 h2)
   clear g01 g11 gn C0 x2 x3 x23 n2 n3
   have C5:=rin52 hp F.rs.rf.f52 F.rs.rf.f140 (h:={H3 with log:=[]}) (.of W3) hw.a hts
   have C6:=rin52 hp F.rs.rf.f52 F.rs.rf.f140 (h:={H3 with log:=[]}) (.of W3) hts hw.b
   rw[sIn_refl hw.a]at C5
   rw[hin]at C6
   rw[hf1]
   refine y4 ?_;refine yM ?_;refine wO_val (a_num (by exact rfl) (by exact rfl) (by with_reducible assumption)) ?_;refine yM ?_;refine yP ?_;refine yP ?_;refine yP ?_;refine yP ?_
   refine yT ?_;refine yM ?_;refine y3 ?_;refine wE_seq ?_;refine y4 ?_;refine yM ?_;refine yM ?_
   refine wO_val (a_beq (by exact rfl) (by exact rfl)) ?_;refine y3 ?_;refine yX ?_;refine wE_skip ?_;refine kS_n ?_;refine wE_seq ?_;refine y4 ?_;refine yM ?_;refine yA ?_
   refine y3 ?_;refine yX ?_;refine wE_skip ?_;refine kS_n ?_;refine y4 ?_
   refine yC ?_
   refine FW.pu C0' ?_
   clear C0'
   refine yM ?_;refine yO ?_;refine yM ?_;refine yO ?_;refine yM ?_;refine yO ?_;refine wO_val (a_beqT (by exact rfl) (by exact rfl)) ?_;refine yT ?_;refine yM ?_
   refine yO ?_;refine yF ?_;refine yO ?_;refine wO_val (a_loadN (by exact rfl) (by assumption) (by assumption) (by assumption)) ?_;refine yO ?_;refine wO_val (a_loadN (by exact rfl) (by assumption) (by assumption) (by assumption)) ?_;refine yO ?_
   refine yC ?_
   refine FW.pu C5 ?_
   clear C5
   refine yT ?_;refine yM ?_;refine yO ?_;refine wO_val (a_loadN (by exact rfl) (by assumption) (by assumption) (by assumption)) ?_;refine yO ?_;refine yF ?_;refine yO ?_
   refine wO_val (a_loadN (by exact rfl) (by assumption) (by assumption) (by assumption)) ?_;refine yO ?_
   refine yC ?_
   refine FW.pu C6 ?_
   clear C6
   refine yT ?_;refine yM ?_;refine y3 ?_;refine wE_ret ?_
   exact endP_ret hL3 rfl rfl
 ·rw[if_neg (by decide)]at htr
  dsimp only at htr
  unfold svV at C1 C2
  unfold truV at C3
  dsimp only at C1 C2 C3
  have mq:numOp .neq (.int .u8 ((2:Nat):Int)) (.int .u8 ((2:Nat):Int))=some (.bool false):=rfl
  have m3:numOp .eql (.int .u8 ((2:Nat):Int)) (.int .u8 3)=some (.bool false):=rfl
  have m1:numOp .eql (.int .u8 ((2:Nat):Int)) (.int .u8 1)=some (.bool false):=rfl
  cases q with
  |true=>
   rw[if_neg (by decide),if_neg (by decide)]at htr
   subst htr
   dsimp only at C3
   have hts:IsS s0:=s0_ok
   have xn:=ext_pw (h:=H) (base:=h.next) (by omega) (.cells (lrep 8 (.int .u64 0)) true 1) (.cells (lputs (lrep 8 (.int .u64 0)) 0 (cellsOf (sv s0))) true 1)
   have gn:((H.push (.cells (lrep 8 (.int .u64 0)) true 1)).wr h.next H.next (.cells (lputs (lrep 8 (.int .u64 0)) 0 (cellsOf (sv s0))) true 1)).get H.next=some (.cells (us s0) true 1):=get_pw _ _
   have tk8:=us_llen hts.len
   have tk9:=us_take8 hts.len
   have tl:=hts.len
   have nn:((H.push (.cells (lrep 8 (.int .u64 0)) true 1)).wr h.next H.next (.cells (lputs (lrep 8 (.int .u64 0)) 0 (cellsOf (sv s0))) true 1)).next=H.next+1:=rfl
   refine y4 ?_;refine wO_val (a_loadN (by exact rfl) (by assumption) (by assumption) (by assumption)) ?_;refine wO_val (a_loadN (by exact rfl) (by assumption) (by assumption) (by assumption)) ?_
   refine yC ?_
   refine FW.pu C1 ?_
   clear C1
   refine yM ?_;refine yE ?_;refine yE ?_;refine yM ?_;refine yM ?_;refine y3 ?_;refine y4 ?_;refine wO_val (a_loadN (by exact rfl) (by assumption) (by assumption) (by assumption)) ?_;refine wO_val (a_loadN (by exact rfl) (by assumption) (by assumption) (by assumption)) ?_
   refine yC ?_
   refine FW.pu C2 ?_
   clear C2
   refine yM ?_;refine yE ?_;refine yE ?_;refine yM ?_;refine yM ?_;refine y3 ?_;refine y4 ?_;refine wO_val (a_loadN (by exact rfl) (by assumption) (by assumption) (by assumption)) ?_;refine wO_val (a_loadN (by exact rfl) (by assumption) (by assumption) (by assumption)) ?_;refine yM ?_
   refine yC ?_
   refine FW.pu C3 ?_
   clear C3
   refine yM ?_;refine yE ?_;refine yE ?_;refine yE ?_;refine wO_val (a_new) ?_
   refine yS ?_;refine yM ?_
   refine yM ?_;refine y3 ?_
   generalize((H.push (.cells (lrep 8 (.int .u64 0)) true 1)).wr h.next H.next (.cells (lputs (lrep 8 (.int .u64 0)) 0 (cellsOf (sv s0))) true 1))=H1 at*
   have ey1:=x0.trans xn
   have W1:=ey1.wf hr.wf
   have hL1:=xn.log.trans hL
   have g01:=(xn.old _ (by omega)).trans g0
   have g11:=(xn.old _ (by omega)).trans g1
   have C0:Pu T 21 [] {H1 with log:=[]} (.bool true):=puSd F.f21 (show Tab H1 from hgH.ext xn (by omega))
   clear g0 g1 xn
   have C4:=rfits51 F.rs.rf (h:={H1 with log:=[]}) (.of W1) hts ho
   refine wE_seq ?_;refine y4 ?_;refine yM ?_;refine yM ?_;refine wO_val (a_num (by exact rfl) (by exact rfl) (by with_reducible assumption)) ?_;refine yM ?_;refine yO ?_;refine yM ?_;refine yO ?_
   refine yM ?_;refine yO ?_;refine wO_val (a_num (by exact rfl) (by exact rfl) (by with_reducible assumption)) ?_;refine yU ?_;refine yM ?_;refine yO ?_;refine yM ?_;refine yO ?_
   refine yM ?_;refine yO ?_;refine wO_val (a_num (by exact rfl) (by exact rfl) (by with_reducible assumption)) ?_;refine yU ?_;refine y3 ?_;refine yX ?_
   refine wE_skip ?_;refine kS_n ?_;refine wE_seq ?_;refine y4 ?_;refine yM ?_;refine wO_val (a_num (by exact rfl) (by exact rfl) (by with_reducible assumption)) ?_;refine y3 ?_;refine yX ?_
   refine wE_skip ?_;refine kS_n ?_;refine y4 ?_;refine yN ?_;refine wO_val (a_loadN (by exact rfl) (by assumption) (by assumption) (by assumption)) ?_
   refine yC ?_
   refine FW.al C4 (fun v h' m q=>q) ?_
   rintro _ H2 x2 ⟨t,x,y,z,rfl⟩
   clear C4
   have n2:=x2.next
   have x3:=ext_pw (h:=H2) (base:=h.next) (by omega) (.cells [I.O,I.O,I.O,I.O] true 1) (.cells (lputs [I.O,I.O,I.O,I.O] 0 (cellsOf (moV t x y z))) true 1)
   have n3:((H2.push (.cells [I.O,I.O,I.O,I.O] true 1)).wr h.next H2.next (.cells (lputs [I.O,I.O,I.O,I.O] 0 (cellsOf (moV t x y z))) true 1)).next=H2.next+1:=rfl
   refine yM ?_;refine yE ?_;refine yE ?_;refine wO_val (a_new) ?_
   refine yS ?_;refine yM ?_;refine y3 ?_
   generalize((H2.push (.cells [I.O,I.O,I.O,I.O] true 1)).wr h.next H2.next (.cells (lputs [I.O,I.O,I.O,I.O] 0 (cellsOf (moV t x y z))) true 1))=H3 at*
   have x23:=x2.trans x3
   have ey3:=ey1.trans x23
   have W3:=ey3.wf hr.wf
   have hL3:=x23.log.trans hL1
   have g03:=(x23.old _ (by omega)).trans g01
   have gn3:=(x23.old _ (by omega)).trans gn
   have C0':Pu T 21 [] {H3 with log:=[]} (.bool true):=puSd F.f21 (show Tab H3 from hg.ext ey3 h2)
   clear g01 g11 gn C0 x2 x3 x23 n2 n3
   refine y4 ?_;refine yM ?_;refine wO_val (a_num (by exact rfl) (by exact rfl) (by with_reducible assumption)) ?_;refine yM ?_;refine yO ?_;refine yM ?_;refine yO ?_;refine wO_val (a_num (by exact rfl) (by exact rfl) (by with_reducible assumption)) ?_
   refine yO ?_;refine yM ?_;refine yO ?_;refine wO_val (a_beq (by exact rfl) (by exact rfl)) ?_;refine yU ?_;refine yM ?_;refine y3 ?_
   refine wE_seq ?_;refine y4 ?_;refine yM ?_;refine yM ?_;refine wO_val (a_beq (by exact rfl) (by exact rfl)) ?_;refine y3 ?_;refine yX ?_;refine wE_skip ?_;refine kS_n ?_
   refine wE_seq ?_;refine y4 ?_;refine yM ?_;refine yA ?_;refine y3 ?_;refine yY ?_;refine y4 ?_
   refine yC ?_
   refine FW.pu C0' ?_
   clear C0'
   refine yM ?_;refine yO ?_;refine yN ?_;refine yO ?_;refine wO_val (a_build (by exact rfl)) ?_;refine yO ?_;refine wO_val (a_agg (by exact rfl) (by exact rfl) (by exact rfl)) ?_;refine yT ?_
   refine yM ?_;refine y3 ?_;refine wE_ret ?_;refine kS_r ?_
   exact endP_ret hL3 rfl rfl
  |false=>
   rw[if_neg (by decide),if_pos (by decide)]at htr
   subst htr
   dsimp only at C3
   have hts:IsS w.1:=hw.a
   have xn:=ext_pw (h:=H) (base:=h.next) (by omega) (.cells (lrep 8 (.int .u64 0)) true 1) (.cells (us w.1) true 1)
   have gn:((H.push (.cells (lrep 8 (.int .u64 0)) true 1)).wr h.next H.next (.cells (us w.1) true 1)).get H.next=some (.cells (us w.1) true 1):=get_pw _ _
   have tk8:=us_llen hts.len
   have tk9:=us_take8 hts.len
   have tl:=hts.len
   have nn:((H.push (.cells (lrep 8 (.int .u64 0)) true 1)).wr h.next H.next (.cells (us w.1) true 1)).next=H.next+1:=rfl
   refine y4 ?_;refine wO_val (a_loadN (by exact rfl) (by assumption) (by assumption) (by assumption)) ?_;refine wO_val (a_loadN (by exact rfl) (by assumption) (by assumption) (by assumption)) ?_
   refine yC ?_
   refine FW.pu C1 ?_
   clear C1
   refine yM ?_;refine yE ?_;refine yE ?_;refine yM ?_;refine yM ?_;refine y3 ?_;refine y4 ?_;refine wO_val (a_loadN (by exact rfl) (by assumption) (by assumption) (by assumption)) ?_;refine wO_val (a_loadN (by exact rfl) (by assumption) (by assumption) (by assumption)) ?_
   refine yC ?_
   refine FW.pu C2 ?_
   clear C2
   refine yM ?_;refine yE ?_;refine yE ?_;refine yM ?_;refine yM ?_;refine y3 ?_;refine y4 ?_;refine wO_val (a_loadN (by exact rfl) (by assumption) (by assumption) (by assumption)) ?_;refine wO_val (a_loadN (by exact rfl) (by assumption) (by assumption) (by assumption)) ?_;refine yM ?_
   refine yC ?_
   refine FW.pu C3 ?_
   clear C3
   refine yM ?_;refine yE ?_;refine yE ?_;refine yE ?_;refine wO_val (a_new) ?_
   refine wO_val (a_storeAll (by exact rfl) (by exact rfl) (by(simp(disch:=first|omega|(simp only[z1,z2];omega))only[z3,z4,z5,z6,z7,z1,z2,g0,g1,gn];exact rfl)) (by(simp only[us_length];assumption)) (by exact rfl) (by exact us_ones _)) ?_
   refine yM ?_;refine yM ?_;refine y3 ?_
   generalize((H.push (.cells (lrep 8 (.int .u64 0)) true 1)).wr h.next H.next (.cells (us w.1) true 1))=H1 at*
   have ey1:=x0.trans xn
   have W1:=ey1.wf hr.wf
   have hL1:=xn.log.trans hL
   have g01:=(xn.old _ (by omega)).trans g0
   have g11:=(xn.old _ (by omega)).trans g1
   have C0:Pu T 21 [] {H1 with log:=[]} (.bool true):=puSd F.f21 (show Tab H1 from hgH.ext xn (by omega))
   clear g0 g1 xn
   have C4:=rfits51 F.rs.rf (h:={H1 with log:=[]}) (.of W1) hts ho
   refine wE_seq ?_;refine y4 ?_;refine yM ?_;refine yM ?_;refine wO_val (a_num (by exact rfl) (by exact rfl) (by with_reducible assumption)) ?_;refine yM ?_;refine yO ?_;refine yM ?_;refine yO ?_
   refine yM ?_;refine yO ?_;refine wO_val (a_num (by exact rfl) (by exact rfl) (by with_reducible assumption)) ?_;refine yU ?_;refine yM ?_;refine yO ?_;refine yM ?_;refine yO ?_
   refine yM ?_;refine yO ?_;refine wO_val (a_num (by exact rfl) (by exact rfl) (by with_reducible assumption)) ?_;refine yU ?_;refine y3 ?_;refine yX ?_
   refine wE_skip ?_;refine kS_n ?_;refine wE_seq ?_;refine y4 ?_;refine yM ?_;refine wO_val (a_num (by exact rfl) (by exact rfl) (by with_reducible assumption)) ?_;refine y3 ?_;refine yX ?_
   refine wE_skip ?_;refine kS_n ?_;refine y4 ?_;refine wO_val (a_loadN (by exact rfl) (by assumption) (by assumption) (by assumption)) ?_;refine wO_val (a_loadN (by exact rfl) (by assumption) (by assumption) (by assumption)) ?_
   refine yC ?_
   refine FW.al C4 (fun v h' m q=>q) ?_
   rintro _ H2 x2 ⟨t,x,y,z,rfl⟩
   clear C4
   have n2:=x2.next
   have x3:=ext_pw (h:=H2) (base:=h.next) (by omega) (.cells [I.O,I.O,I.O,I.O] true 1) (.cells (lputs [I.O,I.O,I.O,I.O] 0 (cellsOf (moV t x y z))) true 1)
   have n3:((H2.push (.cells [I.O,I.O,I.O,I.O] true 1)).wr h.next H2.next (.cells (lputs [I.O,I.O,I.O,I.O] 0 (cellsOf (moV t x y z))) true 1)).next=H2.next+1:=rfl
   refine yM ?_;refine yE ?_;refine yE ?_;refine wO_val (a_new) ?_
   refine yS ?_;refine yM ?_;refine y3 ?_
   generalize((H2.push (.cells [I.O,I.O,I.O,I.O] true 1)).wr h.next H2.next (.cells (lputs [I.O,I.O,I.O,I.O] 0 (cellsOf (moV t x y z))) true 1))=H3 at*
   have x23:=x2.trans x3
   have ey3:=ey1.trans x23
   have W3:=ey3.wf hr.wf
   have hL3:=x23.log.trans hL1
   have g03:=(x23.old _ (by omega)).trans g01
   have gn3:=(x23.old _ (by omega)).trans gn
   have C0':Pu T 21 [] {H3 with log:=[]} (.bool true):=puSd F.f21 (show Tab H3 from hg.ext ey3 h2)
   clear g01 g11 gn C0 x2 x3 x23 n2 n3
   have C5:=rin52 hp F.rs.rf.f52 F.rs.rf.f140 (h:={H3 with log:=[]}) (.of W3) hw.a hts
   have C6:=rin52 hp F.rs.rf.f52 F.rs.rf.f140 (h:={H3 with log:=[]}) (.of W3) hts hw.b
   rw[sIn_refl hw.a]at C5
   rw[hin]at C6
   rw[hf1]
   refine y4 ?_;refine yM ?_;refine wO_val (a_num (by exact rfl) (by exact rfl) (by with_reducible assumption)) ?_;refine yM ?_;refine yO ?_;refine yM ?_;refine yO ?_;refine wO_val (a_num (by exact rfl) (by exact rfl) (by with_reducible assumption)) ?_
   refine yO ?_;refine yM ?_;refine yO ?_;refine wO_val (a_beqT (by exact rfl) (by exact rfl)) ?_;refine yU ?_;refine yM ?_;refine y3 ?_
   refine wE_seq ?_;refine y4 ?_;refine yM ?_;refine yM ?_;refine wO_val (a_beq (by exact rfl) (by exact rfl)) ?_;refine y3 ?_;refine yX ?_;refine wE_skip ?_;refine kS_n ?_
   refine wE_seq ?_;refine y4 ?_;refine yM ?_;refine yA ?_;refine y3 ?_;refine yX ?_;refine wE_skip ?_;refine kS_n ?_;refine y4 ?_
   refine yC ?_
   refine FW.pu C0' ?_
   clear C0'
   refine yM ?_;refine yO ?_;refine yM ?_;refine yO ?_;refine yM ?_;refine yO ?_;refine wO_val (a_beqT (by exact rfl) (by exact rfl)) ?_;refine yT ?_;refine yM ?_
   refine yO ?_;refine yF ?_;refine yO ?_;refine wO_val (a_loadN (by exact rfl) (by assumption) (by assumption) (by assumption)) ?_;refine yO ?_;refine wO_val (a_loadN (by exact rfl) (by assumption) (by assumption) (by assumption)) ?_;refine yO ?_
   refine yC ?_
   refine FW.pu C5 ?_
   clear C5
   refine yT ?_;refine yM ?_;refine yO ?_;refine wO_val (a_loadN (by exact rfl) (by assumption) (by assumption) (by assumption)) ?_;refine yO ?_;refine yF ?_;refine yO ?_
   refine wO_val (a_loadN (by exact rfl) (by assumption) (by assumption) (by assumption)) ?_;refine yO ?_
   refine yC ?_
   refine FW.pu C6 ?_
   clear C6
   refine yT ?_;refine yM ?_;refine y3 ?_;refine wE_ret ?_
   exact endP_ret hL3 rfl rfl
end Go.A.Pk
end
section
set_option maxRecDepth 100000
namespace Go.A.Pk
open Go Go.Proofs
theorem h0_eq:StkQ.h0=oneH 2 (debL.map fun n=> .int .u8 (n:Nat)) 1000:=by kernel_rfl
theorem ok21:Entry Tryz.prog 21 (.prim pSd):= .prim (primT_ok sound (g:=2) (n:=1000) (vs:=debL.map fun n=> .int .u8 (n:Nat)) Tryz.func21 (of_decide_eq_true (by kernel_rfl)) (by kernel_rfl) globs_le (by decide) (by kernel_rfl) (by kernel_rfl) fun args v h h' hp=>by
 unfold pSd at hp
 split at hp
 ·split at hp
  ·rename_i hT
   cases hp
   refine⟨rfl,hT,fun a ha=>(nomatch ha),rfl,?_⟩
   rw[←h0_eq]
   exact StkQ.run
  ·cases hp
 ·cases hp)
end Go.A.Pk
end
section
namespace Go.A
open Go.ChangeShapes Go.WideShapes Go.ChangeAt Go.RowKit
section
variable {H:Type} {enc:TypeId×Value→H} {P:Program}
theorem trodAll_stays(hl:laidOutB P=true){W W':World}(hb:Below W.heap.size W W'):∀{ts:List TypeId} {vs:List Value} {ds:List (DataW H)} {ps:List MemPlace},(∀t∈ts,P.readableRec t=true∧t<P.types.size)→DataW.TrodAll enc P W 0 (fun _=>true) true ts vs ds ps→
 (∀x∈ps,x.block<W.heap.size)→DataW.TrodAll enc P W' 0 (fun b=>decide (b<W.heap.size)) true ts vs ds ps
 |[],vs,ds,ps,_,h,_=>by
  obtain⟨rfl,rfl,rfl⟩:=trodAll_nil h
  exact trodAll_mk0
 |t::ts,vs,ds,ps,hr,h,hlt=>by
  obtain⟨v,vs',d,ds',p,q,rfl,rfl,rfl,hd,hrest⟩:=trodAll_cons h
  have h1:=hr t (List.mem_cons_self ..)
  exact⟨p,q,Below.trod hl h1.1 h1.2 hd hb fun x hx=>hlt x (List.mem_append_left _ hx),trodAll_stays hl hb (fun t ht=>hr t (List.mem_cons_of_mem _ ht)) hrest fun x hx=>hlt x (List.mem_append_right _ hx),rfl⟩
theorem law_post{f:Func}{s:ChangeSpec}{W W':World}{args:Array Value}{ds gs:List (DataW H)}{before:List MemPlace}{tb:TypeId}(hW:DataW.Whole enc P f.params.toList s.vars false W args.toList ds gs before)(hv:s.vars=[])
 (hfn:(s.fn H ds).results=[.lit (.bool true)]∧(s.fn H ds).args=ds∧(s.fn H ds).vars=[])(hl:laidOutB P=true)(hr:∀t∈f.params.toList,P.readableRec t=true∧t<P.types.size)(hres:f.resultTypes= #[tb])(htb:P.underlying tb=some .bool)(hb:Below W.heap.size W W'):
 s.post enc P f false true false false W args (.bool true) W':=by
 have hW':=hW
 obtain⟨p,q,hA,hV,hpq,hz,hn⟩:=hW
 rw[hv]at hV
 obtain⟨rfl,rfl⟩:=trodVars_none hV
 have hbp:before=p:=by simpa using hpq
 subst hbp
 obtain⟨h1,h2,h3⟩:=hfn
 have hlt:∀x∈before,x.block<W.heap.size:=fun x hx=>by simpa using hW'.lt x hx
 refine⟨ds,[],before,[],before,[],hW',?_,?_,?_,hb.frame _,fun h=>by cases h⟩
 ·rw[List.append_nil,h1,hres]
  exact trodAll_cons_mk (shut_bool htb _) trodAll_mk0
 ·rw[List.append_nil,h2]
  exact trodAll_stays hl hb hr hA hlt
 ·rw[List.append_nil,h3,hv]
  rfl
end
end Go.A
end
section
set_option maxRecDepth 100000
namespace Go.A.Pk
open Go Go.Proofs Go.Joins Go.ChangeShapes Go.WideShapes Go.RowKit Go.Deep
structure Ob where
 vs:List Value
 sz:Nat
 b:Nat
 d:Nat
 e:Nat
def obsL:Nat→List Ob→List (Nat×AObj)
 |_,[]=>[]
 |n,o::l=>(n, .cells o.vs false o.sz)::obsL (n+1) l
abbrev Gl:=List (Nat×List Value)
def glL(G:Gl)(l:List (Nat×AObj)):List (Nat×AObj):=match G with
 |[]=>l
 |(g,vs)::G=>(g, .cells vs false 1)::glL G l
def glM(G:Gl)(f:Mu):Mu:=match G with
 |[]=>f
 |(g,vs)::G=>fun x=>if x=g then some ⟨g,0,vs.length,1⟩else glM G f x
def obH(G:Gl)(l:List Ob):Heap:=⟨glL G (obsL 1000 l),1000+l.length,[]⟩
def obM(G:Gl)(l:List Ob):Mu:=glM G fun x=>if 1000≤x then(l[x-1000]?).map fun o=>⟨o.b,o.d,o.e,o.sz⟩else none
structure ObOk (W:World) (μ:Mu) (o:Ob):Prop where
 ok:∃c el fz,W.heap[o.b]? =some (.cells c el fz)∧o.d+o.vs.length≤o.e∧o.e≤c.size∧∀i,i<o.vs.length→∃v',c[o.d+i]? =some v'∧VR μ (gv o.vs i) v'
theorem obsL_get:∀(l:List Ob) (n x:Nat),getO (obsL n l) x=if n≤x then(l[x-n]?).map fun o=> .cells o.vs false o.sz else none
 |[],n,x=>by simp[obsL,getO]
 |o::l,n,x=>by
  simp only[obsL,getO,cond_eq_ite,beq_eq,decide_eq_true_eq]
  by_cases hx:n=x
  ·subst hx
   rw[if_pos rfl,if_pos (Nat.le_refl _),Nat.sub_self]
   rfl
  ·rw[if_neg hx,obsL_get l (n+1) x]
   by_cases h1:n≤x
   ·rw[if_pos h1,if_pos (by omega),show x-n=(x-(n+1))+1 by omega,List.getElem?_cons_succ]
   ·rw[if_neg h1,if_neg (by omega)]
structure GlOk (W:World) (G:Gl):Prop where
 ok:∀q∈G,q.1<Tryz.prog.globals.size∧(∃t fz,W.heap[q.1]? =some (.cells q.2.toArray t fz))∧∀v∈q.2,noRef v=true
 nd:(G.map (·.1)).Nodup
theorem glL_get(G:Gl)(l:List (Nat×AObj))(x:Nat):(∃vs,(x,vs)∈G∧getO (glL G l) x=some (.cells vs false 1))∨((∀vs,(x,vs) ∉ G)∧getO (glL G l) x=getO l x):=by
 induction G with
 |nil=>exact .inr ⟨fun vs h=>(nomatch h),rfl⟩
 |cons q G ih=>
  obtain⟨g,vs⟩:=q
  by_cases hx:x=g
  ·subst hx
   refine .inl ⟨vs,List.mem_cons_self,?_⟩
   simp[glL,getO]
  ·have e:getO (glL ((g,vs)::G) l) x=getO (glL G l) x:=by
    simp only[glL,getO,cond_eq_ite,beq_eq,decide_eq_true_eq,if_neg (Ne.symm hx)]
   rw[e]
   rcases ih with⟨us,h1,h2⟩|⟨h1,h2⟩
   ·exact .inl ⟨us,List.mem_cons_of_mem _ h1,h2⟩
   ·exact .inr ⟨fun us h=>by
     rcases List.mem_cons.1 h with h|h
     ·cases h;exact hx rfl
     ·exact h1 us h,h2⟩
theorem glM_get{G:Gl}(hn:(G.map (·.1)).Nodup)(f:Mu)(x:Nat):(∀vs,(x,vs)∈G→glM G f x=some ⟨x,0,vs.length,1⟩)∧((∀vs,(x,vs) ∉ G)→glM G f x=f x):=by
 induction G with
 |nil=>exact⟨fun vs h=>by(cases h),fun _=>rfl⟩
 |cons q G ih=>
  obtain⟨g,us⟩:=q
  rw[List.map_cons,List.nodup_cons]at hn
  obtain⟨i1,i2⟩:=ih hn.2
  refine⟨fun vs h=> ?_,fun h=> ?_⟩
  ·rcases List.mem_cons.1 h with h|h
   ·cases h
    simp[glM]
   ·have:x≠g:=fun e=>hn.1 (List.mem_map.2 ⟨(x,vs),h,e⟩)
    simp only[glM,if_neg this]
    exact i1 vs h
  ·have:x≠g:=fun e=>h us (by rw[e];exact List.mem_cons_self)
   simp only[glM,if_neg this]
   exact i2 fun vs hv=>h vs (List.mem_cons_of_mem _ hv)
theorem glob1000{n:Nat}(h:n<Tryz.prog.globals.size):n<1000:=by
 have:=globs_le;omega
theorem obM_get{W:World}{G:Gl}(hG:GlOk W G)(l:List Ob)(x:Nat)(h:1000≤x):obM G l x=(l[x-1000]?).map fun o=>⟨o.b,o.d,o.e,o.sz⟩:=by
 unfold obM
 rw[(glM_get hG.nd _ x).2 fun vs hv=>by have:=glob1000 (hG.ok _ hv).1;simp only at this;omega,if_pos h]
theorem obH_gl{W:World}{G:Gl}(hG:GlOk W G)(l:List Ob){g:Nat}{vs:List Value}(h:(g,vs)∈G):(obH G l).get g=some (.cells vs false 1):=by
 show getO (glL G (obsL 1000 l)) g=_
 rcases glL_get G (obsL 1000 l) g with⟨us,h1,h2⟩|⟨h1,_⟩
 ·rw[h2]
  have e:us=vs:=by
   have q1:=(glM_get hG.nd (fun _=>none) g).1 _ h
   clear h2
   have hn:=hG.nd
   clear hG q1
   induction G with
   |nil=>cases h
   |cons q G ih=>
    rw[List.map_cons,List.nodup_cons]at hn
    rcases List.mem_cons.1 h with e1|e1
    ·rcases List.mem_cons.1 h1 with e2|e2
     ·rw[←e1]at e2;exact(Prod.mk.inj e2).2
     ·exact(hn.1 (List.mem_map.2 ⟨_,e2,by rw[←e1]⟩)).elim
    ·rcases List.mem_cons.1 h1 with e2|e2
     ·exact(hn.1 (List.mem_map.2 ⟨_,e1,by rw[←e2]⟩)).elim
     ·exact ih e1 e2 hn.2
  rw[e]
 ·exact(h1 vs h).elim
theorem obH_some{W:World}{G:Gl}(hG:GlOk W G){l:List Ob}{x:Nat}{a:AObj}(h:(obH G l).get x=some a):(∃vs,(x,vs)∈G∧a= .cells vs false 1∧obM G l x=some ⟨x,0,vs.length,1⟩)∨(1000≤x∧∃o,l[x-1000]? =some o∧a= .cells o.vs false o.sz∧obM G l x=some ⟨o.b,o.d,o.e,o.sz⟩):=by
 have h':getO (glL G (obsL 1000 l)) x=some a:=h
 rcases glL_get G (obsL 1000 l) x with⟨vs,h1,h2⟩|⟨h1,h2⟩
 ·rw[h2]at h'
  cases h'
  exact .inl ⟨vs,h1,rfl,(glM_get hG.nd _ x).1 vs h1⟩
 ·rw[h2,obsL_get]at h'
  split at h'
  ·rename_i h8
   cases hl:l[x-1000]? with
   |none=>rw[hl]at h';cases h'
   |some o=>
    rw[hl]at h';cases h'
    exact .inr ⟨h8,o,rfl,rfl,by rw[obM_get hG l x h8,hl];rfl⟩
  ·cases h'
theorem obM_some{W:World}{G:Gl}(hG:GlOk W G){l:List Ob}{x:Nat}{k:Blk}(h:obM G l x=some k):(∃vs,(x,vs)∈G∧k=⟨x,0,vs.length,1⟩)∨(1000≤x∧∃o,l[x-1000]? =some o∧k=⟨o.b,o.d,o.e,o.sz⟩):=by
 by_cases hg:∃vs,(x,vs)∈G
 ·obtain⟨vs,hv⟩:=hg
  have:=(glM_get hG.nd (fun x=>if 1000≤x then(l[x-1000]?).map fun o=>(⟨o.b,o.d,o.e,o.sz⟩:Blk)else none) x).1 vs hv
  exact .inl ⟨vs,hv,(Option.some.inj (this.symm.trans h)).symm⟩
 ·have:=(glM_get hG.nd (fun x=>if 1000≤x then(l[x-1000]?).map fun o=>(⟨o.b,o.d,o.e,o.sz⟩:Blk)else none) x).2 fun vs hv=>hg ⟨vs,hv⟩
  have h:=this.symm.trans h
  split at h
  ·rename_i h8
   cases hl:l[x-1000]? with
   |none=>rw[hl]at h;cases h
   |some o=>rw[hl]at h;cases h;exact .inr ⟨h8,o,rfl,rfl⟩
  ·cases h
theorem R.obs{W:World}{G:Gl}(hG:GlOk W G){l:List Ob}(H:∀o∈l,ObOk W (obM G l) o):R Tryz.prog (obM G l) (obH G l) W:=by
 refine⟨Nat.le_trans globs_le (Nat.le_add_right _ _),fun g o hgs hx=> ?_,fun x o hx=> ?_,fun x o hx=> ?_,fun x k hk=> ?_,fun x y o o' k k' hne hx hy _ _ hk hk' _=> ?_⟩
 ·rcases obH_some hG hx with⟨vs,h1,rfl,h3⟩|⟨h8,_⟩
  ·obtain⟨_,⟨t,fz,hw⟩,_⟩:=hG.ok _ h1
   refine⟨_,h3,rfl,rfl,fun _ _ c' t' fz' hc'=> ?_⟩
   rw[hw]at hc'
   cases hc'
   show vs.length=vs.toArray.size
   simp
  ·have:=glob1000 hgs;omega
 ·rcases obH_some hG hx with⟨vs,h1,rfl,h3⟩|⟨h8,ob,hl,rfl,h3⟩
  ·obtain⟨_,⟨t,fz,hw⟩,hn⟩:=hG.ok _ h1
   intro k hk
   rw[h3]at hk
   cases hk
   refine⟨rfl,vs.toArray,t,fz,hw,by show 0+vs.length≤vs.length;omega,by simp,fun i hi=> ?_,fun h=>by cases h⟩
   refine⟨vs[i],by show vs.toArray[0+i]? =_;rw[Nat.zero_add,List.getElem?_toArray,List.getElem?_eq_getElem hi],?_⟩
   have e:gv vs i=vs[i]'hi:=by unfold gv;rw[lget_eq,List.getElem?_eq_getElem hi];rfl
   rw[e]
   exact(VR.noRef (hn _ (List.getElem_mem _))).1
  ·intro k hk
   rw[h3]at hk
   cases hk
   obtain⟨c,el,fz,hW,h1,h2,hv⟩:=(H ob (List.mem_of_getElem? hl)).ok
   exact⟨rfl,c,el,fz,hW,h1,h2,hv,fun h=>by cases h⟩
 ·rcases obH_some hG hx with⟨vs,h1,rfl,h3⟩|⟨h8,ob,hl,rfl,h3⟩
  ·have:=glob1000 (hG.ok _ h1).1
   show x<1000+l.length
   simp only at this;omega
  ·have:=(List.getElem?_eq_some_iff.1 hl).1
   show x<1000+l.length
   omega
 ·rcases obM_some hG hk with⟨vs,h1,rfl⟩|⟨h8,ob,hl,rfl⟩
  ·obtain⟨hlt,⟨t,fz,hw⟩,hn⟩:=hG.ok _ h1
   have:=glob1000 hlt
   exact⟨by show x<1000+l.length;simp only at this;omega,(Array.getElem?_eq_some_iff.1 hw).1⟩
  ·have:=(List.getElem?_eq_some_iff.1 hl).1
   obtain⟨c,el,fz,hW,_⟩:=(H ob (List.mem_of_getElem? hl)).ok
   exact⟨by show x<1000+l.length;omega,(Array.getElem?_eq_some_iff.1 hW).1⟩
 ·rcases obH_some hG hx with⟨vs,h1,rfl,h3⟩|⟨h8,ob,hl,rfl,h3⟩<;>rcases obH_some hG hy with⟨vs',h1',rfl,h3'⟩|⟨h8',ob',hl',rfl,h3'⟩<;>exact⟨rfl,rfl⟩
theorem obH_ro{W:World}{G:Gl}(hG:GlOk W G){l:List Ob}:∀b o,(obH G l).get b=some o→o.ro=true∨o.live=false:=fun b o hx=>by
 rcases obH_some hG hx with⟨vs,h1,rfl,h3⟩|⟨h8,ob,hl,rfl,h3⟩<;>exact .inl rfl
theorem obsL_keys:∀(l:List Ob) (n:Nat),((obsL n l).map (·.1)).Nodup∧∀b∈(obsL n l).map (·.1),n≤b∧b<n+l.length
 |[],n=>⟨by simp[obsL],fun b hb=>by simp[obsL]at hb⟩
 |o::l,n=>by
  obtain⟨h1,h2⟩:=obsL_keys l (n+1)
  refine⟨?_,fun b hb=> ?_⟩
  ·simp only[obsL,List.map_cons,List.nodup_cons]
   exact⟨fun q=>by have:=(h2 n q).1;omega,h1⟩
  ·simp only[obsL,List.map_cons,List.mem_cons]at hb
   rcases hb with rfl|hb
   ·simp
   ·have:=h2 b hb
    simp only[List.length_cons]
    omega
theorem glL_keys:∀{G:Gl} {l:List (Nat×AObj)},(glL G l).map (·.1)=G.map (·.1)++l.map (·.1)
 |[],l=>rfl
 |(g,vs)::G,l=>by
  show g::(glL G l).map (·.1)=_
  rw[glL_keys];rfl
theorem obH_rdy{W:World}{G:Gl}(hG:GlOk W G)(l:List Ob):Rdy (obH G l):=by
 refine⟨⟨?_,fun b hb=> ?_⟩,rfl⟩
 ·show((glL G (obsL 1000 l)).map (·.1)).Nodup
  rw[glL_keys,List.nodup_append]
  refine⟨hG.nd,(obsL_keys l 1000).1,fun a ha b hb e=> ?_⟩
  obtain⟨q,hq,rfl⟩:=List.mem_map.1 ha
  have h1:=glob1000 (hG.ok _ hq).1
  have h2:=((obsL_keys l 1000).2 b hb).1
  omega
 ·have hb':b∈(glL G (obsL 1000 l)).map (·.1):=hb
  rw[glL_keys]at hb'
  show b<1000+l.length
  rcases List.mem_append.1 hb' with q|q
  ·obtain⟨q,hq,rfl⟩:=List.mem_map.1 q
   have h1:=glob1000 (hG.ok _ hq).1
   omega
  ·exact((obsL_keys l 1000).2 b q).2
theorem St.below{μ μ':Mu}{h h':Heap}{W W':World}(s:St μ h W μ' h' W')(hro:∀b o,h.get b=some o→o.ro=true∨o.live=false):Below W.heap.size W W':=
 ⟨s.same.os,s.same.tape,s.same.out,s.le,fun r hr=>s.keep r hr fun⟨b,o,k,g1,g2,g3,_⟩=>by
  rcases hro b o g1 with q|q
  ·rw[q]at g3;cases g3
  ·rw[q]at g2;cases g2⟩
end Go.A.Pk
end
section
set_option maxRecDepth 100000
namespace Go.A.Pk
open Go Go.Proofs Go.Joins Go.ChangeShapes Go.WideShapes Go.RowKit Go.Deep
section
variable {H:Type} {enc:TypeId×Value→H} {W:World} {base:Nat} {spare:Nat→Bool} {held:Bool}
theorem cells22:Tryz.prog.cellsOf 22=1:=by kernel_rfl
theorem cells24:Tryz.prog.cellsOf 24=8:=by kernel_rfl
theorem solid_cells{fuel:Nat}{cs:List Value}{x:DataW H×List MemPlace}(h:DataW.trod enc Tryz.prog W base spare held fuel 24 cs=some x):∃pl,IsS pl∧cs=us pl:=by
 obtain⟨xs,m,_,_,hl,hxl,hg⟩:=DataW.trod_array Tryz.underlying24 h
 rw[cells24]at hl
 have key:∀i,i<8→∃n:Nat,n<U64∧cs[i]? =some (.int .u64 (n:Int)):=fun i hi=>by
  have hg:=hg i hi
  rw[cells22]at hg
  have hx:xs[i]? =some xs[i]:=List.getElem?_eq_getElem (by omega)
  rw[hx]at hg
  obtain⟨z,hz,_,hw⟩:=DataW.trod_int Tryz.underlying22 hg
  have hb:0≤z∧z≤18446744073709551615:=by
   simpa[Lit.wf,IntKind.min,IntKind.max,IntKind.signed,IntKind.bits]using hw
  obtain⟨n,rfl⟩:=Int.eq_ofNat_of_zero_le hb.1
  refine⟨n,by unfold U64;omega,?_⟩
  have hz2:(cs.drop (i*1)).take 1=[Value.int .u64 (n:Int)]:=hz
  have hz':((cs.drop (i*1)).take 1)[0]? =some (.int .u64 (n:Int)):=by rw[hz2];rfl
  rw[List.getElem?_take_of_lt (by omega),List.getElem?_drop]at hz'
  simpa using hz'
 let f:Value→Nat:=fun v=>match v with| .int _ n=>n.toNat|_=>0
 refine⟨cs.map f,⟨by simpa using hl,fun x hx=> ?_⟩,?_⟩
 ·obtain⟨y,hy,rfl⟩:=List.mem_map.1 hx
  obtain⟨i,hi,rfl⟩:=List.mem_iff_getElem.1 hy
  obtain⟨n,hn,hk⟩:=key i (by omega)
  rw[List.getElem?_eq_getElem hi,Option.some.injEq]at hk
  rw[hk];exact hn
 ·apply List.ext_getElem?
  intro i
  by_cases hi:i<8
  ·obtain⟨n,hn,hk⟩:=key i hi
   rw[hk]
   simp only[us,List.getElem?_map,hk,z7]
   rfl
  ·rw[List.getElem?_eq_none (by omega),List.getElem?_eq_none (by rw[us_length,List.length_map];omega)]
instance:Inhabited Rd:=⟨⟨0,0,0,[],0⟩⟩
end
def tabV:List Value:=debL.map fun n=> .int .u8 (n:Nat)
abbrev TabAt(W:World):Prop:=∃t fz,W.heap[2]? =some (.cells tabV.toArray t fz)
theorem TabAt.gl{W:World}(h:TabAt W):GlOk W [(2,tabV)]:=by
 refine⟨fun q hq=> ?_,by simp⟩
 rw[List.mem_singleton.1 hq]
 refine⟨of_decide_eq_true (by kernel_rfl),h,fun v hv=> ?_⟩
 simp only[tabV,List.mem_map]at hv
 obtain⟨n,_,rfl⟩:=hv
 rfl
theorem tab_named:Tryz.prog.globalNamed "math/bits.deBruijn64tab" =some 2:=by kernel_rfl
theorem tab_type:(Tryz.prog.globals[2]?).map (·.type)=some 369:=by kernel_rfl
theorem tab_elem:∃e,Tryz.prog.underlying 369=some (.array 64 e)∧Tryz.prog.underlying e=some (.int .u8)∧Tryz.prog.cellsOf e=1∧Tryz.prog.cellsOf 369=64:=⟨_,Tryz.underlying369,by kernel_rfl,by kernel_rfl,by kernel_rfl⟩
theorem tab_at{W:World}{d:DataW Unit}{rest:List (String×DataW Unit)}(hd:d=Lib.tabData .u8 (debL.map fun n:Nat=>(n:Int)))(h:laidMet Tryz.prog (("math/bits.deBruijn64tab",d)::rest) W):TabAt W:=by
 subst hd
 obtain⟨e,h1,h2,h3,h4⟩:=tab_elem
 have hT:=Lib.tabIs_of_head tab_named tab_type h1 h2 h3 h4 h
 unfold Lib.TabIs World.var? at hT
 rw[tab_named]at hT
 simp only[Option.bind_some]at hT
 split at hT
 ·rename_i c t fz he
  refine⟨t,fz,he.trans ?_⟩
  have:c=tabV.toArray:=by
   rw[Option.some.inj hT]
   simp[tabV,List.map_map,Function.comp_def]
  rw[this]
 ·cases hT
end Go.A.Pk
end
section
set_option maxRecDepth 100000
namespace Go.A.Pk
open Go Go.Proofs Go.Joins Go.ChangeShapes Go.WideShapes Go.RowKit Go.Deep
section
variable {H:Type} {enc:TypeId×Value→H} {W:World} {base:Nat} {spare:Nat→Bool} {held:Bool}
theorem okWide_arr8S{t e:TypeId}{n:Nat}{v:Value}(ht:Tryz.prog.underlying t=some (.array n e))(h:Value.okWide Tryz.prog W .any base t v):∃cs,v= .agg cs:=by
 simp only[Value.okWide,ht]at h
 obtain⟨cs,h1,_⟩:=h
 exact⟨cs,h1⟩
theorem open_solid{v:Value}{d:DataW H}{p:List MemPlace}(hv:Value.okWide Tryz.prog W .any base 24 v)(h:DataW.Trod enc Tryz.prog W 0 spare held 24 v d p):∃s:List Nat,IsS s∧v=sv s:=by
 obtain⟨cs,rfl⟩:=okWide_arr8S Tryz.underlying24 hv
 obtain⟨fuel,hf⟩:=h
 obtain⟨s,hs,hk⟩:=solid_cells hf
 refine⟨s,hs,?_⟩
 have:cs=(us s).toArray:=by rw[←hk];simp[Value.cells]
 rw[this];rfl
end
end Go.A.Pk
end
section
set_option maxRecDepth 100000
namespace Go.A.Pk
open Go Go.Proofs Go.Joins Go.ChangeShapes Go.WideShapes Go.RowKit Go.Deep
section
variable {H:Type} {enc:TypeId×Value→H} {W:World} {base:Nat} {spare:Nat→Bool} {held:Bool}
theorem cells26:Tryz.prog.cellsOf 26=16:=by kernel_rfl
theorem wood_cells{fuel:Nat}{cs:List Value}{x:DataW H×List MemPlace}(h:DataW.trod enc Tryz.prog W base spare held fuel 26 cs=some x):∃w:List Nat×List Nat,IsW w∧cs=wL w:=by
 obtain⟨xs,n,_,hx,hcl,hlen,hg⟩:=DataW.trod_struct Tryz.underlying26 h
 rw[cells26]at hcl
 match cs,hcl with
 |[c0,c1,c2,c3,c4,c5,c6,c7,c8,c9,c10,c11,c12,c13,c14,c15],_=>
  match xs,hlen with
  |[yq0,yq1],_=>
   have g0:DataW.trod enc Tryz.prog W base spare held n 24 [c0,c1,c2,c3,c4,c5,c6,c7]=some yq0:=by have:=hg 0 _ rfl;simpa[cells24]using this
   have g1:DataW.trod enc Tryz.prog W base spare held n 24 [c8,c9,c10,c11,c12,c13,c14,c15]=some yq1:=by have:=hg 1 _ rfl;simpa[cells24]using this
   obtain⟨s0,h0,e0⟩:=solid_cells g0
   obtain⟨s1,h1,e1⟩:=solid_cells g1
   refine⟨(s0,s1),⟨h0,h1⟩,?_⟩
   show _=us s0++us s1
   rw[←e0,←e1];rfl
theorem open_wood{v:Value}{d:DataW H}{p:List MemPlace}(hv:Value.okWide Tryz.prog W .any base 26 v)(h:DataW.Trod enc Tryz.prog W 0 spare held 26 v d p):∃w:List Nat×List Nat,IsW w∧v=wV w:=by
 obtain⟨cs,rfl,_⟩:=okWide_struct Tryz.underlying26 hv
 obtain⟨fuel,hf⟩:=h
 have hf:DataW.trod enc Tryz.prog W 0 spare held fuel 26 cs.toList=some (d,p):=by simpa[Value.cells]using hf
 obtain⟨w,hw,e⟩:=wood_cells hf
 refine⟨w,hw,?_⟩
 have hcs:cs=cs.toList.toArray:=by simp
 rw[hcs,e];rfl
theorem open_bool4{v:Value}(hv:Value.okWide Tryz.prog W .any base 4 v):∃b,v= .bool b:=okWide_bool Tryz.underlying4 hv
end
end Go.A.Pk
end
section
set_option maxRecDepth 100000
namespace Go.A.Pk
open Go Go.Proofs
theorem c10:compF Tryz.prog Tryz.f10 [[2,3,4],[2,3,4,7,8],[2,3,4,7,8,9,10],[2,3,4,7,8,9,10,11,12,13],[2,3,4,8,9,11,12,49],[6],[2,3,4,9,11,12,51],[6],[2,3,9,11,12,15],[2,3,11,12,15,16],[2,3,11,12,15,78],[6],[2,3,11,15,80],[6],[6]]=some f10:=by kernel_rfl
theorem c31:compF Tryz.prog Tryz.f31 [[1],[8],[2],[2]]=some f31:=by kernel_rfl
theorem c35:compF Tryz.prog Tryz.f35 [[2,3],[4]]=some f35:=by kernel_rfl
theorem c49:compF Tryz.prog Tryz.f49 [[2,3],[2,3,6],[2,3,6,14],[2,3,6],[2,3,6,19],[4,5],[2,3,8],[8,10],[10,35],[4,5],[36],[4,5],[4,5]]=some f49:=by kernel_rfl
theorem c50:compF Tryz.prog Tryz.f50 [[2,3,4,6],[2,3,6,9,10],[2,3,6,9,10,17],[6,7,8],[2,3,6,9,22],[6,7,8],[3,6,30],[6,7,8],[6,7,8]]=some f50:=by kernel_rfl
theorem c51:compF Tryz.prog Tryz.f51 [[2,3,4],[2,3,4,19],[4,5],[2,3,4,25],[4,5],[2,3,4,6],[2,3,4,6,28],[2,3,4,6,7],[2,3,4,6,7,9],[2,3,4,6,7,9,11],[2,3,4,6,7,9,11,51],[2,3,4,6,7,9,11,12],[2,3,4,6,7,9,11,12,63],[2,3,4,6,7,9,11,12,13],[2,3,4,6,7,9,11,12,13,75],[2,3,4,6,7,9,11,12,13,14],[2,3,4,6,7,9,11,12,13,16],[2,3,4,6,7,9,11,12,13,89],[4,5],[2,3,4,6,7,9,11,12,13],[2,3,4,6,7,9,11,12],[2,3,4,6,7,9,11],[2,3,4,6],[4,5]]=some f51:=by kernel_rfl
theorem c52:compF Tryz.prog Tryz.f52 [[2,3],[4]]=some f52:=by kernel_rfl
theorem c84:compF Tryz.prog Tryz.f84 [[1],[2]]=some f84:=by kernel_rfl
theorem c93:compF Tryz.prog Tryz.f93 [[0],[0,6],[2],[0,3],[0,3,10],[0,3,18],[2],[0,3],[2]]=some f93:=by kernel_rfl
theorem c137:compF Tryz.prog Tryz.f137 [[1,2,4],[1,2,4,14],[4,5],[1,2,4,6],[1,4,6,7],[1,4,6,7,8],[1,4,6,7,8,21],[1,4,6,7,8],[1,4,6,7,8],[4,5]]=some f137:=by kernel_rfl
theorem c138:compF Tryz.prog Tryz.f138 [[1,2],[2,4],[2,4,11],[2,3],[2,4,5],[2,4,5,6],[2,4,5,6,23],[2,4,5,6],[2,4,5,6],[2,4,5,6],[2,4,5,6],[2,4,5,6],[2,4,5,6],[2,4,5,6],[2,3]]=some f138:=by kernel_rfl
theorem c139:compF Tryz.prog Tryz.f139 [[1,2,3,4,8],[1,2,3,8,10],[1,2,3,8,10,33],[8,9],[1,2,3,8,10,11],[1,2,3,8,10,11,12],[1,2,3,8,10,11,12,38],[1,2,3,8,10,11,12,13],[1,2,3,8,10,11,12,13,51],[8,9],[1,2,3,8,10,11,12],[1,2,3,8,10,11,12],[8,9]]=some f139:=by kernel_rfl
theorem c140:compF Tryz.prog Tryz.f140 [[2,3,4],[2,3,4,5],[2,3,4,5,7],[2,3,4,5],[2,3,4,5],[4]]=some f140:=by kernel_rfl
theorem c170:compF Tryz.prog Tryz.f170 [[1],[1,3],[1,3,4],[1,3,4,9],[1,3,4,5],[1,3,4,5,13],[1,3,4,5,6],[1,3,4,5,6,17],[1,3,4,5,6,7],[1,3,4,5,6,7,26],[1,3,4,5,6],[1,3,4,5,6],[1,3,4,5],[1,3,4],[2]]=some f170:=by kernel_rfl
theorem c171:compF Tryz.prog Tryz.f171 [[2,3],[4]]=some f171:=by kernel_rfl
theorem c221:compF Tryz.prog Tryz.f221 [[2,3,4],[2,4],[4]]=some f221:=by kernel_rfl
theorem c222:compF Tryz.prog Tryz.f222 [[1,2,4],[1,2,4],[1,2,4,5],[1,2,4,5,13],[1,2,4,5],[1,2,4,5],[4]]=some f222:=by kernel_rfl
theorem c223:compF Tryz.prog Tryz.f223 [[0],[2]]=some f223:=by kernel_rfl
theorem c224:compF Tryz.prog Tryz.f224 [[1,2,3,4,8],[8]]=some f224:=by kernel_rfl
theorem c225:compF Tryz.prog Tryz.f225 [[1],[2]]=some f225:=by kernel_rfl
theorem c267:compF Tryz.prog Tryz.f267 [[1,2,4],[2,4,5],[2,4,5,6],[4],[2,4,5,16],[4],[2,4,5,27],[4],[2,4,5,37],[4],[2,4,47],[4],[4]]=some f267:=by kernel_rfl
noncomputable def tree10:Tr:=(.node (.node (.node (.node (.node (.node .nil 10 f10 .nil) 21 (.prim pSd) (.node .nil 31 f31 .nil)) 33 f33 (.node (.node .nil 34 f34 .nil) 35 f35 .nil)) 49 f49 (.node (.node (.node .nil 50 f50 .nil) 51 f51 (.node .nil 52 f52 .nil)) 84 f84 (.node (.node .nil 89 f89 .nil) 90 f90 .nil))) 93 f93 (.node (.node (.node (.node .nil 120 f120 .nil) 121 f121 (.node .nil 123 f123 .nil)) 126 f126 (.node (.node .nil 127 f127 .nil) 137 f137 .nil)) 138 f138 (.node (.node (.node .nil 139 f139 .nil) 140 f140 .nil) 170 f170 (.node (.node .nil 171 f171 .nil) 188 f188 .nil)))) 209 f209 (.node (.node (.node (.node (.node .nil 210 f210 .nil) 211 f211 (.node .nil 212 f212 .nil)) 213 f213 (.node (.node .nil 214 f214 .nil) 215 f215 .nil)) 221 f221 (.node (.node (.node .nil 222 f222 .nil) 223 f223 .nil) 224 f224 (.node (.node .nil 225 f225 .nil) 254 f254 .nil))) 261 f261 (.node (.node (.node (.node .nil 262 f262 .nil) 263 f263 (.node .nil 264 f264 .nil)) 265 f265 (.node (.node .nil 266 f266 .nil) 267 f267 .nil)) 317 f317 (.node (.node (.node .nil 318 f318 .nil) 319 f319 .nil) 320 f320 (.node (.node .nil 321 f321 .nil) 322 f322 .nil)))))
noncomputable def T10:Nat→Option AFunc:=tree10.get
theorem all10:tree10.all (Entry Tryz.prog):=by
 unfold tree10
 exact(Tr.all_node (Tr.all_node (Tr.all_node (Tr.all_node (Tr.all_node (Tr.all_node Tr.all_nil (.of Tryz.func10 c10) Tr.all_nil) ok21 (Tr.all_node Tr.all_nil (.of Tryz.func31 c31) Tr.all_nil)) (.of Tryz.func33 c33) (Tr.all_node (Tr.all_node Tr.all_nil (.of Tryz.func34 c34) Tr.all_nil) (.of Tryz.func35 c35) Tr.all_nil)) (.of Tryz.func49 c49) (Tr.all_node (Tr.all_node (Tr.all_node Tr.all_nil (.of Tryz.func50 c50) Tr.all_nil) (.of Tryz.func51 c51) (Tr.all_node Tr.all_nil (.of Tryz.func52 c52) Tr.all_nil)) (.of Tryz.func84 c84) (Tr.all_node (Tr.all_node Tr.all_nil (.of Tryz.func89 c89) Tr.all_nil) (.of Tryz.func90 c90) Tr.all_nil))) (.of Tryz.func93 c93) (Tr.all_node (Tr.all_node (Tr.all_node (Tr.all_node Tr.all_nil (.of Tryz.func120 c120) Tr.all_nil) (.of Tryz.func121 c121) (Tr.all_node Tr.all_nil (.of Tryz.func123 c123) Tr.all_nil)) (.of Tryz.func126 c126) (Tr.all_node (Tr.all_node Tr.all_nil (.of Tryz.func127 c127) Tr.all_nil) (.of Tryz.func137 c137) Tr.all_nil)) (.of Tryz.func138 c138) (Tr.all_node (Tr.all_node (Tr.all_node Tr.all_nil (.of Tryz.func139 c139) Tr.all_nil) (.of Tryz.func140 c140) Tr.all_nil) (.of Tryz.func170 c170) (Tr.all_node (Tr.all_node Tr.all_nil (.of Tryz.func171 c171) Tr.all_nil) (.of Tryz.func188 c188) Tr.all_nil)))) (.of Tryz.func209 c209) (Tr.all_node (Tr.all_node (Tr.all_node (Tr.all_node (Tr.all_node Tr.all_nil (.of Tryz.func210 c210) Tr.all_nil) (.of Tryz.func211 c211) (Tr.all_node Tr.all_nil (.of Tryz.func212 c212) Tr.all_nil)) (.of Tryz.func213 c213) (Tr.all_node (Tr.all_node Tr.all_nil (.of Tryz.func214 c214) Tr.all_nil) (.of Tryz.func215 c215) Tr.all_nil)) (.of Tryz.func221 c221) (Tr.all_node (Tr.all_node (Tr.all_node Tr.all_nil (.of Tryz.func222 c222) Tr.all_nil) (.of Tryz.func223 c223) Tr.all_nil) (.of Tryz.func224 c224) (Tr.all_node (Tr.all_node Tr.all_nil (.of Tryz.func225 c225) Tr.all_nil) (.of Tryz.func254 c254) Tr.all_nil))) (.of Tryz.func261 c261) (Tr.all_node (Tr.all_node (Tr.all_node (Tr.all_node Tr.all_nil (.of Tryz.func262 c262) Tr.all_nil) (.of Tryz.func263 c263) (Tr.all_node Tr.all_nil (.of Tryz.func264 c264) Tr.all_nil)) (.of Tryz.func265 c265) (Tr.all_node (Tr.all_node Tr.all_nil (.of Tryz.func266 c266) Tr.all_nil) (.of Tryz.func267 c267) Tr.all_nil)) (.of Tryz.func317 c317) (Tr.all_node (Tr.all_node (Tr.all_node Tr.all_nil (.of Tryz.func318 c318) Tr.all_nil) (.of Tryz.func319 c319) Tr.all_nil) (.of Tryz.func320 c320) (Tr.all_node (Tr.all_node Tr.all_nil (.of Tryz.func321 c321) Tr.all_nil) (.of Tryz.func322 c322) Tr.all_nil)))))
theorem sound10:SoundT Tryz.prog T10:=soundT_of (by kernel_rfl) all10
theorem fns10:FnsLA T10:={th:={sv:={fi:={ft:={mp:={cp:={p:=sound10.primAS,f123:=by kernel_rfl,f213:=by kernel_rfl,f214:=by kernel_rfl,f264:=by kernel_rfl,f265:=by kernel_rfl,f266:=by kernel_rfl},tu:={p:=sound10.primAS,f263:=by kernel_rfl,f317:=by kernel_rfl,f318:=by kernel_rfl,f319:=by kernel_rfl,f320:=by kernel_rfl,f321:=by kernel_rfl,f322:=by kernel_rfl},f126:=by kernel_rfl,f127:=by kernel_rfl,f211:=by kernel_rfl,f215:=by kernel_rfl,f261:=by kernel_rfl,f262:=by kernel_rfl},bd:={cp:={p:=sound10.primAS,f123:=by kernel_rfl,f213:=by kernel_rfl,f214:=by kernel_rfl,f264:=by kernel_rfl,f265:=by kernel_rfl,f266:=by kernel_rfl},f210:=by kernel_rfl},li:={p:=sound10.primAS,f212:=by kernel_rfl},co:={p:=sound10.primAS,f188:=by kernel_rfl,f254:=by kernel_rfl},f35:=by kernel_rfl,f121:=by kernel_rfl,f209:=by kernel_rfl},f34:=by kernel_rfl,f120:=by kernel_rfl},f33:=by kernel_rfl,f89:=by kernel_rfl,f90:=by kernel_rfl},f50:=by kernel_rfl},rs:={rf:={tr:={cr:={hr:={p:=sound10.primAS,f171:=by kernel_rfl,f225:=by kernel_rfl},f170:=by kernel_rfl},f137:=by kernel_rfl,f139:=by kernel_rfl,f221:=by kernel_rfl,f222:=by kernel_rfl,f223:=by kernel_rfl,f224:=by kernel_rfl,f267:=by kernel_rfl},f51:=by kernel_rfl,f52:=by kernel_rfl,f84:=by kernel_rfl,f138:=by kernel_rfl,f140:=by kernel_rfl,f225:=by kernel_rfl},f31:=by kernel_rfl,f49:=by kernel_rfl,f93:=by kernel_rfl},f10:=by kernel_rfl,f21:=by kernel_rfl}
theorem laidG0{W:World}{G:Gl}(hG:GlOk W G):∃(h:Heap) (μ:Mu),R Tryz.prog μ h W∧(∀b o,h.get b=some o→o.ro=true∨o.live=false)∧Rdy h∧1000≤h.next∧(∀g vs,(g,vs)∈G→h.get g=some (.cells vs false 1)):=
 ⟨obH G [],obM G [],R.obs hG (fun o ho=>by cases ho),obH_ro hG,obH_rdy hG _,Nat.le_add_right _ _,fun g vs h=>obH_gl hG _ h⟩
open Go.RowKit in
theorem serves_calls{W:World}(V:TabAt W){w:List Nat×List Nat}(hw:IsW w){o:List Nat}(ho:IsS o)(q:Bool):Calls Tryz.prog 10 #[wV w,sv o, .bool q] W fun e W'=>e= .returned (.bool true)∧Below W.heap.size W W':=by
 obtain⟨h,μ,hRR,hro,hrd,hnx,hgl⟩:=laidG0 V.gl
 obtain⟨r',h',⟨m,hm⟩,rfl,rfl⟩:=law10 fns10 hrd (hgl 2 _ List.mem_cons_self) (by omega) hw ho q
 have hrun:=hm m (Nat.le_refl _)
 have ha:LR μ [wV w,sv o, .bool q] [wV w,sv o, .bool q]:= .cons (VR.noRef (noRef_wV w)).1 (.cons (VR.noRef (sv_noRef o)).1 (.cons (VR.noRef rfl).1 .nil))
 refine(acall_calls sound10 hrun hrd.log (by kernel_rfl) hRR ha).mono fun e W' hq=> ?_
 obtain⟨μ',q1,q2,q3⟩:=hq
 cases e with
 |returned v'=>
  have hv:VR μ' (.bool true) v':=q1
  cases hv
  exact⟨rfl,St.below q3 hro⟩
 |panicked _=>exact q1.elim
 |outgrown=>exact q1.elim
end Go.A.Pk
end
