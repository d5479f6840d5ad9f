/- Walks of functions, plain laws, the table. -/
import Derived.Test.YteafdpbjocdbbaaGreatDoorHU3
import Derived.Test.YteafdpbjocdbbaaGreatDoorHU1
import Derived.Test.YteafdpbjocdbbaaGreatDoorHD
import Derived.Test.YteafdpbjocdbbaaGreatDoorHU2
import Derived.Test.YteafdpbjocdbbaaGreatDoorHF
import Derived.Test.YteafdpbjocdbbaaGreatDoorHU0
set_option linter.all false
section
set_option maxRecDepth 100000
namespace Go.A.Pk
variable {T:Nat→Option ah}
theorem r8{l:List Kd}{kind:Nat}{x2:Int}{p:Int×Int}(h:¬ (0≤x2∧x2<(l.length:Int))):(jz l (kind,x2) p).1.ok=false:=by
 unfold jz
 rw[if_neg (by dsimp only;omega)]
 rfl
theorem sk{l:List Kd}{kind i:Nat}{k:Kd}{p:Int×Int}(h:l[i]? =some k):(jz l (kind,(i:Int)) p).1.ok=decide (isP k kind p):=by
 have hi:i<l.length:=(List.getElem?_eq_some_iff.1 h).1
 unfold jz
 rw[if_pos (by dsimp only;omega),Int.toNat_natCast,h]
set_option maxHeartbeats 16000000 in
theorem xN(F:FnsNd T){h:Heap}(hr:Rdy h){bb n c:Nat}{sa:Option Addr}{wv:Value}{kerf:Int}{l:List Kd}(gb:h.get bb=some (.cells [.slice sa n c, .int .i64 kerf,wv] true 1))(hs:aA h 5 (.slice sa n c) n (kcs l))(hn:n<1000)(p:Int×Int)(x:Nat×Int):
 Pu T 170 [.pointer (some ⟨bb,0,none⟩),cT p,lX x] h (.bool (jz l (1,x.2) p).1.ok):=by
 refine .of F.toFnsC.p F.f170 hr rfl ?_
 have hx:Ext h ((h.push (.cells [.int .i64 p.1, .int .i64 p.2] true 1)).push (.cells [.int .u8 x.1, .int .i64 x.2] true 1)):=((Ext.refl h).push _).push _
 have kb:=WF.aT hr.wf gb
 obtain rfl:n=l.length:=by have:=hs.len;rw[cP]at this;omega
 obtain⟨p1,p2⟩:=p
 obtain⟨x1,x2⟩:=x
 dsimp only at hx⊢
 unfold cT lX
 have C:=xq F.toFnsC (.of (hx.wf hr.wf)) (a:=sa) (n:=l.length) (c:=c) kerf x2 (by omega)
 by_cases hk:0≤x2∧x2<(l.length:Int)
 ·rw[decide_eq_true hk]at C
  obtain⟨i,rfl⟩:=Int.eq_ofNat_of_zero_le hk.1
  have hi:i<l.length:=by omega
  obtain⟨k,hkl⟩:∃k,l[i]? =some k:=⟨l[i],List.getElem?_eq_getElem hi⟩
  rw[sk hkl]
  rcases hs.inv with⟨_,_,h0,_⟩|⟨b,o,cap',hv,s,hcap⟩
  ·omega
  ·cases hv
   obtain⟨vs,own,t,g1,g2⟩:=iE s hkl
   have kb1:=WF.aT hr.wf g1
   have e1:bG vs (o+i*5+1)=some (.int .i64 k.w):=by rw[mY g2 1 (by omega)];rfl
   have e2:bG vs (o+i*5+2)=some (.int .i64 k.h):=by rw[mY g2 2 (by omega)];rfl
   have L1:=fF p1 p2 k.w k.h
   have hz:decide (isP k 1 (p1,p2))=decide (p1=k.w∧p2=k.h):=by
    by_cases q:p1=k.w∧p2=k.h
    ·rw[decide_eq_true q,decide_eq_true];exact .inl ⟨rfl,q.1.symm,q.2.symm⟩
    ·rw[decide_eq_false q,decide_eq_false]
     rintro(⟨_,a1,a2⟩|⟨a1,_⟩)
     ·exact q ⟨a1.symm,a2.symm⟩
     ·cases a1
   rw[hz]
   generalize decide (p1=k.w∧p2=k.h)=bv at*
   clear hz g2 hkl
   refine y4 ?_;refine yB ?_;refine yB ?_;refine yM ?_;refine y3 ?_;refine aq ?_;refine cG ?_
   refine qM ?_;refine ak rfl rfl rfl (by exact rfl) (by exact rfl) (by exact rfl) (cC (by exact rfl)) ?_;refine qF ?_
   refine qN ?_
   refine qF ?_
   refine qL ?_
   refine qC ?_
   refine FW.puD C (by apply aa rfl;apply aa rfl;apply aa rfl;apply aa rfl;apply aa rfl;apply aa rfl;exact bT) ?_
   clear C
   refine qM ?_
   refine qN ?_
   refine qM ?_;refine ak rfl rfl rfl (by exact rfl) (by exact rfl) (by exact rfl) (cC (by exact rfl)) ?_;refine qF ?_
   refine qF ?_
   refine qL ?_
   refine qF ?_
   refine qL ?_
   refine ak rfl rfl rfl (by exact rfl) (by exact rfl) (by exact rfl) (aN (by exact rfl) (by exact rfl) (by omega)) ?_;refine qF ?_
   refine ak rfl rfl rfl (by exact rfl) (by exact rfl) (by exact rfl) (bt (by exact rfl) (by(simp(disch:=first|omega|(simp only[z1,z2];omega))only[z3,z4,z5,z6,z7,z1,z2, *];exact rfl)) (by assumption)) ?_
   refine qM ?_;refine ak rfl rfl rfl (by exact rfl) (by exact rfl) (by exact rfl) (cC (by exact rfl)) ?_;refine qF ?_
   refine qF ?_
   refine qL ?_
   refine qF ?_
   refine qL ?_
   refine ak rfl rfl rfl (by exact rfl) (by exact rfl) (by exact rfl) (aN (by exact rfl) (by exact rfl) (by omega)) ?_;refine qF ?_
   refine ak rfl rfl rfl (by exact rfl) (by exact rfl) (by exact rfl) (bt (by exact rfl) (by(simp(disch:=first|omega|(simp only[z1,z2];omega))only[z3,z4,z5,z6,z7,z1,z2, *];exact rfl)) (by assumption)) ?_
   refine ak rfl rfl rfl (by exact rfl) (by exact rfl) (by exact rfl) (ck (by exact rfl)) ?_
   refine ak rfl rfl rfl (by exact rfl) (by exact rfl) (by exact rfl) (kf (b:=bv) (by exact rfl) (by exact rfl) L1) ?_
   refine ak rfl rfl rfl (by exact rfl) (by exact rfl) (by exact rfl) (jI (by exact rfl) (by exact rfl)) ?_;refine qM ?_;refine cF ?_;refine y1 ?_;refine aP ?_;refine aH ?_
   exact aF hr.log rfl rfl
 ·rw[decide_eq_false hk]at C
  rw[r8 hk]
  refine y4 ?_;refine yB ?_;refine yB ?_;refine yM ?_;refine y3 ?_;refine aq ?_;refine cG ?_
  refine qM ?_;refine ak rfl rfl rfl (by exact rfl) (by exact rfl) (by exact rfl) (cC (by exact rfl)) ?_;refine qF ?_
  refine qN ?_
  refine qF ?_
  refine qL ?_
  refine qC ?_
  refine FW.puD C (by apply aa rfl;apply aa rfl;apply aa rfl;apply aa rfl;apply aa rfl;apply aa rfl;exact bT) ?_
  clear C
  refine qM ?_;refine aG rfl rfl rfl (by exact rfl) ?_;refine aG rfl rfl rfl (by exact rfl) ?_;refine aG rfl rfl rfl (by exact rfl) ?_;refine aG rfl rfl rfl (by exact rfl) ?_;refine aG rfl rfl rfl (by exact rfl) ?_;refine aG rfl rfl rfl (by exact rfl) ?_
  refine aG rfl rfl rfl (by exact rfl) ?_;refine aG rfl rfl rfl (by exact rfl) ?_;refine aG rfl rfl rfl (by exact rfl) ?_;refine aG rfl rfl rfl (by exact rfl) ?_;refine aG rfl rfl rfl (by exact rfl) ?_;refine aG rfl rfl rfl (by exact rfl) ?_;refine aG rfl rfl rfl (by exact rfl) ?_;refine aG rfl rfl rfl (by exact rfl) ?_
  refine aG rfl rfl rfl (by exact rfl) ?_;refine aG rfl rfl rfl (by exact rfl) ?_;refine aG rfl rfl rfl (by exact rfl) ?_;refine aG rfl rfl rfl (by exact rfl) ?_;refine aG rfl rfl rfl (by exact rfl) ?_;refine aG rfl rfl rfl (by exact rfl) ?_;refine aG rfl rfl rfl (by exact rfl) ?_;refine aG rfl rfl rfl (by exact rfl) ?_
  refine aG rfl rfl rfl (by exact rfl) ?_;refine ak rfl rfl rfl (by exact rfl) (by exact rfl) (by exact rfl) (lP (by exact rfl) (by exact rfl)) ?_;refine qM ?_;refine cF ?_;refine y1 ?_;refine aP ?_
  refine aH ?_
  exact aF hr.log rfl rfl
set_option maxHeartbeats 16000000 in
theorem vU(F:FnsNd T){h:Heap}(hr:Rdy h){bb n c:Nat}{sa:Option Addr}{wv:Value}{kerf:Int}{l:List Kd}(gb:h.get bb=some (.cells [.slice sa n c, .int .i64 kerf,wv] true 1))(hs:aA h 5 (.slice sa n c) n (kcs l))(hn:n<1000)(p:Int×Int)(x:Nat×Int):
 Pu T 171 [.pointer (some ⟨bb,0,none⟩),cT p,lX x] h (.bool (jz l (2,x.2) p).1.ok):=by
 refine .of F.toFnsC.p F.f171 hr rfl ?_
 have hx:Ext h ((h.push (.cells [.int .i64 p.1, .int .i64 p.2] true 1)).push (.cells [.int .u8 x.1, .int .i64 x.2] true 1)):=((Ext.refl h).push _).push _
 have kb:=WF.aT hr.wf gb
 obtain rfl:n=l.length:=by have:=hs.len;rw[cP]at this;omega
 obtain⟨p1,p2⟩:=p
 obtain⟨x1,x2⟩:=x
 dsimp only at hx⊢
 unfold cT lX
 have C:=xq F.toFnsC (.of (hx.wf hr.wf)) (a:=sa) (n:=l.length) (c:=c) kerf x2 (by omega)
 by_cases hk:0≤x2∧x2<(l.length:Int)
 ·rw[decide_eq_true hk]at C
  obtain⟨i,rfl⟩:=Int.eq_ofNat_of_zero_le hk.1
  have hi:i<l.length:=by omega
  obtain⟨k,hkl⟩:∃k,l[i]? =some k:=⟨l[i],List.getElem?_eq_getElem hi⟩
  rw[sk hkl]
  rcases hs.inv with⟨_,_,h0,_⟩|⟨b,o,cap',hv,s,hcap⟩
  ·omega
  ·cases hv
   obtain⟨vs,own,t,g1,g2⟩:=iE s hkl
   have kb1:=WF.aT hr.wf g1
   have e1:bG vs (o+i*5+1)=some (.int .i64 k.w):=by rw[mY g2 1 (by omega)];rfl
   have e2:bG vs (o+i*5+2)=some (.int .i64 k.h):=by rw[mY g2 2 (by omega)];rfl
   have e4:bG vs (o+i*5+4)=some (.bool k.j4):=by rw[mY g2 4 (by omega)];rfl
   have L1:=fF p1 p2 k.h k.w
   have hz:decide (isP k 2 (p1,p2))=(k.j4&&decide (p1=k.h∧p2=k.w)):=by
    by_cases q:k.j4=true∧p1=k.h∧p2=k.w
    ·rw[q.1,decide_eq_true q.2,decide_eq_true]
     ·rfl
     ·exact .inr ⟨rfl,q.1,q.2.1.symm,q.2.2.symm⟩
    ·rw[decide_eq_false]
     ·cases ht:k.j4 with
      |false=>rfl
      |true=>rw[decide_eq_false fun r=>q ⟨ht,r⟩];rfl
     ·rintro(⟨a1,_⟩|⟨_,a1,a2,a3⟩)
      ·cases a1
      ·exact q ⟨a1,a2.symm,a3.symm⟩
   rw[hz]
   generalize decide (p1=k.h∧p2=k.w)=bv at*
   generalize k.j4=tu at*
   clear hz g2 hkl
   refine y4 ?_;refine yB ?_;refine yB ?_;refine yM ?_;refine y3 ?_;refine aq ?_;refine cG ?_
   refine qM ?_;refine ak rfl rfl rfl (by exact rfl) (by exact rfl) (by exact rfl) (cC (by exact rfl)) ?_;refine qF ?_
   refine qN ?_
   refine qF ?_
   refine qL ?_
   refine qC ?_
   refine FW.puD C (by apply aa rfl;apply aa rfl;apply aa rfl;apply aa rfl;apply aa rfl;apply aa rfl;exact bT) ?_
   clear C
   cases tu with
   |true=>
    refine qM ?_;refine qM ?_;refine ak rfl rfl rfl (by exact rfl) (by exact rfl) (by exact rfl) (cC (by exact rfl)) ?_
    refine qF ?_;refine qF ?_
    refine qL ?_
    refine qF ?_
    refine qL ?_
    refine ak rfl rfl rfl (by exact rfl) (by exact rfl) (by exact rfl) (aN (by exact rfl) (by exact rfl) (by omega)) ?_;refine qF ?_
    refine ak rfl rfl rfl (by exact rfl) (by exact rfl) (by exact rfl) (bt (by exact rfl) (by(simp(disch:=first|omega|(simp only[z1,z2];omega))only[z3,z4,z5,z6,z7,z1,z2, *];exact rfl)) (by assumption)) ?_
    refine ak rfl rfl rfl (by exact rfl) (by exact rfl) (by exact rfl) (jI (by exact rfl) (by exact rfl)) ?_;refine qM ?_
    refine qN ?_
    refine qM ?_;refine ak rfl rfl rfl (by exact rfl) (by exact rfl) (by exact rfl) (cC (by exact rfl)) ?_;refine qF ?_
    refine qF ?_
    refine qL ?_
    refine qF ?_
    refine qL ?_
    refine ak rfl rfl rfl (by exact rfl) (by exact rfl) (by exact rfl) (aN (by exact rfl) (by exact rfl) (by omega)) ?_;refine qF ?_
    refine ak rfl rfl rfl (by exact rfl) (by exact rfl) (by exact rfl) (bt (by exact rfl) (by(simp(disch:=first|omega|(simp only[z1,z2];omega))only[z3,z4,z5,z6,z7,z1,z2, *];exact rfl)) (by assumption)) ?_
    refine qM ?_;refine ak rfl rfl rfl (by exact rfl) (by exact rfl) (by exact rfl) (cC (by exact rfl)) ?_;refine qF ?_
    refine qF ?_
    refine qL ?_
    refine qF ?_
    refine qL ?_
    refine ak rfl rfl rfl (by exact rfl) (by exact rfl) (by exact rfl) (aN (by exact rfl) (by exact rfl) (by omega)) ?_;refine qF ?_
    refine ak rfl rfl rfl (by exact rfl) (by exact rfl) (by exact rfl) (bt (by exact rfl) (by(simp(disch:=first|omega|(simp only[z1,z2];omega))only[z3,z4,z5,z6,z7,z1,z2, *];exact rfl)) (by assumption)) ?_
    refine ak rfl rfl rfl (by exact rfl) (by exact rfl) (by exact rfl) (ck (by exact rfl)) ?_
    refine ak rfl rfl rfl (by exact rfl) (by exact rfl) (by exact rfl) (kf (b:=bv) (by exact rfl) (by exact rfl) L1) ?_
    refine ak rfl rfl rfl (by exact rfl) (by exact rfl) (by exact rfl) (jI (by exact rfl) (by exact rfl)) ?_;refine qM ?_;refine cF ?_;refine y1 ?_;refine aP ?_;refine aH ?_
    exact aF hr.log rfl rfl
   |false=>
    refine qM ?_;refine qM ?_;refine ak rfl rfl rfl (by exact rfl) (by exact rfl) (by exact rfl) (cC (by exact rfl)) ?_
    refine qF ?_;refine qF ?_
    refine qL ?_
    refine qF ?_
    refine qL ?_
    refine ak rfl rfl rfl (by exact rfl) (by exact rfl) (by exact rfl) (aN (by exact rfl) (by exact rfl) (by omega)) ?_;refine qF ?_
    refine ak rfl rfl rfl (by exact rfl) (by exact rfl) (by exact rfl) (bt (by exact rfl) (by(simp(disch:=first|omega|(simp only[z1,z2];omega))only[z3,z4,z5,z6,z7,z1,z2, *];exact rfl)) (by assumption)) ?_
    refine ak rfl rfl rfl (by exact rfl) (by exact rfl) (by exact rfl) (jI (by exact rfl) (by exact rfl)) ?_;refine qM ?_;refine aG rfl rfl rfl (by exact rfl) ?_;refine aG rfl rfl rfl (by exact rfl) ?_;refine aG rfl rfl rfl (by exact rfl) ?_;refine aG rfl rfl rfl (by exact rfl) ?_
    refine aG rfl rfl rfl (by exact rfl) ?_;refine aG rfl rfl rfl (by exact rfl) ?_;refine aG rfl rfl rfl (by exact rfl) ?_;refine aG rfl rfl rfl (by exact rfl) ?_;refine aG rfl rfl rfl (by exact rfl) ?_;refine aG rfl rfl rfl (by exact rfl) ?_;refine aG rfl rfl rfl (by exact rfl) ?_;refine aG rfl rfl rfl (by exact rfl) ?_
    refine aG rfl rfl rfl (by exact rfl) ?_;refine aG rfl rfl rfl (by exact rfl) ?_;refine aG rfl rfl rfl (by exact rfl) ?_;refine aG rfl rfl rfl (by exact rfl) ?_;refine aG rfl rfl rfl (by exact rfl) ?_;refine aG rfl rfl rfl (by exact rfl) ?_;refine aG rfl rfl rfl (by exact rfl) ?_;refine aG rfl rfl rfl (by exact rfl) ?_
    refine aG rfl rfl rfl (by exact rfl) ?_;refine aG rfl rfl rfl (by exact rfl) ?_;refine aG rfl rfl rfl (by exact rfl) ?_;refine ak rfl rfl rfl (by exact rfl) (by exact rfl) (by exact rfl) (lP (by exact rfl) (by exact rfl)) ?_;refine qM ?_;refine cF ?_
    refine y1 ?_;refine aP ?_;refine aH ?_
    exact aF hr.log rfl rfl
 ·rw[decide_eq_false hk]at C
  rw[r8 hk]
  refine y4 ?_;refine yB ?_;refine yB ?_;refine yM ?_;refine y3 ?_;refine aq ?_;refine cG ?_
  refine qM ?_;refine ak rfl rfl rfl (by exact rfl) (by exact rfl) (by exact rfl) (cC (by exact rfl)) ?_;refine qF ?_
  refine qN ?_
  refine qF ?_
  refine qL ?_
  refine qC ?_
  refine FW.puD C (by apply aa rfl;apply aa rfl;apply aa rfl;apply aa rfl;apply aa rfl;apply aa rfl;exact bT) ?_
  clear C
  refine qM ?_;refine aG rfl rfl rfl (by exact rfl) ?_;refine aG rfl rfl rfl (by exact rfl) ?_;refine aG rfl rfl rfl (by exact rfl) ?_;refine aG rfl rfl rfl (by exact rfl) ?_;refine aG rfl rfl rfl (by exact rfl) ?_;refine aG rfl rfl rfl (by exact rfl) ?_
  refine aG rfl rfl rfl (by exact rfl) ?_;refine aG rfl rfl rfl (by exact rfl) ?_;refine aG rfl rfl rfl (by exact rfl) ?_;refine aG rfl rfl rfl (by exact rfl) ?_;refine ak rfl rfl rfl (by exact rfl) (by exact rfl) (by exact rfl) (lP (by exact rfl) (by exact rfl)) ?_;refine qM ?_
  refine aG rfl rfl rfl (by exact rfl) ?_;refine aG rfl rfl rfl (by exact rfl) ?_;refine aG rfl rfl rfl (by exact rfl) ?_;refine aG rfl rfl rfl (by exact rfl) ?_;refine aG rfl rfl rfl (by exact rfl) ?_;refine aG rfl rfl rfl (by exact rfl) ?_;refine aG rfl rfl rfl (by exact rfl) ?_;refine aG rfl rfl rfl (by exact rfl) ?_
  refine aG rfl rfl rfl (by exact rfl) ?_;refine aG rfl rfl rfl (by exact rfl) ?_;refine aG rfl rfl rfl (by exact rfl) ?_;refine aG rfl rfl rfl (by exact rfl) ?_;refine aG rfl rfl rfl (by exact rfl) ?_;refine aG rfl rfl rfl (by exact rfl) ?_;refine aG rfl rfl rfl (by exact rfl) ?_;refine aG rfl rfl rfl (by exact rfl) ?_
  refine aG rfl rfl rfl (by exact rfl) ?_;refine aG rfl rfl rfl (by exact rfl) ?_;refine aG rfl rfl rfl (by exact rfl) ?_;refine aG rfl rfl rfl (by exact rfl) ?_;refine aG rfl rfl rfl (by exact rfl) ?_;refine aG rfl rfl rfl (by exact rfl) ?_;refine aG rfl rfl rfl (by exact rfl) ?_
  refine ak rfl rfl rfl (by exact rfl) (by exact rfl) (by exact rfl) (lP (by exact rfl) (by exact rfl)) ?_;refine qM ?_;refine cF ?_;refine y1 ?_;refine aP ?_;refine aH ?_
  exact aF hr.log rfl rfl
end Go.A.Pk
end
section
set_option maxRecDepth 100000
namespace Go.A.Pk
variable {T:Nat→Option ah} {base:Nat} {rnd:Option Nat} {Q:XQ} {e:Env} {ds:Dfs} {h:Heap}
structure Rst (S:Nat→Prop) (h:Heap) (v:Value) (ns:List (Nat×Int)):Prop where
 sl:aA h 2 v ns.length (ncI ns)
 u2:U2 h v
 cap:∃qa qc,v= .slice qa ns.length qc∧(qc<UNK∨qc=UNK)
 sep:∀b o n c,v= .slice (some ⟨b,o,none⟩) n c→¬S b∧b<h.next
theorem Rst.keep{S:Nat→Prop}{h h':Heap}{v:Value}{ns:List (Nat×Int)}(r:Rst S h v ns)(hn:h.next≤h'.next)(hg:∀z,z<h.next→¬S z→h'.get z=h.get z):Rst S h' v ns:=by
 obtain⟨r1,r2,r3,r4⟩:=r
 refine⟨?_,fun b o n e=> ?_,r3,fun b o n c e=>⟨(r4 b o n c e).1,Nat.lt_of_lt_of_le (r4 b o n c e).2 hn⟩⟩
 ·rcases r1.inv with⟨c,rfl,h0,h1⟩|⟨b,o,cap,rfl,s,hc⟩
  ·rw[h0,h1];exact .nil
  ·obtain⟨q1,q2⟩:=r4 _ _ _ _ rfl
   obtain⟨vs,own,t,g1,g2⟩:=s.obj
   exact .mem ⟨Nat.lt_of_lt_of_le q2 hn,⟨vs,own,t,(hg _ q2 q1).trans g1,g2⟩,s.len⟩ hc
 ·subst e
  obtain⟨q1,q2⟩:=r4 _ _ _ _ rfl
  obtain⟨vs,own,g⟩:=r2 b o n rfl
  exact⟨vs,own,(hg _ q2 q1).trans g⟩
theorem Rst.log{S:Nat→Prop}{h:Heap}{v:Value}{ns:List (Nat×Int)}(r:Rst S h v ns)(m:List Nat):Rst S {h with log:=m} v ns:=r.keep (h':={h with log:=m}) (Nat.le_refl _) fun _ _ _=>rfl
theorem Rst.ext{S:Nat→Prop}{h h':Heap}{v:Value}{ns:List (Nat×Int)}(r:Rst S h v ns)(w:Ext h h'):Rst S h' v ns:=r.keep w.next fun z hz _=>w.old z hz
theorem Br{S:Nat→Prop}{os:List aQ}{dst:Option Nat}{a y:Operand}{v:Value}{x:Nat×Int}{ns:List (Nat×Int)}(s:Rst S h v (x::ns))(hlen:ns.length<100000)(hx:ev h e a=some v)(hy:ev h e y=some (.int .i64 (1:Nat)))(hS:∀z,S z→z<h.next)
 (hK:∀v' h',Ext h h'→(∃b o n c,v'= .slice (some ⟨b,o,none⟩) n c)→Rst S h' v' ns→WO T base rnd Q os (bK e dst v') ds h'):WO T base rnd Q (⟨dst, .slice (.sl 2) a (some y) none none,none⟩::os) e ds h:=by
 obtain⟨r1,r2,⟨qa,qc,hv,hcap⟩,r4⟩:=s
 rcases r1.inv with⟨_,_,hz,_⟩|⟨b,o,cap,hv',s1,hc⟩
 ·simp at hz
 rw[hv']at hv
 injection hv with h1 h2 h3
 subst h1
 subst h3
 subst hv'
 obtain⟨q1,q2⟩:=r4 _ _ _ _ rfl
 obtain⟨vs,own,t,g1,g2⟩:=s1.obj
 have hl2:=s1.len
 simp only[List.length_cons]at g2 hl2 hc hx r2 q2
 have hdrop:dM (ns.length*2) (dN (o+1*2) vs)=ncI ns:=by
  have:(ncI (x::ns)).drop 2=ncI ns:=rfl
  rw[←this,←g2]
  simp only[dj,cu,List.drop_take,List.drop_drop,Nat.one_mul]
  congr 1
  omega
 have hlen':(ncI ns).length=ns.length*2:=rj ns
 by_cases hU:cap=UNK
 ·subst hU
  obtain⟨vs',own',g3⟩:=r2 b o _ rfl
  rw[g1]at g3
  cases g3
  cases ns with
  |nil=>
   refine af (wD hx hy g1 (by simp)) (hK _ _ ((Ext.refl h).push _) ⟨_,_,_,_,rfl⟩ ⟨?_,fun b' o' n' e'=>by cases e';exact⟨[],false,z3 _ _⟩,⟨_,_,rfl, .inr rfl⟩,fun b' o' n' c' e'=>by cases e';exact⟨fun q=>Nat.lt_irrefl _ (hS _ q),Nat.lt_succ_self _⟩⟩)
   exact .mem ⟨Nat.lt_succ_self _,⟨[],false,2,z3 _ _,rfl⟩,rfl⟩ (Nat.zero_le _)
  |cons y2 ns=>
   have e1:(y2::ns).length+1-1=(y2::ns).length:=by omega
   have A:=ye (base:=base) hx hy g1 (show 1<(y2::ns).length+1 by simp)
   rw[e1]at A
   exact af A (hK _ _ (.refl h) ⟨_,_,_,_,rfl⟩ ⟨.mem ⟨s1.lt,⟨vs,own,2,g1,hdrop⟩,hlen'⟩ (by unfold UNK;omega),fun b' o' n' e'=>by cases e';exact⟨vs,own,g1⟩,⟨_,_,rfl, .inr rfl⟩,fun b' o' n' c' e'=>by cases e';exact⟨q1,q2⟩⟩)
 ·have hcl:cap<UNK:=hcap.elim id fun q=>absurd q hU
  have e1:ns.length+1-1=ns.length:=by omega
  by_cases hck:cap=1
  ·subst hck
   have hn0:ns.length=0:=by omega
   have hop:aop h base e (.slice (.sl 2) a (some y) none none)=some (.val (.slice (some ⟨b,o,none⟩) ns.length 0) h):=by
    simp only[aop,hx,eY,kQ hy,kH,jW hU,fe (show 1≤ns.length+1 by omega),fe hc,jM,Bool.and_self,cond_true,cond_false,dU,e1]
   refine af hop (hK _ _ (.refl h) ⟨_,_,_,_,rfl⟩ ⟨?_,fun b' o' n' e'=>(by injection e' with e1 e2 e3;unfold UNK at e3 hcl;omega),⟨_,_,rfl, .inl (by omega)⟩,fun b' o' n' c' e'=>by cases e';exact⟨q1,q2⟩⟩)
   have:ns=[]:=List.length_eq_zero_iff.1 hn0
   subst this
   exact .mem ⟨s1.lt,⟨vs,own,t,g1,by show dM (0*2) _=[];rw[Nat.zero_mul];cases dN o vs<;>rfl⟩,rfl⟩ (Nat.zero_le _)
  ·have A:=DK (base:=base) (size:=2) (hi:=none) hx (kQ hy) kH (show 1≤ns.length+1 by omega) hc (by omega) hcl
   rw[e1]at A
   exact af A (hK _ _ (.refl h) ⟨_,_,_,_,rfl⟩ ⟨.mem ⟨s1.lt,⟨vs,own,t,g1,hdrop⟩,hlen'⟩ (by omega),fun b' o' n' e'=>(by injection e' with e1 e2 e3;unfold UNK at e3 hcl;omega),⟨_,_,rfl, .inl (by omega)⟩,fun b' o' n' c' e'=>by cases e';exact⟨q1,q2⟩⟩)
theorem FW.pan{f:Nat}{args:List Value}{v:Value}{K:Env→Dfs→Heap→Prop}{dst:Option Nat}(H:CW T f args {h with log:=[]} fun r h'=>r= .panic v∧h'={h with log:=[]})(hK:Q (.panic v) e ds h):FW T (.func f) args {h with log:=[]} (KO K Q base dst e ds h.log):=by
 refine .func (CW.mono H ?_)
 rintro r h2 ⟨rfl,rfl⟩
 exact⟨hK⟩
theorem EvF.I1{f:Nat}{args:List Value}{v:Value}(H:CW T f args {h with log:=[]} fun r h'=>r= .panic v∧h'={h with log:=[]}):EvF T (.func f) args {h with log:=[]} (.panic v,{h with log:=[]}):=by
 obtain⟨r,h',⟨h1⟩,h2⟩:=FW.func H
 obtain⟨rfl,rfl⟩:=h2
 exact⟨_, ‹_›⟩
def K4:List Value:=[.func (.func 169) #[] #[], .func (.func 170) #[] #[], .func (.func 171) #[] #[], .func (.func 172) #[] #[], .func (.func 173) #[] #[]]
theorem Km{k:Nat}(h:k≤4):bG K4 (0+k*1)=some (.func (.func (169+k)) #[] #[]):=by
 rcases k with _|_|_|_|_|k
 ·rfl
 ·rfl
 ·rfl
 ·rfl
 ·rfl
 ·omega
def okN(l:List Kd)(p:Int×Int)(x:Nat×Int):Bool:=
 if x.1=0 then decide (x.2=0)else if x.1=1∨x.1=2 then(jz l x p).1.ok else decide (1≤x.2∧x.2≤eD x p-1)
theorem Mw(F:FnsNd T){h:Heap}(hr:Rdy h){bb n c:Nat}{sa:Option Addr}{wv:Value}{kerf:Int}{l:List Kd}(gb:h.get bb=some (.cells [.slice sa n c, .int .i64 kerf,wv] true 1))(hs:aA h 5 (.slice sa n c) n (kcs l))(hn:n<1000)(p:Int×Int)(h1:1≤p.1∧p.1≤16)(h2:1≤p.2∧p.2≤16)(x:Nat×Int)(hx:x.1≤4):
 Pu T (169+x.1) [.pointer (some ⟨bb,0,none⟩),cT p,lX x] h (.bool (okN l p x)):=by
 obtain⟨k,at'⟩:=x
 dsimp only at hx
 rcases k with _|_|_|_|_|k
 ·exact zD F hr _ p (0,at')
 ·exact xN F hr gb hs hn p (1,at')
 ·exact vU F hr gb hs hn p (2,at')
 ·exact wV F hr _ p (3,at') h1
 ·exact yJ F hr _ p (4,at') h2
 ·omega
end Go.A.Pk
end
section
set_option maxRecDepth 100000
namespace Go.A.Pk
variable {T:Nat→Option ah} {base:Nat} {rnd:Option Nat} {Q:XQ} {e:Env} {ds:Dfs} {h:Heap}
theorem Gp.ofK(hp:bC T){f q:Nat}{args:List Value}{c:aJ}{rs:List (Nat×Option (Option Nat))}{S:Nat→Prop}{Q Qp:Value→Heap→Prop}(hf:T f=some (.code c rs))(hq:q<h.next)
 (H:WE T h.next none c (Ej rs S (fun v h1=>Q v h1∧q∈h1.log∧gY h1 q) Qp) (dA 0 args) [] h):Gp T f args h S (fun v h1=>Q v h1∧q∈h1.log∧gY h1 q) Qp:=by
 obtain⟨x,e,ds,h1,⟨m,hm⟩,⟨rfl,hl,hx⟩⟩:=H.ok
 have hA:=(eS.all hp m).exec _ _ _ _ _ _ _ _ _ _ (hm m (Nat.le_refl _)) (Nat.le_refl _)
 refine CW.code hf ⟨x,e,[],h1,⟨m,hm⟩,?_⟩
 unfold vE
 rcases hx with⟨hx,vs,hvs,hQ,hmem,hd⟩|⟨v,rfl,hQ⟩
 ·have key:Ws S h (gcA h h1 (dZ vs))∧((∃v,Res.ret (dZ vs)= .ret v∧Q v (gcA h h1 (dZ vs))∧q∈(gcA h h1 (dZ vs)).log∧gY (gcA h h1 (dZ vs)) q)∨∃v,Res.ret (dZ vs)= .panic v∧Qp v (gcA h h1 (dZ vs))):=by
   rw[uU hq hmem hd]
   exact⟨Ws.lY hA hl, .inl ⟨_,rfl,hQ,hmem,hd⟩⟩
  rcases hx with rfl|rfl<;>(simp only[hvs];exact key)
 ·exact⟨Ws.lY hA hl, .inr ⟨v,rfl,hQ⟩⟩
theorem sE{base z:Nat}:∀{m l:List Nat},z∈l→z∈ax base l m
 |[],l,h=>h
 |b::m,l,h=>by
  simp only[ax]
  refine sE (m:=m) ?_
  rw[cond_eq_ite,cond_eq_ite]
  split
  ·split
   ·exact h
   ·exact List.mem_cons_of_mem _ h
  ·exact h
theorem FW.gpk{f:Nat}{args:List Value}{S:Nat→Prop}{Q' Qp:Value→Heap→Prop}{K:Env→Dfs→Heap→Prop}{dst:Option Nat}(H:Gp T f args {h with log:=[]} S Q' Qp)(hlog:∀v (h':Heap) l,Q' v h'→Q' v {h' with log:=l})(hlogp:∀v (h':Heap) l,Qp v h'→Qp v {h' with log:=l})
 (hK:∀v h',Ws S h h'→(∀z∈h.log,z∈h'.log)→Q' v h'→K (bK e dst v) ds h')(hP:∀v h',Ws S h h'→Qp v h'→Q (.panic v) e ds h'):FW T (.func f) args {h with log:=[]} (KO K Q base dst e ds h.log):=by
 refine .func (CW.mono H ?_)
 rintro r h2 ⟨hx,⟨v,rfl,hq⟩|⟨v,rfl,hq⟩⟩
 ·exact⟨hK v _ hx.call (fun z hz=>sE hz) (hlog v h2 _ hq)⟩
 ·exact⟨hP v _ hx.call (hlogp v h2 _ hq)⟩
theorem yy{q base:Nat}{o:bE}(hq:q<base):q∈(h.wr base q o).log:=by
 simp only[Heap.wr,gP hq,cond_true]
 cases hl:eE h.log q with
 |true=>simp only[cond_true];exact ie.1 hl
 |false=>simp only[cond_false];exact List.mem_cons_self ..
theorem Dn{q y base:Nat}{o:bE}(hq:q∈h.log):q∈(h.wr base y o).log:=by
 simp only[Heap.wr,cond_eq_ite]
 split
 ·split
  ·exact hq
  ·exact List.mem_cons_of_mem _ hq
 ·exact hq
def Sv(lo z:Nat):Prop:=z=lo+6∨z=lo+2∨z=lo+4
def Mj(lo:Nat):Value:= .func (.func 144) #[] #[.pointer (some ⟨lo+6,0,none⟩), .pointer (some ⟨lo+5,0,none⟩), .pointer (some ⟨lo,0,none⟩), .pointer (some ⟨lo+2,0,none⟩), .pointer (some ⟨lo+7,0,none⟩)]
structure Vst (lo bb:Nat) (h0 h:Heap) (ns:List (Nat×Int)) (wo wst de:Int) (us:List Int):Prop where
 nx:lo+8≤h.next
 old:∀z,z<lo→h.get z=h0.get z
 rest:∃v,h.get (lo+6)=some (.cells [v] true 1)∧Rst (Sv lo) h v ns
 all:h.get (lo+5)=some (.cells K4 true 1)
 bx:h.get lo=some (.cells [.pointer (some ⟨bb,0,none⟩)] true 1)
 out:h.get (lo+2)=some (.cells [.int .i64 wo, .int .i64 wst, .int .i64 de, .slice (some ⟨lo+4,0,none⟩) us.length us.length] true 1)
 vis:h.get (lo+7)=some (.cells [Mj lo] true 1)
 usd:h.get (lo+4)=some (.cells (ints us) true 1)
variable {lo bb:Nat} {h0:Heap} {ns:List (Nat×Int)} {wo wst de:Int} {us:List Int}
theorem Vst.ext{h h':Heap}(s:Vst lo bb h0 h ns wo wst de us)(x:Ext h h'):Vst lo bb h0 h' ns wo wst de us:=by
 obtain⟨q1,q2,⟨v,q3,r⟩,q4,q5,q6,q7,q8⟩:=s
 have k:∀z,z<lo+8→h'.get z=h.get z:=fun z hz=>x.old z (by omega)
 exact⟨Nat.le_trans q1 x.next,fun z hz=>(k z (by omega)).trans (q2 z hz),⟨v,(k _ (by omega)).trans q3,r.ext x⟩,(k _ (by omega)).trans q4,(k _ (by omega)).trans q5,(k _ (by omega)).trans q6,(k _ (by omega)).trans q7,(k _ (by omega)).trans q8⟩
theorem Vst.log(s:Vst lo bb h0 h ns wo wst de us)(m:List Nat):Vst lo bb h0 {h with log:=m} ns wo wst de us:=by
 obtain⟨q1,q2,⟨v,q3,r⟩,q4,q5,q6,q7,q8⟩:=s
 exact⟨q1,q2,⟨v,q3,r.log m⟩,q4,q5,q6,q7,q8⟩
theorem Vst.pz(s:Vst lo bb h0 h ns wo wst de us)(base:Nat)(wo' wst' de':Int):Vst lo bb h0 (h.wr base (lo+2) (.cells [.int .i64 wo', .int .i64 wst', .int .i64 de', .slice (some ⟨lo+4,0,none⟩) us.length us.length] true 1)) ns wo' wst' de' us:=by
 obtain⟨q1,q2,⟨v,q3,r⟩,q4,q5,q6,q7,q8⟩:=s
 exact⟨q1,fun z hz=>(z5 (by omega)).trans (q2 z hz),⟨v,(z5 (by omega)).trans q3,r.keep (Nat.le_refl _) fun z hz hn=>z5 (fun e=>hn (by unfold Sv;omega))⟩,(z5 (by omega)).trans q4,(z5 (by omega)).trans q5,Heap.cr q6,(z5 (by omega)).trans q7,(z5 (by omega)).trans q8⟩
theorem Vst.vk(s:Vst lo bb h0 h ns wo wst de us)(base:Nat){us':List Int}(hl:us'.length=us.length):Vst lo bb h0 (h.wr base (lo+4) (.cells (ints us') true 1)) ns wo wst de us':=by
 obtain⟨q1,q2,⟨v,q3,r⟩,q4,q5,q6,q7,q8⟩:=s
 exact⟨q1,fun z hz=>(z5 (by omega)).trans (q2 z hz),⟨v,(z5 (by omega)).trans q3,r.keep (Nat.le_refl _) fun z hz hn=>z5 (fun e=>hn (by unfold Sv;omega))⟩,(z5 (by omega)).trans q4,(z5 (by omega)).trans q5,by rw[hl];exact(z5 (by omega)).trans q6,(z5 (by omega)).trans q7,Heap.cr q8⟩
theorem Vst.HY(s:Vst lo bb h0 h ns wo wst de us)(base:Nat){v:Value}{ns':List (Nat×Int)}(r':Rst (Sv lo) h v ns'):Vst lo bb h0 (h.wr base (lo+6) (.cells [v] true 1)) ns' wo wst de us:=by
 obtain⟨q1,q2,⟨_,q3,_⟩,q4,q5,q6,q7,q8⟩:=s
 exact⟨q1,fun z hz=>(z5 (by omega)).trans (q2 z hz),⟨v,Heap.cr q3,r'.keep (Nat.le_refl _) fun z hz hn=>z5 (fun e=>hn (by unfold Sv;omega))⟩,(z5 (by omega)).trans q4,(z5 (by omega)).trans q5,(z5 (by omega)).trans q6,(z5 (by omega)).trans q7,(z5 (by omega)).trans q8⟩
structure Stg (lo bb n0:Nat) (h0 h:Heap) (p:Int×Int) (x:Nat×Int) (ns:List (Nat×Int)) (wo wst de:Int) (us:List Int):Prop where
 wf:WF h
 st:Vst lo bb h0 h ns wo wst de us
 lg1:∀z∈h.log,Sv lo z
 lg2:lo+6∈h.log
 dty:gY h (lo+6)
 gx:h.get n0=some (.cells [.int .i64 p.1, .int .i64 p.2] true 1)
 gn:h.get (n0+1)=some (.cells [.int .u8 (x.1:Nat), .int .i64 x.2] true 1)
 nx:n0+1<h.next
 lo8:lo+8≤n0
variable {n0:Nat} {p:Int×Int} {x:Nat×Int}
theorem wW{q y base:Nat}{o:bE}(d:gY h q)(hq:q≠y):gY (h.wr base y o) q:=by
 obtain⟨vs,own,t,g,hs⟩:=d
 exact⟨vs,own,t,(z5 hq).trans g,hs⟩
theorem Stg.pz(s:Stg lo bb n0 h0 h p x ns wo wst de us)(wo' wst' de':Int):Stg lo bb n0 h0 (h.wr n0 (lo+2) (.cells [.int .i64 wo', .int .i64 wst', .int .i64 de', .slice (some ⟨lo+4,0,none⟩) us.length us.length] true 1)) p x ns wo' wst' de' us:=by
 obtain⟨q1,q2,q3,q4,q5,q6,q7,q8,q9⟩:=s
 exact⟨q1.as (AS.wr _ _ _ _),q2.pz _ _ _ _,rK q3 (.inr (.inl rfl)),Dn q4,wW q5 (by omega),(z5 (by omega)).trans q6,(z5 (by omega)).trans q7,q8,q9⟩
theorem Stg.vk(s:Stg lo bb n0 h0 h p x ns wo wst de us){us':List Int}(hl:us'.length=us.length):Stg lo bb n0 h0 (h.wr n0 (lo+4) (.cells (ints us') true 1)) p x ns wo wst de us':=by
 obtain⟨q1,q2,q3,q4,q5,q6,q7,q8,q9⟩:=s
 exact⟨q1.as (AS.wr _ _ _ _),q2.vk _ hl,rK q3 (.inr (.inr rfl)),Dn q4,wW q5 (by omega),(z5 (by omega)).trans q6,(z5 (by omega)).trans q7,q8,q9⟩
theorem Stg.start{ns':List (Nat×Int)}{b o n c:Nat}(s:Vst lo bb h0 h ns' wo wst de us)(w:WF h)(r:Rst (Sv lo) h (.slice (some ⟨b,o,none⟩) n c) ns)(hl:h.log=[])(gx:h.get n0=some (.cells [.int .i64 p.1, .int .i64 p.2] true 1))(gn:h.get (n0+1)=some (.cells [.int .u8 (x.1:Nat), .int .i64 x.2] true 1))(nx:n0+1<h.next)(l8:lo+8≤n0):
 Stg lo bb n0 h0 (h.wr n0 (lo+6) (.cells [.slice (some ⟨b,o,none⟩) n c] true 1)) p x ns wo wst de us:=by
 obtain⟨v,g,_⟩:=s.rest
 exact⟨w.as (AS.wr _ _ _ _),s.HY _ r,rK (by rw[hl];simp) (.inl rfl),yy (by omega),⟨_,_,_,Heap.cr g,rfl⟩,(z5 (by omega)).trans gx,(z5 (by omega)).trans gn,nx,l8⟩
theorem Stg.ext{h':Heap}(s:Stg lo bb n0 h0 h p x ns wo wst de us)(e:Ext h h'):Stg lo bb n0 h0 h' p x ns wo wst de us:=by
 obtain⟨q1,q2,q3,q4,⟨vs,own,t,g,hs⟩,q6,q7,q8,q9⟩:=s
 have:=e.next
 exact⟨e.wf q1,q2.ext e,by rw[e.log];exact q3,by rw[e.log];exact q4,⟨vs,own,t,(e.old _ (by omega)).trans g,hs⟩,(e.old _ (by omega)).trans q6,(e.old _ q8).trans q7,by omega,q9⟩
theorem Stg.call{h':Heap}{ns':List (Nat×Int)}{wo' wst' de':Int}{us':List Int}(s:Stg lo bb n0 h0 h p x ns wo wst de us)(w:Ws (Sv lo) h h')(hl:∀z∈h.log,z∈h'.log)(v:Vst lo bb h0 h' ns' wo' wst' de' us')(d:gY h' (lo+6)):Stg lo bb n0 h0 h' p x ns' wo' wst' de' us':=by
 obtain⟨q1,q2,q3,q4,_,q6,q7,q8,q9⟩:=s
 have:=w.next
 exact⟨w.wf q1,v,fun z hz=>(w.log z hz).elim (q3 z) id,hl _ q4,d,(w.old _ (by omega) (by unfold Sv;omega)).trans q6,(w.old _ q8 (by unfold Sv;omega)).trans q7,by omega,q9⟩
end Go.A.Pk
end
section
set_option maxRecDepth 100000
namespace Go.A.Pk
variable {T:Nat→Option ah}
structure FnsVs (T:Nat→Option ah):Prop extends FnsNd T where
 f144:T 144=some f144
theorem EF{vs:List Value}{q:Nat}{a b:Value}(hk:dM 2 (dN q vs)=[a,b]):bG vs q=some a∧bG vs (q+1)=some b:=by
 rw[dj,cu]at hk
 rw[cq,cq]
 have h0:(List.take 2 (List.drop q vs))[0]? =some a:=by rw[hk];rfl
 have h1:(List.take 2 (List.drop q vs))[1]? =some b:=by rw[hk];rfl
 rw[List.getElem?_take_of_lt (by omega),List.getElem?_drop]at h0 h1
 exact⟨h0,h1⟩
def oO(lo:Nat)(p:Int×Int)(dep:Int):List Value:=[cT p, .int .i64 dep, .pointer (some ⟨lo+6,0,none⟩), .pointer (some ⟨lo+5,0,none⟩), .pointer (some ⟨lo,0,none⟩), .pointer (some ⟨lo+2,0,none⟩), .pointer (some ⟨lo+7,0,none⟩)]
structure Vb (wo wst:Int) (us:List Int) (ns:List (Nat×Int)):Prop where
 wo:0≤wo∧wo+1000000*ns.length≤1000000000000
 wst:wst≤1000000∧ -1000000000≤wst-256*ns.length
 us:∀u∈us,0≤u∧u+ns.length≤1000000
def VQ(lo bb:Nat)(h0:Heap)(r:Sm×Nat)(ns:List (Nat×Int))(wo wst de dep:Int)(us:List Int)(v:Value)(h:Heap):Prop:=
 v= .tuple #[]∧r.1.ok=true∧Vst lo bb h0 h (ns.drop r.2) (wo+r.1.bq) (wst-r.1.cells) (mx de (dep+r.1.depth)) (List.zipWith (· + ·) us r.1.used)
def VP(lo:Nat)(r:Sm×Nat)(v:Value)(h:Heap):Prop:=v=xM∧r.1.ok=false∧∃vs,vs.length=4∧h.get (lo+2)=some (.cells vs true 1)
theorem Vst.four{lo bb:Nat}{h0 h:Heap}{ns:List (Nat×Int)}{wo wst de:Int}{us:List Int}(s:Vst lo bb h0 h ns wo wst de us):∃vs:List Value,vs.length=4∧h.get (lo+2)=some (.cells vs true 1):=⟨_,rfl,s.out⟩
def cd:ah→aJ
 | .code c _=>c
 |_=> .skip
def tl1:aJ→aJ
 | .seq _ b=>b
 |c=>c
def JE:aJ:=tl1 (tl1 (tl1 (tl1 (cd f144))))
def HH:aJ:=tl1 JE
def xU:aJ:=tl1 HH
def uK(lo n0:Nat)(dep:Int):Env:=[(1, .int .i64 dep),(4, .pointer (some ⟨lo,0,none⟩)),(5, .pointer (some ⟨lo+2,0,none⟩)),(6, .pointer (some ⟨lo+7,0,none⟩)),(7, .pointer (some ⟨n0,0,none⟩)),(9, .pointer (some ⟨n0+1,0,none⟩))]
theorem tU{h0 h:Heap}{sz n lo:Nat}{v:Value}{cs:List Value}(s:aA h0 sz v n cs)(hlo:h0.next=lo)(hn:lo≤h.next)(hg:∀z,z<lo→h.get z=h0.get z):aA h sz v n cs:=
 aA.agree s (by omega) fun b _ _ _ hb _=>hg b (by omega)
set_option maxHeartbeats 16000000 in
theorem zK(F:FnsVs T){kerf:Int}{l:List Kd}(hc:chk kerf l=0){lo bb c wc n0:Nat}{sa wa:Option Addr}{h0 h:Heap}(hlo:h0.next=lo)(hben:h0.get bb=some (.cells [.slice sa l.length c, .int .i64 kerf, .slice wa l.length wc] true 1))(hbb:bb<lo)
 (hks:aA h0 5 (.slice sa l.length c) l.length (kcs l)){p:Int×Int}{x:Nat×Int}{ns:List (Nat×Int)}{dep wo wst de:Int}{us:List Int}(h1:1≤p.1∧p.1≤16)(h2:1≤p.2∧p.2≤16)(k4:x.1≤4)(S:Stg lo bb n0 h0 h p x ns wo wst de us){Q:XQ}
 (hT:okN l p x=true→WE T n0 none HH Q (uK lo n0 dep) [] h)(hF:okN l p x=false→Q (.panic xM) [] [] h):
 WE T n0 none JE Q [(1, .int .i64 dep),(3, .pointer (some ⟨lo+5,0,none⟩)),(4, .pointer (some ⟨lo,0,none⟩)),(5, .pointer (some ⟨lo+2,0,none⟩)),(6, .pointer (some ⟨lo+7,0,none⟩)),(7, .pointer (some ⟨n0,0,none⟩)),(9, .pointer (some ⟨n0+1,0,none⟩))] [] h:=by
 obtain⟨S1,S2,S3,S4,S5,S6,S7,S8,S9⟩:=S
 obtain⟨q1,q2,⟨v,q3,r⟩,q4,q5,q6,q7,q8⟩:=S2
 have n12:=(dY.1 hc).1
 have C:=Mw F.toFnsNd (h:={h with log:=[]}) (.of S1) (kerf:=kerf) (l:=l) (c:=c) (n:=l.length) (sa:=sa) (wv:= .slice wa l.length wc) ((q2 bb hbb).trans hben) ((tU hks hlo (by omega) q2).log []) (by omega) p h1 h2 x k4
 have hf:=Km k4
 obtain⟨p1,p2⟩:=p
 obtain⟨k,at'⟩:=x
 dsimp only at S6 S7 k4 C hf
 unfold cT lX at C
 clear q2 q3 r q6 q7 q8 v hben hks h1 h2 S3 S4 S5
 unfold JE
 refine aq ?_
 by_cases hok:okN l (p1,p2) (k,at')=true
 ·rw[hok]at C
  refine cG ?_
  refine qF ?_;refine qL ?_;refine ak rfl rfl rfl (by exact rfl) (by exact rfl) (by exact rfl) (bz (by exact rfl) (by exact rfl) (by omega)) ?_
  refine ak rfl rfl rfl (by exact rfl) (by exact rfl) (by exact rfl) (bt (by exact rfl) (by assumption) (by assumption)) ?_;refine qL ?_
  refine qN ?_;refine qN ?_
  refine qC ?_
  refine FW.puD C (by apply aa rfl;apply aa rfl;apply aa rfl;apply aa rfl;apply aa rfl;apply aa rfl;apply aa rfl;exact bT) ?_
  clear C
  skip
  refine qC ?_
  refine FW.puD (uN F.toFnsNd (.of S1)) (by exact bT) ?_
  refine cF ?_
  refine y1 ?_
  refine aP ?_
  exact hT hok
 ·have hok2:okN l (p1,p2) (k,at')=false:=by cases h:okN l (p1,p2) (k,at')with|true=>exact absurd h hok|false=>rfl
  rw[hok2]at C
  refine CJ (init:=[0,1,2,3,4,5,6,7]) (i:=8) (mask:=255) rfl rfl (by decide) ?_
  refine qF ?_;refine qL ?_;refine ak rfl rfl rfl (by exact rfl) (by exact rfl) (by exact rfl) (bz (by exact rfl) (by exact rfl) (by omega)) ?_
  refine ak rfl rfl rfl (by exact rfl) (by exact rfl) (by exact rfl) (bt (by exact rfl) (by assumption) (by assumption)) ?_;refine qL ?_
  refine qN ?_;refine qN ?_
  refine qC ?_
  refine FW.puD C (by apply aa rfl;apply aa rfl;apply aa rfl;apply aa rfl;apply aa rfl;apply aa rfl;apply aa rfl;exact bT) ?_
  clear C
  refine cF ?_
  exact⟨⟨_,_,_,_,rfl,rfl,rfl,zT rfl rfl rfl rfl,xM,_,EvF.I1 (rm F.toFnsNd),fun base=>Bc (hF hok2)⟩⟩
end Go.A.Pk
end
section
set_option maxRecDepth 100000
namespace Go.A.Pk
variable {T:Nat→Option ah}
def okB(kerf:Int)(l:List Kd)(G:Nat→Nat→Int)(a b:Nat):Prop:=(∀k∈l,td k a b=true→k.bq≤G a b)∧
 (∀n,1≤n→n<a→∀r:Nat,mx 0 ((a:Int)-n-kerf)=r→G n b+G r b≤G a b)∧(∀n,1≤n→n<b→∀r:Nat,mx 0 ((b:Int)-n-kerf)=r→G a n+G a r≤G a b)
theorem oD{ok:Bool}{P:Prop}(h:ok=true↔P)(hn:¬P):ok=false:=by
 cases ok with
 |false=>rfl
 |true=>exact absurd (h.1 rfl) hn
end Go.A.Pk
end
section
set_option maxRecDepth 100000
namespace Go.A.Pk
variable {T:Nat→Option ah}
def vAt(rows:List (List Int))(x y:Nat):Int:=(rows.getD (x-1) []).getD (y-1) 0
def Gv(w ht:Nat)(rows:List (List Int))(x y:Nat):Int:=if 1≤x∧x≤w∧1≤y∧y≤ht then vAt rows x y else 0
def inV(z:Int):Prop:=0≤z∧z≤1000000000
def nD(kerf:Int)(l:List Kd)(w ht:Nat)(rows:List (List Int)):Prop:=rows.length=w∧(∀r∈rows,r.length=ht)∧(∀x y,1≤x→x≤w→1≤y→y≤ht→inV (vAt rows x y))∧∀a b,1≤a→a≤w→1≤b→b≤ht→okB kerf l (Gv w ht rows) a b
end Go.A.Pk
end
section
namespace Go.A.Pk
def qH(rows:List (List Int))(t:Tab)(xs:List (Nat×Nat)):Tab:=xs.foldl (fun t x=>upd t x (vAt rows x.1 x.2)) t
def eO(rows:List (List Int))(xs:List (Nat×Nat)):Tab:=qH rows [] xs
theorem xQ(rows:List (List Int))(xs:List (Nat×Nat))(x:Nat×Nat):eO rows (xs++[x])=upd (eO rows xs) x (vAt rows x.1 x.2):=by simp[eO,qH]
theorem lN(rows:List (List Int))(y:Nat×Nat):∀(xs:List (Nat×Nat)) (t:Tab),(y∈xs→look (qH rows t xs) ((y.1:Int),(y.2:Int))=vAt rows y.1 y.2)∧(y ∉ xs→look (qH rows t xs) ((y.1:Int),(y.2:Int))=look t ((y.1:Int),(y.2:Int)))
 |[],t=>⟨fun h=>(by cases h),fun _=>rfl⟩
 |x::xs,t=>by
  have ih:=lN rows y xs (upd t x (vAt rows x.1 x.2))
  have e:qH rows t (x::xs)=qH rows (upd t x (vAt rows x.1 x.2)) xs:=rfl
  rw[e]
  refine⟨fun h=> ?_,fun h=> ?_⟩
  ·by_cases hm:y∈xs
   ·exact ih.1 hm
   ·rcases List.mem_cons.1 h with rfl|h
    ·rw[ih.2 hm,jr,if_pos rfl]
    ·exact absurd h hm
  ·rw[ih.2 fun q=>h (List.mem_cons_of_mem _ q),jr,if_neg]
   intro q
   refine h (List.mem_cons.2 (.inl ?_))
   have q1:=congrArg Prod.fst q
   have q2:=congrArg Prod.snd q
   simp only at q1 q2
   exact Prod.ext (by omega) (by omega)
theorem iT(rows:List (List Int)){z:Int×Int}(hz:z.1<1∨z.2<1):∀(xs:List (Nat×Nat)) (t:Tab),(∀x∈xs,1≤x.1∧1≤x.2)→look (qH rows t xs) z=look t z
 |[],_,_=>rfl
 |x::xs,t,h=>by
  have hx:=h x (List.mem_cons_self ..)
  show look (qH rows (upd t x (vAt rows x.1 x.2)) xs) z=_
  rw[iT rows hz xs _ fun q hq=>h q (List.mem_cons_of_mem _ hq),jr,if_neg]
  intro q
  rw[q]at hz
  simp only at hz
  omega
theorem AI{ws:List Int}{v:Int}:∀{xs:List (Nat×Nat)} {o:Bool},okL ws v xs o=true↔o=true∧∀x∈xs,ws.getD x.2 0≤v
 |[],o=>by simp[okL]
 |x::xs,o=>by
  show okL ws v xs (o&&decide (ws.getD x.2 0≤v))=true↔_
  rw[AI]
  simp only[Bool.and_eq_true,decide_eq_true_eq,List.forall_mem_cons]
  exact and_assoc
theorem Ax{kerf:Int}{t:Tab}{v:Int}{a b:Nat}:∀{xs:List (Nat×Nat)} {o:Bool},okC kerf t v a b xs o=true↔o=true∧∀x∈xs,look t (cg x a b)+look t (cm kerf x a b)≤v
 |[],o=>by simp[okC]
 |x::xs,o=>by
  show okC kerf t v a b xs (o&&decide (look t (cg x a b)+look t (cm kerf x a b)≤v))=true↔_
  rw[Ax]
  simp only[Bool.and_eq_true,decide_eq_true_eq,List.forall_mem_cons]
  exact and_assoc
theorem vA{kerf:Int}{ws:List Int}{kl:List Kd}{t:Tab}{a b:Nat}{v:Int}:bok kerf ws kl t a b v=true↔inV v∧(∀x∈aZ a b kl 0,ws.getD x.2 0≤v)∧∀x∈dD a b,look (upd t (a,b) v) (cg x a b)+look (upd t (a,b) v) (cm kerf x a b)≤v:=by
 unfold bok
 rw[Ax,AI,decide_eq_true_eq]
 exact and_assoc
theorem vj{k:Kd}{i a b:Nat}{x:Nat×Nat}(h:x∈cB k i a b):td k a b=true:=by
 unfold cB at h
 unfold td
 rw[decide_eq_true_iff]
 simp only[List.mem_append]at h
 rcases h with h|h<;>split at h
 ·rename_i q;exact .inl ⟨q.1.symm,q.2.symm⟩
 ·cases h
 ·rename_i q;exact .inr ⟨q.1,q.2.1.symm,q.2.2.symm⟩
 ·cases h
theorem qU{kl:List Kd}{a b:Nat}{v:Int}:(∀x∈aZ a b kl 0,(wsP kl).getD x.2 0≤v)↔ ∀k∈kl,td k a b=true→k.bq≤v:=by
 have hg:∀{i:Nat} {k:Kd},kl[i]? =some k→(wsP kl).getD i 0=k.bq:=fun h=>by simp[wsP,List.getD_eq_getElem?_getD,h]
 constructor
 ·intro h k hk hp
  obtain⟨i,hi,rfl⟩:=List.getElem_of_mem hk
  have hki:kl[i]? =some kl[i]:=List.getElem?_eq_getElem hi
  unfold td at hp
  rw[decide_eq_true_iff]at hp
  rcases hp with q|q
  ·have:=h (1,i) (ji hki _ (by unfold cB;rw[if_pos ⟨q.1.symm,q.2.symm⟩];exact List.mem_append.2 (.inl (List.mem_singleton.2 rfl))))
   rw[hg hki]at this;exact this
  ·have:=h (2,i) (ji hki _ (by unfold cB;rw[if_pos (c:=kl[i].j4=true∧(a:Int)=kl[i].h∧(b:Int)=kl[i].w) ⟨q.1,q.2.1.symm,q.2.2.symm⟩];exact List.mem_append.2 (.inr (List.mem_singleton.2 rfl))))
   rw[hg hki]at this;exact this
 ·intro h x hx
  obtain⟨_,k,hk,h3⟩:=ud hx
  rw[Nat.sub_zero]at hk
  rw[hg hk]
  exact h k (List.mem_of_getElem? hk) (vj h3)
theorem tj{ht i j:Nat}(hj:j≤ht){x:Nat×Nat}:x∈aU i ht++row (i+1) j↔(1≤x.1∧x.1≤i∧1≤x.2∧x.2≤ht)∨(x.1=i+1∧1≤x.2∧x.2≤j):=by
 rw[List.mem_append]
 constructor
 ·rintro(h|h)
  ·exact .inl (fW h)
  ·exact .inr (vz h)
 ·rintro(h|h)
  ·obtain⟨a,b⟩:=x
   dsimp only at h
   obtain⟨a,rfl⟩:∃c,a=c+1:=⟨a-1,by omega⟩
   obtain⟨b,rfl⟩:∃c,b=c+1:=⟨b-1,by omega⟩
   exact .inl (kg (by omega) (by omega))
  ·obtain⟨a,b⟩:=x
   dsimp only at h
   obtain⟨rfl,h1,h2⟩:=h
   obtain⟨b,rfl⟩:∃c,b=c+1:=⟨b-1,by omega⟩
   exact .inr (j8 (by omega))
def Rok(kerf:Int)(kl:List Kd)(rows:List (List Int))(done:List (Nat×Nat)):Prop:=∀p x s,done=p++x::s→bok kerf (wsP kl) kl (eO rows p) x.1 x.2 (vAt rows x.1 x.2)=true
theorem Gx(kerf:Int)(kl:List Kd)(rows:List (List Int)):Rok kerf kl rows []:=fun p x s h=>by cases p<;>cases h
theorem FN{kerf:Int}{kl:List Kd}{rows:List (List Int)}{done:List (Nat×Nat)}{x:Nat×Nat}(h:Rok kerf kl rows done)(hx:bok kerf (wsP kl) kl (eO rows done) x.1 x.2 (vAt rows x.1 x.2)=true):Rok kerf kl rows (done++[x]):=by
 intro p y s e
 rcases List.eq_nil_or_concat s with rfl|⟨s',z,rfl⟩
 ·have e2:done++[x]=p++[y]:=e
  obtain⟨rfl,e3⟩:=List.append_inj' e2 rfl
  cases e3
  exact hx
 ·rw[List.concat_eq_append,←List.cons_append,←List.append_assoc]at e
  obtain⟨rfl,_⟩:=List.append_inj' e rfl
  exact h p y s' rfl
theorem FI{kerf:Int}{kl:List Kd}{rows:List (List Int)}{done:List (Nat×Nat)}(h:Rok kerf kl rows done){x:Nat×Nat}(hx:x∈done):inV (vAt rows x.1 x.2):=by
 obtain⟨p,s,rfl⟩:=List.append_of_mem hx
 exact(vA.1 (h p x s rfl)).1
theorem Ad{kerf:Int}{kl:List Kd}{rows:List (List Int)}{done:List (Nat×Nat)}(h:Rok kerf kl rows done)(hd:∀x∈done,1≤x.1∧1≤x.2)(z:Int×Int):inV (look (eO rows done) z):=by
 have h0:look ([]:Tab) z=0:=rfl
 by_cases hz:z.1<1∨z.2<1
 ·unfold eO
  rw[iT rows hz _ _ hd,h0]
  exact⟨by omega,by omega⟩
 ·obtain⟨a,ha⟩:=Int.eq_ofNat_of_zero_le (show 0≤z.1 by omega)
  obtain⟨b,hb⟩:=Int.eq_ofNat_of_zero_le (show 0≤z.2 by omega)
  have e:z=((a:Int),(b:Int)):=Prod.ext ha hb
  have:=lN rows (a,b) done []
  by_cases hm:(a,b)∈done
  ·unfold eO
   rw[e,this.1 hm]
   exact FI h hm
  ·unfold eO
   rw[e,this.2 hm]
   exact⟨by show(0:Int)≤0;omega,by show(0:Int)≤_;omega⟩
theorem Jj{kerf:Int}(hk:0≤kerf){a b:Nat}{x:Nat×Nat}(hx:x∈dD a b):cg x a b≠((a:Int),(b:Int))∧cm kerf x a b≠((a:Int),(b:Int)):=by
 have:=vu hk hx
 refine⟨fun q=> ?_,fun q=> ?_⟩<;>(rw[q]at this;simp[sz]at this)
theorem jK{kerf:Int}(hk:0≤kerf){a b:Nat}{x:Nat×Nat}(hx:x∈dD a b)(t:Tab)(v:Int):look (upd t (a,b) v) (cg x a b)=look t (cg x a b)∧look (upd t (a,b) v) (cm kerf x a b)=look t (cm kerf x a b):=by
 obtain⟨h1,h2⟩:=Jj hk hx
 rw[jr,jr,if_neg h1,if_neg h2]
 exact⟨rfl,rfl⟩
theorem mP(z:Int):∃r:Nat,mx 0 z=r∧((r:Int)=z∨z<1∧r=0):=by
 unfold mx
 by_cases h:z>0
 ·rw[if_pos h]
  obtain⟨r,hr⟩:=Int.eq_ofNat_of_zero_le (show 0≤z by omega)
  exact⟨r,hr, .inl hr.symm⟩
 ·rw[if_neg h]
  exact⟨0,rfl, .inr ⟨by omega,rfl⟩⟩
theorem jk{w ht:Nat}{rows:List (List Int)}{x y:Nat}(h:x=0∨y=0):Gv w ht rows x y=0:=by unfold Gv;rw[if_neg (by omega)]
theorem Cb{kerf:Int}(hk:0≤kerf){l:List Kd}{w ht:Nat}{rows:List (List Int)}(h:nD kerf l w ht rows){done:List (Nat×Nat)}(hd:∀x∈done,x∈aU w ht){x:Nat×Nat}(hx:x∈aU w ht):bok kerf (wsP l) l (eO rows done) x.1 x.2 (vAt rows x.1 x.2)=true:=by
 obtain⟨a,b⟩:=x
 have hb:=fW hx
 dsimp only at hb⊢
 obtain⟨h1,h2,h3,h4⟩:=h
 have h0:∀x y,0≤Gv w ht rows x y:=fun x y=>by
  unfold Gv
  by_cases q:1≤x∧x≤w∧1≤y∧y≤ht
  ·rw[if_pos q];exact(h3 x y q.1 q.2.1 q.2.2.1 q.2.2.2).1
  ·rw[if_neg q];exact Int.le_refl _
 have hdn:∀x∈done,1≤x.1∧1≤x.2:=fun x hx=>by have:=fW (hd x hx);omega
 have hlk:∀x y:Nat,look (eO rows done) ((x:Int),(y:Int))≤Gv w ht rows x y:=fun x y=>by
  have q:=lN rows (x,y) done []
  by_cases hm:(x,y)∈done
  ·have hb':=fW (hd _ hm)
   unfold eO
   rw[q.1 hm]
   unfold Gv
   dsimp only at hb'⊢
   rw[if_pos hb']
   exact Int.le_refl _
  ·unfold eO
   rw[q.2 hm]
   exact h0 x y
 have hout:∀z:Int×Int,z.1<1∨z.2<1→look (eO rows done) z=0:=fun z hz=>iT rows hz _ _ hdn
 have hG:Gv w ht rows a b=vAt rows a b:=by unfold Gv;rw[if_pos hb]
 obtain⟨o1,o2,o3⟩:=h4 a b hb.1 hb.2.1 hb.2.2.1 hb.2.2.2
 rw[hG]at o1 o2 o3
 refine vA.2 ⟨h3 a b hb.1 hb.2.1 hb.2.2.1 hb.2.2.2,qU.2 o1,fun x hx=> ?_⟩
 obtain⟨e1,e2⟩:=jK hk hx (eO rows done) (vAt rows a b)
 rw[e1,e2]
 have hc:=fy hx
 obtain⟨c,n⟩:=x
 dsimp only at hc
 rcases hc with⟨rfl,q1,q2⟩|⟨rfl,q1,q2⟩
 ·obtain⟨r,hr,hr2⟩:=mP ((a:Int)-n-kerf)
  have:=o2 n q1 (by omega) r hr
  have g1:=hlk n b
  show look (eO rows done) ((n:Int),(b:Int))+look (eO rows done) ((a:Int)-n-kerf,(b:Int))≤_
  rcases hr2 with hr2|⟨hr2,rfl⟩
  ·have g2:=hlk r b
   rw[←hr2];omega
  ·rw[hout ((a:Int)-n-kerf,(b:Int)) (.inl hr2)]
   rw[jk (.inl rfl)]at this
   omega
 ·obtain⟨r,hr,hr2⟩:=mP ((b:Int)-n-kerf)
  have:=o3 n q1 (by omega) r hr
  have g1:=hlk a n
  show look (eO rows done) ((a:Int),(n:Int))+look (eO rows done) ((a:Int),(b:Int)-n-kerf)≤_
  rcases hr2 with hr2|⟨hr2,rfl⟩
  ·have g2:=hlk a r
   rw[←hr2];omega
  ·rw[hout ((a:Int),(b:Int)-n-kerf) (.inr hr2)]
   rw[jk (.inr rfl)]at this
   omega
theorem Bn{kerf:Int}(hk:0≤kerf){l:List Kd}{w ht:Nat}{rows:List (List Int)}(h1:rows.length=w)(h2:∀r∈rows,r.length=ht)(h:Rok kerf l rows (aU w ht)):nD kerf l w ht rows:=by
 refine⟨h1,h2,fun x y q1 q2 q3 q4=> ?_,fun a b q1 q2 q3 q4=> ?_⟩
 ·obtain⟨x,rfl⟩:∃c,x=c+1:=⟨x-1,by omega⟩
  obtain⟨y,rfl⟩:∃c,y=c+1:=⟨y-1,by omega⟩
  exact FI h (kg (w:=w) (h:=ht) (i:=x) (j:=y) (by omega) (by omega))
 ·obtain⟨i,rfl⟩:∃c,a=c+1:=⟨a-1,by omega⟩
  obtain⟨j,rfl⟩:∃c,b=c+1:=⟨b-1,by omega⟩
  obtain⟨s,hs⟩:=lJ (ht:=ht) (i:=i) (j:=j) (by omega) (w:=w) (by omega)
  obtain⟨p1,p2,p3⟩:=vA.1 (h _ _ _ hs)
  dsimp only at p1 p2 p3
  have hdn:∀x∈aU i ht++row (i+1) j,1≤x.1∧1≤x.2:=fun x hx=>by have:=(tj (by omega)).1 hx;omega
  have hout:∀z:Int×Int,z.1<1∨z.2<1→look (eO rows (aU i ht++row (i+1) j)) z=0:=fun z hz=>iT rows hz _ _ hdn
  have hlk:∀x y:Nat,(1≤x∧x≤i∧1≤y∧y≤ht)∨(x=i+1∧1≤y∧y≤j)→look (eO rows (aU i ht++row (i+1) j)) ((x:Int),(y:Int))=Gv w ht rows x y:=fun x y q=>by
   have e:=(lN rows (x,y) (aU i ht++row (i+1) j) []).1 ((tj (by omega)).2 q)
   unfold eO
   rw[e]
   unfold Gv
   rw[if_pos (by omega)]
  have hG:Gv w ht rows (i+1) (j+1)=vAt rows (i+1) (j+1):=by unfold Gv;rw[if_pos (by omega)]
  refine⟨by rw[hG];exact qU.1 p2,fun n n1 n2 r hr=> ?_,fun n n1 n2 r hr=> ?_⟩
  ·have hx:(3,n)∈dD (i+1) (j+1):=by
    obtain⟨n,rfl⟩:∃c,n=c+1:=⟨n-1,by omega⟩
    exact List.mem_append.2 (.inl (j8 (by omega)))
   have q:=p3 _ hx
   obtain⟨e1,e2⟩:=jK hk hx (eO rows (aU i ht++row (i+1) j)) (vAt rows (i+1) (j+1))
   rw[e1,e2]at q
   rw[hG]
   have q':look (eO rows (aU i ht++row (i+1) j)) ((n:Int),((j+1:Nat):Int))+look (eO rows (aU i ht++row (i+1) j)) (((i+1:Nat):Int)-n-kerf,((j+1:Nat):Int))≤vAt rows (i+1) (j+1):=q
   rw[hlk n (j+1) (by omega)]at q'
   obtain⟨r',hr',hr2⟩:=mP (((i+1:Nat):Int)-n-kerf)
   obtain rfl:r=r':=by omega
   rcases hr2 with hr2|⟨hr2,rfl⟩
   ·by_cases hz:r=0
    ·subst hz
     rw[hout _ (.inl (by show((i+1:Nat):Int)-n-kerf<1;omega))]at q'
     rw[jk (x:=0) (.inl rfl)]
     exact q'
    ·rw[←hr2,hlk r (j+1) (by omega)]at q'
     exact q'
   ·rw[hout _ (.inl hr2)]at q'
    rw[jk (x:=0) (.inl rfl)]
    exact q'
  ·have hx:(4,n)∈dD (i+1) (j+1):=by
    obtain⟨n,rfl⟩:∃c,n=c+1:=⟨n-1,by omega⟩
    exact List.mem_append.2 (.inr (j8 (by omega)))
   have q:=p3 _ hx
   obtain⟨e1,e2⟩:=jK hk hx (eO rows (aU i ht++row (i+1) j)) (vAt rows (i+1) (j+1))
   rw[e1,e2]at q
   rw[hG]
   have q':look (eO rows (aU i ht++row (i+1) j)) (((i+1:Nat):Int),(n:Int))+look (eO rows (aU i ht++row (i+1) j)) (((i+1:Nat):Int),((j+1:Nat):Int)-n-kerf)≤vAt rows (i+1) (j+1):=q
   rw[hlk (i+1) n (by omega)]at q'
   obtain⟨r',hr',hr2⟩:=mP (((j+1:Nat):Int)-n-kerf)
   obtain rfl:r=r':=by omega
   rcases hr2 with hr2|⟨hr2,rfl⟩
   ·by_cases hz:r=0
    ·subst hz
     rw[hout _ (.inr (by show((j+1:Nat):Int)-n-kerf<1;omega))]at q'
     rw[jk (y:=0) (.inr rfl)]
     exact q'
    ·rw[←hr2,hlk (i+1) r (by omega)]at q'
     exact q'
   ·rw[hout _ (.inr hr2)]at q'
    rw[jk (y:=0) (.inr rfl)]
    exact q'
end Go.A.Pk
end
section
namespace Go.A.Pk
theorem xz{kerf:Int}{ws:List Int}{kl:List Kd}(d:Nat)(p:Int×Int):ShF kerf ws kl 0 p≤ShF kerf ws kl d p:=uz (Nat.zero_le d) p
theorem AW{kerf:Int}{l:List Kd}{p:Int×Int}{x:Nat×Int}(h1:1≤p.1)(h2:1≤p.2)(h:(jq l x p).1.ok=true):(jq l x p).1.depth=0∧∀d,(jq l x p).1.bq≤ShF kerf (wsP l) l d p:=by
 unfold jq at h⊢
 split
 ·exact⟨rfl,fun d=>tg d p⟩
 ·rename_i h0
  rw[if_neg h0]at h
  split
  ·rename_i h12
   rw[if_pos h12]at h
   unfold jz at h⊢
   split
   ·rename_i hr
    rw[if_pos hr]at h
    cases hk:l[x.2.toNat]? with
    |none=>rw[hk]at h;cases h
    |some k=>
     rw[hk]at h
     dsimp only at h⊢
     refine⟨rfl,fun d=> ?_⟩
     have hP:=of_decide_eq_true h
     obtain⟨p1,p2⟩:=p
     dsimp only at h1 h2
     obtain⟨a,rfl⟩:=Int.eq_ofNat_of_zero_le (show 0≤p1 by omega)
     obtain⟨b,rfl⟩:=Int.eq_ofNat_of_zero_le (show 0≤p2 by omega)
     refine Int.le_trans ?_ (xz d _)
     rw[wj (by omega) (by omega)]
     have hm:∃y∈aZ a b l 0,y.2=x.2.toNat:=by
      rcases hP with⟨_,e1,e2⟩|⟨_,e0,e1,e2⟩
      ·refine⟨(1,x.2.toNat),ji hk _ ?_,rfl⟩
       unfold cB
       rw[if_pos ⟨e1.symm,e2.symm⟩]
       exact List.mem_append_left _ (List.mem_singleton.2 rfl)
      ·refine⟨(2,x.2.toNat),ji hk _ ?_,rfl⟩
       unfold cB
       rw[if_pos (show k.j4=true∧(a:Int)=k.h∧(b:Int)=k.w from⟨e0,e1.symm,e2.symm⟩)]
       exact List.mem_append_right _ (List.mem_singleton.2 rfl)
     obtain⟨y,hy,ey⟩:=hm
     have:=(th (ws:=wsP l) (m:=0)).2 y hy
     rw[ey]at this
     have hg:(wsP l).getD x.2.toNat 0=k.bq:=by
      unfold wsP
      rw[List.getD_eq_getElem?_getD,List.getElem?_map,hk]
      rfl
     rw[hg]at this
     exact this
   ·rename_i hr
    rw[if_neg hr]at h
    cases h
  ·rename_i h12
   rw[if_neg h12]at h
   cases h
theorem AO{kerf:Int}{l:List Kd}{a b k i:Nat}{f:Nat}{r1 r2:Sm×Nat}(hk:k=3∨k=4)(hi:1≤(i:Int)∧(i:Int)≤eD (k,(i:Int)) ((a:Int),(b:Int))-1)(h1:1≤a)(h2:1≤b)(hb1:0≤r1.1.depth)(hb2:0≤r2.1.depth)
 (i1:r1.1.ok=true→r1.1.depth≤f∧∀d:Nat,r1.1.depth≤d→r1.1.bq≤ShF kerf (wsP l) l d (fC (k,(i:Int)) ((a:Int),(b:Int))))(i2:¬eD (k,(i:Int)) ((a:Int),(b:Int))-i-kerf<1→r2.1.ok=true→r2.1.depth≤f∧∀d:Nat,r2.1.depth≤d→r2.1.bq≤ShF kerf (wsP l) l d (gz kerf (k,(i:Int)) ((a:Int),(b:Int))))
 (h:(gF kerf (eD (k,(i:Int)) ((a:Int),(b:Int))) i r1 r2).1.ok=true):(gF kerf (eD (k,(i:Int)) ((a:Int),(b:Int))) i r1 r2).1.depth≤f+1∧∀d:Nat,(gF kerf (eD (k,(i:Int)) ((a:Int),(b:Int))) i r1 r2).1.depth≤d→(gF kerf (eD (k,(i:Int)) ((a:Int),(b:Int))) i r1 r2).1.bq≤ShF kerf (wsP l) l d ((a:Int),(b:Int)):=by
 have hmem:(k,i)∈dD a b:=by
  have hs:eD (k,(i:Int)) ((a:Int),(b:Int))=if k=3 then(a:Int)else b:=rfl
  rw[hs]at hi
  obtain⟨j,rfl⟩:∃j,i=j+1:=⟨i-1,by omega⟩
  rcases hk with rfl|rfl
  ·rw[if_pos rfl]at hi;exact qb (by omega)
  ·rw[if_neg (by omega)]at hi;exact pZ (by omega)
 have e1:fC (k,(i:Int)) ((a:Int),(b:Int))=cg (k,i) a b:=rfl
 have e2:gz kerf (k,(i:Int)) ((a:Int),(b:Int))=cm kerf (k,i) a b:=rfl
 have key:∀d':Nat,ShF kerf (wsP l) l d' (fC (k,(i:Int)) ((a:Int),(b:Int)))+ShF kerf (wsP l) l d' (gz kerf (k,(i:Int)) ((a:Int),(b:Int)))≤ShF kerf (wsP l) l (d'+1) ((a:Int),(b:Int)):=fun d'=>by
  rw[w8 h1 h2,e1,e2]
  exact(iH (f:=fun x=>ShF kerf (wsP l) l d' (cg x a b)+ShF kerf (wsP l) l d' (cm kerf x a b))).2 (k,i) hmem
 unfold gF at h⊢
 split
 ·rename_i ok1
  rw[if_pos ok1]at h
  obtain⟨d1,w1⟩:=i1 ok1
  split
  ·refine⟨by dsimp only;omega,fun d hd=> ?_⟩
   dsimp only at hd⊢
   obtain⟨d',rfl⟩:∃d',d=d'+1:=⟨d-1,by omega⟩
   have:=w1 d' (by omega)
   have hn:=tg (kerf:=kerf) (ws:=wsP l) (kl:=l) d' (gz kerf (k,(i:Int)) ((a:Int),(b:Int)))
   have:=key d'
   omega
  ·rename_i hn
   rw[if_neg hn]at h
   split
   ·rename_i ok2
    obtain⟨d2,w2⟩:=i2 hn ok2
    refine⟨by dsimp only;unfold mx;split<;>omega,fun d hd=> ?_⟩
    dsimp only at hd⊢
    obtain⟨d',rfl⟩:∃d',d=d'+1:=⟨d-1,by unfold mx at hd;split at hd<;>omega⟩
    have a1:=w1 d' (by unfold mx at hd;split at hd<;>omega)
    have a2:=w2 d' (by unfold mx at hd;split at hd<;>omega)
    have:=key d'
    omega
   ·rename_i nok
    rw[if_neg nok]at h
    cases h
 ·rename_i nok
  rw[if_neg nok]at h
  cases h
theorem ri{kerf:Int}{l:List Kd}(hc:chk kerf l=0):∀(f:Nat) (p:Int×Int) (ns:List (Nat×Int)),1≤p.1∧p.1≤16→1≤p.2∧p.2≤16→(bP kerf l f p ns).1.ok=true→(bP kerf l f p ns).1.depth≤f∧∀d:Nat,(bP kerf l f p ns).1.depth≤d→(bP kerf l f p ns).1.bq≤ShF kerf (wsP l) l d p
 |f,p,[],_,_,h=>by cases f<;>cases h
 |0,p,x::ns,h1,h2,h=>by
  rw[bP]at h⊢
  split
  ·rename_i h3;rw[if_pos h3]at h;cases h
  ·rename_i h3
   rw[if_neg h3]at h
   obtain⟨q1,q2⟩:=AW (kerf:=kerf) h1.1 h2.1 h
   exact⟨by rw[q1];omega,fun d _=>q2 d⟩
 |f+1,p,x::ns,h1,h2,h=>by
  rw[bP]at h⊢
  split
  ·rename_i h3
   rw[if_pos h3]at h
   split
   ·rename_i hat
    rw[if_pos hat]at h
    have hk:=(dY.1 hc).2.1
    obtain⟨p1,p2⟩:=p
    obtain⟨k,i⟩:=x
    dsimp only at h1 h2 h3 hat h⊢
    obtain⟨a,rfl⟩:=Int.eq_ofNat_of_zero_le (show 0≤p1 by omega)
    obtain⟨b,rfl⟩:=Int.eq_ofNat_of_zero_le (show 0≤p2 by omega)
    obtain⟨i,rfl⟩:=Int.eq_ofNat_of_zero_le (show 0≤i by omega)
    have hs:eD (k,(i:Int)) ((a:Int),(b:Int))=if k=3 then(a:Int)else b:=rfl
    have h1s:eD (k,(i:Int)) ((a:Int),(b:Int))≤16:=by rw[hs];split<;>omega
    have o1:1≤(fC (k,(i:Int)) ((a:Int),(b:Int))).1∧(fC (k,(i:Int)) ((a:Int),(b:Int))).1≤16:=by unfold fC;split<;>dsimp only<;>omega
    have o2:1≤(fC (k,(i:Int)) ((a:Int),(b:Int))).2∧(fC (k,(i:Int)) ((a:Int),(b:Int))).2≤16:=by unfold fC;split<;>dsimp only<;>omega
    have b1:=(lG hc f (fC (k,(i:Int)) ((a:Int),(b:Int))) ns o1 o2).1.depth.1
    by_cases hn:eD (k,(i:Int)) ((a:Int),(b:Int))-i-kerf<1
    ·have hj:∀r2,gF kerf (eD (k,(i:Int)) ((a:Int),(b:Int))) i (bP kerf l f (fC (k,(i:Int)) ((a:Int),(b:Int))) ns) r2=gF kerf (eD (k,(i:Int)) ((a:Int),(b:Int))) i (bP kerf l f (fC (k,(i:Int)) ((a:Int),(b:Int))) ns) (sm0,0):=fun r2=>by
      unfold gF
      rw[if_pos hn,if_pos hn]
     rw[hj]at h⊢
     exact AO h3 hat (by omega) (by omega) b1 (Int.le_refl 0) (fun q=>ri hc f _ _ o1 o2 q) (fun q=>absurd hn q) h
    ·have t1:1≤(gz kerf (k,(i:Int)) ((a:Int),(b:Int))).1∧(gz kerf (k,(i:Int)) ((a:Int),(b:Int))).1≤16:=by
      rw[hs]at hn
      unfold gz;split<;>rename_i q<;>dsimp only at q⊢
      ·rw[if_pos q]at hn;omega
      ·omega
     have t2:1≤(gz kerf (k,(i:Int)) ((a:Int),(b:Int))).2∧(gz kerf (k,(i:Int)) ((a:Int),(b:Int))).2≤16:=by
      rw[hs]at hn
      unfold gz;split<;>rename_i q<;>dsimp only at q⊢
      ·omega
      ·rw[if_neg q]at hn;omega
     exact AO h3 hat (by omega) (by omega) b1 (lG hc f _ _ t1 t2).1.depth.1 (fun q=>ri hc f _ _ o1 o2 q) (fun _ q=>ri hc f _ _ t1 t2 q) h
   ·rename_i hat
    rw[if_neg hat]at h
    cases h
  ·rename_i h3
   rw[if_neg h3]at h
   obtain⟨q1,q2⟩:=AW (kerf:=kerf) h1.1 h2.1 h
   exact⟨by rw[q1];omega,fun d _=>q2 d⟩
theorem IX{kerf:Int}{l:List Kd}(hc:chk kerf l=0){f:Nat}{p:Int×Int}{ns:List (Nat×Int)}(h1:1≤p.1∧p.1≤16)(h2:1≤p.2∧p.2≤16)(h:(bP kerf l f p ns).1.ok=true):(bP kerf l f p ns).1.bq≤V kerf (wsP l) l p:=by
 obtain⟨q1,q2⟩:=ri hc f p ns h1 h2 h
 exact Int.le_trans (q2 f q1) (JB (dY.1 hc).2.1.1 f p)
end Go.A.Pk
end
section
namespace Go.A.Pk
def nI(ns:List (Nat×Nat)):List (Nat×Int):=ns.map fun x=>(x.1,(x.2:Int))
theorem xE{k:Kd}{i a b:Nat}{x:Nat×Nat}(h:x∈cB k i a b):x.2=i∧((x.1=1∧(a:Int)=k.w∧(b:Int)=k.h)∨(x.1=2∧k.j4=true∧(a:Int)=k.h∧(b:Int)=k.w)):=by
 unfold cB at h
 rcases List.mem_append.1 h with h|h
 ·split at h
  ·rename_i q
   rw[List.mem_singleton.1 h]
   exact⟨rfl, .inl ⟨rfl,q⟩⟩
  ·cases h
 ·split at h
  ·rename_i q
   rw[List.mem_singleton.1 h]
   exact⟨rfl, .inr ⟨rfl,q⟩⟩
  ·cases h
theorem om{a b:Nat}:∀{l:List Kd} {i:Nat} {x:Nat×Nat},x∈aZ a b l i→∃j k,l[j]? =some k∧x.2=i+j∧((x.1=1∧(a:Int)=k.w∧(b:Int)=k.h)∨(x.1=2∧k.j4=true∧(a:Int)=k.h∧(b:Int)=k.w))
 |[],_,x,h=>by cases h
 |k::l,i,x,h=>by
  simp only[aZ,List.mem_append]at h
  rcases h with h|h
  ·obtain⟨h1,h2⟩:=xE h
   exact⟨0,k,rfl,h1,h2⟩
  ·obtain⟨j,k',h1,h2,h3⟩:=om h
   exact⟨j+1,k',h1,by omega,h3⟩
theorem pX{α:Type}{f:α→Int}:∀{xs:List α} {m:Int},foldM f xs m=m∨∃x∈xs,foldM f xs m=f x
 |[],m=> .inl rfl
 |y::xs,m=>by
  show foldM f xs (mx m (f y))=m∨∃x∈y::xs,foldM f xs (mx m (f y))=f x
  rcases pX (f:=f) (xs:=xs) (m:=mx m (f y))with h|⟨x,hx,h⟩
  ·rw[h]
   by_cases hc:f y≤m
   ·left;unfold mx;split<;>omega
   ·right;exact⟨y,List.mem_cons_self ..,by unfold mx;split<;>omega⟩
  ·right;exact⟨x,List.mem_cons_of_mem _ hx,h⟩
theorem EU{kerf:Int}{ws:List Int}{kl:List Kd}{t:Tab}{p:Int×Int}{ns:List (Nat×Nat)}(h:ij kerf ws kl t p ns)(hp:¬ (1≤p.1∧1≤p.2)):ns=[]:=by
 cases h with
 |none _=>rfl
 |leaf q1 q2 _ _=>exact absurd ⟨by dsimp only;omega,by dsimp only;omega⟩ hp
 |cut q1 q2 _ _ _ _=>exact absurd ⟨by dsimp only;omega,by dsimp only;omega⟩ hp
 |tO q1 q2 _ _=>exact absurd ⟨by dsimp only;omega,by dsimp only;omega⟩ hp
theorem CF{kerf:Int}{l:List Kd}{t:Tab}{W Hh:Int}(hk:0≤kerf)(hV:∀q:Int×Int,1≤q.1→q.1≤W→1≤q.2→q.2≤Hh→look t q=V kerf (wsP l) l q)(h0:∀q:Int×Int,¬ (1≤q.1∧1≤q.2)→look t q=0){p:Int×Int}{ns:List (Nat×Nat)}(R:ij kerf (wsP l) l t p ns):
 1≤p.1→1≤p.2→p.1≤W→p.2≤Hh→∀(f:Nat) (rest:List (Nat×Int)),p.1+p.2≤f→(bP kerf l f p (nI ns++rest)).1.ok=true∧(bP kerf l f p (nI ns++rest)).1.bq=look t p∧(bP kerf l f p (nI ns++rest)).2=ns.length:=by
 induction R with
 |none h=>intro h1 h2;exact absurd ⟨h1,h2⟩ h
 | @leaf a b x ha hb hx hw=>
   intro h1 h2 h3 h4 f rest hf
   obtain⟨j,k,hj,hj2,hk3⟩:=om hx
   have ex:x.2=j:=by omega
   have hjl:j<l.length:=(List.getElem?_eq_some_iff.1 hj).1
   have hn34:¬ (x.1=3∨x.1=4):=by rcases hk3 with⟨e,_⟩|⟨e,_⟩<;>omega
   have hwk:(wsP l).getD x.2 0=k.bq:=by rw[wsP,List.getD_eq_getElem?_getD,List.getElem?_map,ex,hj];rfl
   have e1:∀f:Nat,bP kerf l f ((a:Int),(b:Int)) (nI [x]++rest)=jq l (x.1,(x.2:Int)) ((a:Int),(b:Int)):=fun f=>by
    show bP kerf l f ((a:Int),(b:Int)) ((x.1,(x.2:Int))::rest)=_
    cases f<;>rw[bP,if_neg hn34]
   have e2:jq l (x.1,(x.2:Int)) ((a:Int),(b:Int))=(⟨decide (isP k x.1 ((a:Int),(b:Int))),k.bq,(a:Int)*b,0,z12.set x.2 1⟩,1):=by
    unfold jq jz
    rw[if_neg (show¬x.1=0 by rcases hk3 with⟨e,_⟩|⟨e,_⟩<;>omega),if_pos (show x.1=1∨x.1=2 by rcases hk3 with⟨e,_⟩|⟨e,_⟩<;>omega),if_pos (by omega)]
    simp only[Int.toNat_natCast,ex,hj]
   rw[e1,e2]
   refine⟨decide_eq_true ?_,hwk.symm.trans hw,rfl⟩
   unfold isP
   rcases hk3 with⟨e,e3,e4⟩|⟨e,e3,e4,e5⟩
   ·exact .inl ⟨e,e3.symm,e4.symm⟩
   ·exact .inr ⟨e,e3,e4.symm,e5.symm⟩
 | @cut a b x n1 n2 ha hb hx hw r1 r2 ih1 ih2=>
   intro h1 h2 h3 h4 f rest hf
   dsimp only at h1 h2 h3 h4 hf
   obtain⟨f,rfl⟩:∃f',f=f'+1:=⟨f-1,by omega⟩
   have eo:fC (x.1,(x.2:Int)) ((a:Int),(b:Int))=cg x a b:=by unfold fC cg;rfl
   have et:gz kerf (x.1,(x.2:Int)) ((a:Int),(b:Int))=cm kerf x a b:=by unfold gz cm;rfl
   have hx34:x.1=3∨x.1=4:=by rcases fy hx with⟨e,_⟩|⟨e,_⟩<;>omega
   have hat:1≤(x.2:Int)∧(x.2:Int)≤eD (x.1,(x.2:Int)) ((a:Int),(b:Int))-1:=by
    unfold eD
    rcases fy hx with⟨e,q1,q2⟩|⟨e,q1,q2⟩
    ·rw[if_pos e];dsimp only;omega
    ·rw[if_neg (show¬ (x.1,(x.2:Int)).1=3 by show¬x.1=3;omega)];dsimp only;omega
   have hone:1≤(cg x a b).1∧1≤(cg x a b).2∧(cg x a b).1≤W∧(cg x a b).2≤Hh∧(cg x a b).1+(cg x a b).2≤f:=by
    rcases fy hx with⟨e3,_,_⟩|⟨e4,_,_⟩
    ·simp only[cg,e3,if_true];omega
    ·have q3:¬x.1=3:=by omega
     simp only[cg,if_neg q3];omega
   have htwo:((cm kerf x a b).1≤W∧(cm kerf x a b).2≤Hh∧(cm kerf x a b).1+(cm kerf x a b).2≤f)∧(eD (x.1,(x.2:Int)) ((a:Int),(b:Int))-x.2-kerf<1↔ ¬ (1≤(cm kerf x a b).1∧1≤(cm kerf x a b).2)):=by
    unfold eD
    rcases fy hx with⟨e3,_,_⟩|⟨e4,_,_⟩
    ·simp only[cm,e3,if_true];omega
    ·have q3:¬x.1=3:=by omega
     simp only[cm,if_neg q3];omega
   obtain⟨i1,i2,i3⟩:=ih1 hone.1 hone.2.1 hone.2.2.1 hone.2.2.2.1 f (nI n2++rest) hone.2.2.2.2
   have eL:nI (x::(n1++n2))++rest=(x.1,(x.2:Int))::(nI n1++(nI n2++rest)):=by simp[nI]
   have e1:bP kerf l (f+1) ((a:Int),(b:Int)) (nI (x::(n1++n2))++rest)=gF kerf (eD (x.1,(x.2:Int)) ((a:Int),(b:Int))) x.2 (bP kerf l f (cg x a b) (nI n1++(nI n2++rest))) (bP kerf l f (cm kerf x a b) ((nI n1++(nI n2++rest)).drop (bP kerf l f (cg x a b) (nI n1++(nI n2++rest))).2)):=by
    rw[eL,bP,if_pos hx34,if_pos hat,eo,et]
   have ed:(nI n1++(nI n2++rest)).drop n1.length=nI n2++rest:=by
    have:n1.length=(nI n1).length:=by simp[nI]
    rw[this,List.drop_left]
   rw[e1,i3,ed]
   generalize bP kerf l f (cg x a b) (nI n1++(nI n2++rest))=one at*
   unfold gF
   rw[if_pos i1]
   by_cases hr:eD (x.1,(x.2:Int)) ((a:Int),(b:Int))-x.2-kerf<1
   ·have hnb:=htwo.2.1 hr
    have z2:n2=[]:=EU r2 hnb
    have z3:=h0 _ hnb
    rw[if_pos hr]
    refine⟨i1,?_,?_⟩
    ·show one.1.bq=_
     rw[←hw,z3,i2];omega
    ·rw[z2];simp;omega
   ·have hb2:1≤(cm kerf x a b).1∧1≤(cm kerf x a b).2:=Classical.byContradiction fun q=>hr (htwo.2.2 q)
    obtain⟨j1,j2,j3⟩:=ih2 hb2.1 hb2.2 htwo.1.1 htwo.1.2.1 f rest htwo.1.2.2
    rw[if_neg hr,if_pos j1]
    refine⟨rfl,?_,?_⟩
    ·show one.1.bq+(bP kerf l f (cm kerf x a b) (nI n2++rest)).1.bq=_
     rw[i2,j2];exact hw
    ·show 1+one.2+(bP kerf l f (cm kerf x a b) (nI n2++rest)).2=_
     rw[i3,j3];simp;omega
 | @tO a b ha hb hlf hct=>
   intro h1 h2 h3 h4 f rest hf
   have e1:∀f:Nat,bP kerf l f ((a:Int),(b:Int)) (nI [(0,0)]++rest)=({sm0 with ok:=true},1):=fun f=>by
    show bP kerf l f ((a:Int),(b:Int)) ((0,0)::rest)=_
    cases f<;>(rw[bP,if_neg (by omega)];rfl)
   rw[e1]
   refine⟨rfl,?_,rfl⟩
   show(0:Int)=_
   have hVe:=hV ((a:Int),(b:Int)) h1 h3 h2 h4
   have hV0:=FG (kerf:=kerf) (ws:=wsP l) (kl:=l) hk ((a:Int),(b:Int))
   rw[xJ hk ha hb]at hVe
   by_cases hz:look t ((a:Int),(b:Int))=0
   ·exact hz.symm
   ·exfalso
    have hpos:0<look t ((a:Int),(b:Int)):=by rw[hV _ h1 h3 h2 h4]at hz⊢;omega
    have hsub:∀x∈dD a b,V kerf (wsP l) l (cg x a b)+V kerf (wsP l) l (cm kerf x a b)=look t (cg x a b)+look t (cm kerf x a b):=fun x hx=>by
     have q1:∀q:Int×Int,q.1≤W→q.2≤Hh→V kerf (wsP l) l q=look t q:=fun q y1 y2=>by
      by_cases hq:1≤q.1∧1≤q.2
      ·exact(hV q hq.1 y1 hq.2 y2).symm
      ·rw[h0 q hq,oy hq]
     dsimp only at h3 h4
     rcases fy hx with⟨e3,_,_⟩|⟨e4,_,_⟩
     ·rw[q1 _ (by simp only[cg,e3,if_true];omega) (by simp only[cg,e3,if_true];omega),q1 _ (by simp only[cm,e3,if_true];omega) (by simp only[cm,e3,if_true];omega)]
     ·have q3:¬x.1=3:=by omega
      rw[q1 _ (by simp only[cg,if_neg q3];omega) (by simp only[cg,if_neg q3];omega),q1 _ (by simp only[cm,if_neg q3];omega) (by simp only[cm,if_neg q3];omega)]
    rcases pX (f:=fun x=>V kerf (wsP l) l (cg x a b)+V kerf (wsP l) l (cm kerf x a b)) (xs:=dD a b) (m:=ig (wsP l) (aZ a b l 0) 0)with h|⟨x,hx,h⟩
    ·rw[h]at hVe
     rcases pX (f:=fun x:Nat×Nat=>(wsP l).getD x.2 0) (xs:=aZ a b l 0) (m:=0)with g|⟨x,hx,g⟩
     ·have:ig (wsP l) (aZ a b l 0) 0=0:=g
      omega
     ·exact hlf x hx (g.symm.trans hVe.symm)
    ·rw[h]at hVe
     exact hct hpos x hx ((hsub x hx).symm.trans hVe.symm)
end Go.A.Pk
end
section
set_option maxRecDepth 100000
namespace Go.A.Pk
variable {T:Nat→Option ah}
theorem rC(ns:List (Nat×Nat)):(nI ns).length=ns.length:=by simp[nI]
theorem zJ{kerf:Int}{l:List Kd}{w ht:Int}(hc:chk kerf l=0)(hb:OnB w ht){ns:List (Nat×Nat)}(R:ij kerf (wsP l) l (lO kerf l w ht) (w,ht) ns):(fu kerf l (w,ht) (nI ns)).ok=true∧(fu kerf l (w,ht) (nI ns)).bq=gD kerf l w ht:=by
 have hk:=(dY.1 hc).2.1.1
 have hbb:=hb
 obtain⟨⟨h1,h2⟩,h3,h4⟩:=hbb
 have:=CF hk (W:=w) (Hh:=ht) (fun q a1 a2 a3 a4=>by rw[kT hc hb,if_pos ⟨a1,a2,a3,a4⟩,mB hk a1 a3];rfl) (fun q hq=>by rw[kT hc hb,if_neg (fun q1=>hq ⟨q1.1,q1.2.2.1⟩)]) R h1 h3 (Int.le_refl _) (Int.le_refl _) 32 [] (by simp only;omega)
 rw[List.append_nil]at this
 obtain⟨t1,t2,t3⟩:=this
 have e:fu kerf l (w,ht) (nI ns)=(bP kerf l 32 (w,ht) (nI ns)).1:=by
  unfold fu
  rw[if_pos ⟨t1,by rw[t3,rC]⟩]
 rw[e]
 refine⟨t1,t2.trans ?_⟩
 rw[kT hc hb,if_pos ⟨h1,Int.le_refl _,h3,Int.le_refl _⟩]
end Go.A.Pk
end
section
namespace Go.A.Pk
theorem Gu{kl:List Kd}{a b:Nat}{B m:Int}(hm:m≤B)(h:∀x∈aZ a b kl 0,(wsP kl).getD x.2 0≤B):ig (wsP kl) (aZ a b kl 0) m≤B:=oM (f:=fun y:Nat×Nat=>(wsP kl).getD y.2 0) hm h
theorem kJ(kerf:Int)(l:List Kd)(w ht:Nat):(iY kerf l w ht).length=w:=by simp[iY]
theorem pG{kerf:Int}{l:List Kd}{w ht i:Nat}{r:List Int}(h:(iY kerf l w ht)[i]? =some r):i<w∧r.length=ht∧∀j,j<ht→r[j]? =some (gD kerf l (i+1:Nat) (j+1:Nat)):=by
 have hi:=(List.getElem?_eq_some_iff.1 h).1
 rw[kJ]at hi
 have e:r=(List.range ht).map fun(j:Nat)=>gD kerf l (i+1:Nat) (j+1:Nat):=by
  have:(iY kerf l w ht)[i]? =some ((List.range ht).map fun(j:Nat)=>gD kerf l (i+1:Nat) (j+1:Nat)):=by simp[iY,hi]
  rw[h]at this
  cases this;rfl
 subst e
 exact⟨hi,by simp,fun j hj=>by simp[hj]⟩
theorem m9{kerf:Int}{l:List Kd}{w ht x y:Nat}(h1:1≤x)(h2:x≤w)(h3:1≤y)(h4:y≤ht):vAt (iY kerf l w ht) x y=gD kerf l x y:=by
 obtain⟨x,rfl⟩:∃c,x=c+1:=⟨x-1,by omega⟩
 obtain⟨y,rfl⟩:∃c,y=c+1:=⟨y-1,by omega⟩
 obtain⟨r,hr⟩:∃r,(iY kerf l w ht)[x]? =some r:=⟨_,List.getElem?_eq_getElem (by rw[kJ];omega)⟩
 have:=(pG hr).2.2 y (by omega)
 unfold vAt
 rw[Nat.add_sub_cancel,Nat.add_sub_cancel,List.getD_eq_getElem?_getD,List.getD_eq_getElem?_getD,hr]
 simp[this]
theorem Ep{kerf:Int}{l:List Kd}{w ht:Nat}(hc:chk kerf l=0)(hb:OnB (w:Int) (ht:Int)):nD kerf l w ht (iY kerf l w ht):=by
 have hk:=(dY.1 hc).2.1.1
 obtain⟨⟨b1,b2⟩,b3,b4⟩:=hb
 have hbd:∀x y:Nat,1≤x→x≤w→1≤y→y≤ht→0≤gD kerf l x y∧gD kerf l x y≤256000000:=fun x y q1 q2 q3 q4=>rR hc ⟨⟨by omega,by omega⟩,by omega,by omega⟩
 refine⟨kJ ..,fun r hr=> ?_,fun x y q1 q2 q3 q4=> ?_,fun a b q1 q2 q3 q4=> ?_⟩
 ·obtain⟨i,hi⟩:=List.getElem?_of_mem hr
  exact(pG hi).2.1
 ·rw[m9 q1 q2 q3 q4]
  have:=hbd x y q1 q2 q3 q4
  exact⟨this.1,by omega⟩
 ·have hG:∀x y:Nat,1≤x→x≤w→1≤y→y≤ht→Gv w ht (iY kerf l w ht) x y=V kerf (wsP l) l ((x:Int),(y:Int)):=fun x y p1 p2 p3 p4=>by
   unfold Gv
   rw[if_pos ⟨p1,p2,p3,p4⟩,m9 p1 p2 p3 p4,mB hk (by omega) (by omega)]
   rfl
  rw[okB,hG a b q1 q2 q3 q4]
  have E:=xJ hk (ws:=wsP l) (kl:=l) q1 q3
  have ge:=iH (f:=fun x=>V kerf (wsP l) l (cg x a b)+V kerf (wsP l) l (cm kerf x a b)) (xs:=dD a b) (m:=ig (wsP l) (aZ a b l 0) 0)
  rw[←E]at ge
  refine⟨qU.1 fun x hx=>Int.le_trans (th.2 x hx) ge.1,fun n n1 n2 r hr=> ?_,fun n n1 n2 r hr=> ?_⟩
  ·have hx:(3,n)∈dD a b:=by
    obtain⟨n,rfl⟩:∃c,n=c+1:=⟨n-1,by omega⟩
    exact List.mem_append.2 (.inl (j8 (by omega)))
   have g:V kerf (wsP l) l ((n:Int),(b:Int))+V kerf (wsP l) l ((a:Int)-n-kerf,(b:Int))≤V kerf (wsP l) l ((a:Int),(b:Int)):=ge.2 _ hx
   rw[hG n b n1 (by omega) q3 q4]
   obtain⟨r',hr',hr2⟩:=mP ((a:Int)-n-kerf)
   obtain rfl:r=r':=by omega
   by_cases hz:r=0
   ·subst hz
    rw[jk (x:=0) (.inl rfl)]
    rw[oy (p:=((a:Int)-n-kerf,(b:Int))) (fun q=>by have:=q.1;dsimp only at this;omega)]at g
    exact g
   ·rw[hG r b (by omega) (by omega) q3 q4,show(r:Int)=(a:Int)-n-kerf by omega]
    exact g
  ·have hx:(4,n)∈dD a b:=by
    obtain⟨n,rfl⟩:∃c,n=c+1:=⟨n-1,by omega⟩
    exact List.mem_append.2 (.inr (j8 (by omega)))
   have g:V kerf (wsP l) l ((a:Int),(n:Int))+V kerf (wsP l) l ((a:Int),(b:Int)-n-kerf)≤V kerf (wsP l) l ((a:Int),(b:Int)):=ge.2 _ hx
   rw[hG a n q1 q2 n1 (by omega)]
   obtain⟨r',hr',hr2⟩:=mP ((b:Int)-n-kerf)
   obtain rfl:r=r':=by omega
   by_cases hz:r=0
   ·subst hz
    rw[jk (y:=0) (.inr rfl)]
    rw[oy (p:=((a:Int),(b:Int)-n-kerf)) (fun q=>by have:=q.2;dsimp only at this;omega)]at g
    exact g
   ·rw[hG a r q1 q2 (by omega) (by omega),show(r:Int)=(b:Int)-n-kerf by omega]
    exact g
theorem Dl{kerf:Int}{l:List Kd}{w ht:Nat}{rows:List (List Int)}(hk:0≤kerf)(h:nD kerf l w ht rows):∀(m a b:Nat),a+b≤m→1≤a→a≤w→1≤b→b≤ht→V kerf (wsP l) l ((a:Int),(b:Int))≤Gv w ht rows a b:=by
 intro m
 induction m with
 |zero=>intro a b h1 h2;omega
 |succ m ih=>
  intro a b hm q1 q2 q3 q4
  obtain⟨o1,o2,o3⟩:=h.2.2.2 a b q1 q2 q3 q4
  have h0:∀x y,0≤Gv w ht rows x y:=fun x y=>by
   unfold Gv
   by_cases q:1≤x∧x≤w∧1≤y∧y≤ht
   ·rw[if_pos q];exact(h.2.2.1 x y q.1 q.2.1 q.2.2.1 q.2.2.2).1
   ·rw[if_neg q];exact Int.le_refl _
  rw[xJ hk q1 q3]
  refine oM (Gu (h0 a b) (qU.2 o1)) fun x hx=> ?_
  have hxc:=fy hx
  obtain⟨c,n⟩:=x
  dsimp only at hxc
  rcases hxc with⟨rfl,n1,n2⟩|⟨rfl,n1,n2⟩
  ·obtain⟨r,hr,hr2⟩:=mP ((a:Int)-n-kerf)
   have g:=o2 n n1 (by omega) r hr
   have g1:=ih n b (by omega) n1 (by omega) q3 q4
   show V kerf (wsP l) l ((n:Int),(b:Int))+V kerf (wsP l) l ((a:Int)-n-kerf,(b:Int))≤_
   by_cases hz:r=0
   ·subst hz
    rw[jk (x:=0) (.inl rfl)]at g
    rw[oy (p:=((a:Int)-n-kerf,(b:Int))) (fun q=>by have:=q.1;dsimp only at this;omega)]
    omega
   ·have g2:=ih r b (by omega) (by omega) (by omega) q3 q4
    rw[show(a:Int)-n-kerf=(r:Int)by omega]
    omega
  ·obtain⟨r,hr,hr2⟩:=mP ((b:Int)-n-kerf)
   have g:=o3 n n1 (by omega) r hr
   have g1:=ih a n (by omega) q1 q2 n1 (by omega)
   show V kerf (wsP l) l ((a:Int),(n:Int))+V kerf (wsP l) l ((a:Int),(b:Int)-n-kerf)≤_
   by_cases hz:r=0
   ·subst hz
    rw[jk (y:=0) (.inr rfl)]at g
    rw[oy (p:=((a:Int),(b:Int)-n-kerf)) (fun q=>by have:=q.2;dsimp only at this;omega)]
    omega
   ·have g2:=ih a r (by omega) q1 q2 (by omega) (by omega)
    rw[show(b:Int)-n-kerf=(r:Int)by omega]
    omega
theorem qP{kerf:Int}{l:List Kd}{w ht:Nat}{rows:List (List Int)}(hk:0≤kerf)(h:nD kerf l w ht rows){a b:Nat}(q1:1≤a)(q2:a≤w)(q3:1≤b)(q4:b≤ht):gD kerf l a b≤vAt rows a b:=by
 have:=Dl hk h (a+b) a b (Nat.le_refl _) q1 q2 q3 q4
 unfold Gv at this
 rw[if_pos ⟨q1,q2,q3,q4⟩]at this
 rw[mB hk (by omega) (by omega)]
 exact this
theorem Di{kerf:Int}{l:List Kd}{w ht:Int}{ns:List (Nat×Int)}(hc:chk kerf l=0)(hb:OnB w ht)(h:(fu kerf l (w,ht) ns).ok=true):(fu kerf l (w,ht) ns).bq≤gD kerf l w ht:=by
 have hk:=(dY.1 hc).2.1.1
 rw[mB hk hb.1.1 hb.2.1]
 unfold fu at h⊢
 split at h
 ·rename_i q
  rw[if_pos q]
  exact IX hc (p:=(w,ht)) hb.1 hb.2 q.1
 ·cases h
end Go.A.Pk
end
section
set_option maxRecDepth 100000
namespace Go.A.Pk
variable {T:Nat→Option ah}
structure FnsCV (T:Nat→Option ah):Prop extends FnsE T,FnsV T where
 f76:T 76=some f76
 f110:T 110=some f110
 f111:T 111=some f111
 f146:T 146=some f146
 f56:T 56=some f56
structure VI (kerf:Int) (l:List Kd) (rows:List (List Int)) (bs:List (Nat×Nat)) (mb lb:Nat) (h1:Heap) (L:bE) (done:List (Nat×Nat)) (H:Heap):Prop where
 old:∀z,z<lb→z≠mb→H.get z=h1.get z
 tab:H.get mb=some (.map (dI (eO rows done)))
 loop:H.get lb=some L
 nx:lb<H.next
 ok:Rok kerf l rows done
 mem:∀x∈done,x∈bs
set_option maxHeartbeats 32000000 in
theorem Ak(F:FnsCV T){h:Heap}(hr:Rdy h){a0:Option Addr}{n c:Nat}{l:List Kd}(hs:aA h 5 (.slice a0 n c) n (kcs l))(kerf:Int)(hn:n<1000000)(w ht:Int){v:Value}{rows:List (List Int)}(hv:dO h v rows)(hrl:rows.length<1000000)
 {ok:Bool}(hok:asked kerf l (OnB w ht)=0→(ok=true↔nD kerf l w.toNat ht.toNat rows))(hno:asked kerf l (OnB w ht)≠0→ok=false):
 Pu T 56 [.agg #[.slice a0 n c, .int .i64 kerf], .int .i64 w, .int .i64 ht,v] h (.tuple #[.bool ok, .int .i64 (asked kerf l (OnB w ht))]):=by
 obtain⟨va,vc,rfl⟩:=hv.form
 refine .of F.toFnsV.p F.f56 hr rfl ?_
 obtain rfl:n=l.length:=by have:=hs.len;rw[cP]at this;omega
 have hx:Ext h ((((((h.push (.cells [.slice a0 l.length c, .int .i64 kerf] true 1)).push (.cells [.int .i64 ht] true 1)).push (.cells [.slice va rows.length vc] true 1)).push (.cells [.bool false] true 1)).push (.cells [.int .i64 0] true 1)).push (.cells [.pointer none] true 1)):=((((((Ext.refl h).push _).push _).push _).push _).push _).push _
 refine y4 ?_;refine yB ?_;refine yB ?_;refine yB ?_;refine af cN ?_;refine af cN ?_;refine y3 ?_
 refine aq ?_;refine cG ?_;refine qN ?_
 refine qM ?_
 refine qL ?_
 refine jB rfl rfl rfl (by exact rfl) (by exact rfl) (by exact rfl) cN (by refine b8 (ay rfl (bt (by exact rfl) (by(simp(disch:=first|omega|(simp only[z1,z2];omega)|(simp only[z1,z2];done)|fail)only[z8,z4,z5,z9,z7,z1,z2, *];exact rfl)) (by exact rfl)) (by exact dL _ _)) ?_;refine b8 (ay rfl (iR (by exact rfl)) (by exact dL _ _)) ?_;refine b8 (ay rfl (cS (by exact rfl) (by(simp(disch:=first|omega|(simp only[z1,z2];omega))only[z3,z4,z5,z6,z7,z1,z2, *];exact rfl)) (by exact rfl) (by exact rfl)) (by exact eU (by refine bN (gC _ _ _) ?_;refine bN (dz _ _) ?_;exact eW))) ?_;exact jx) ?_
 refine qC ?_
 refine FW.puD (sK F.toFnsV.p F.f76 F.toFnsE.toFnsA.f77 (.of (hx.wf hr.wf)) w ht) (by apply aM rfl (oZ rfl) (by rfl);apply aa rfl;apply aa rfl;apply aM rfl (ay rfl (cS (by exact rfl) (by(simp(disch:=first|omega|(simp only[z1,z2];omega))only[z3,z4,z5,z6,z7,z1,z2, *];exact rfl)) (by exact rfl) (by exact rfl)) (by exact eU (by refine bN (gC _ _ _) ?_;refine bN (dz _ _) ?_;exact eW))) rfl;exact bT) ?_
 refine jB rfl rfl rfl (by exact rfl) (by exact rfl) (by exact rfl) (gE (by exact rfl) (by exact rfl)) (by refine b8 (oZ rfl) ?_;refine b8 (ay rfl (cS (by exact rfl) (by(simp(disch:=first|omega|(simp only[z1,z2];omega))only[z3,z4,z5,z6,z7,z1,z2, *];exact rfl)) (by exact rfl) (by exact rfl)) (by exact eU (by refine bN (gC _ _ _) ?_;refine bN (dz _ _) ?_;exact eW))) ?_;exact jx) ?_
 refine qC ?_
 have hx2:=hx.push (.cells [.bool (decide (OnB w ht))] true 1)
 refine FW.alD (sr F.toFnsE (.of (hx2.wf hr.wf)) ((hs.ext hx2).log []) kerf hn (bl:=[decide (OnB w ht)]) (m:=1) (.mem ⟨Nat.lt_succ_self _,⟨_,_,_,z3 _ _,rfl⟩,rfl⟩ (Nat.le_refl _)) (by omega)) (fun v h' m q=>lI.BH v h' m q) ?_
 rintro _ h1 hx3 ⟨p,rfl,hst⟩
 rw[fk]at hst
 rw[fk]
 refine⟨_,by apply aa rfl;apply aM rfl (oZ rfl) (by rfl);apply aa rfl;exact bT,?_⟩
 have w1:WF h1:=hx3.wf (hx2.wf hr.wf)
 have hx13:Ext h h1:=hx2.trans hx3
 have e4:h1.get h.next=some (.cells [.slice a0 l.length c, .int .i64 kerf] true 1):=by rw[hx3.old _ (by(simp only[z1,z2];omega))];(simp(disch:=first|omega|(simp only[z1,z2];omega))only[z3,z4,z5,z6,z7,z1,z2, *];exact rfl)
 have e6:h1.get (h.next+1)=some (.cells [.int .i64 ht] true 1):=by rw[hx3.old _ (by(simp only[z1,z2];omega))];(simp(disch:=first|omega|(simp only[z1,z2];omega)|(simp only[z1,z2];done)|fail)only[z8,z4,z5,z9,z7,z1,z2, *];exact rfl)
 have e7:h1.get (h.next+2)=some (.cells [.slice va rows.length vc] true 1):=by rw[hx3.old _ (by(simp only[z1,z2];omega))];(simp(disch:=first|omega|(simp only[z1,z2];omega)|(simp only[z1,z2];done)|fail)only[z8,z4,z5,z9,z7,z1,z2, *];exact rfl)
 have e8:h1.get (h.next+3)=some (.cells [.bool false] true 1):=by rw[hx3.old _ (by(simp only[z1,z2];omega))];(simp(disch:=first|omega|(simp only[z1,z2];omega)|(simp only[z1,z2];done)|fail)only[z8,z4,z5,z9,z7,z1,z2, *];done)
 have e9:h1.get (h.next+4)=some (.cells [.int .i64 0] true 1):=by rw[hx3.old _ (by(simp only[z1,z2];omega))];(simp(disch:=first|omega|(simp only[z1,z2];omega)|(simp only[z1,z2];done)|fail)only[z8,z4,z5,z9,z7,z1,z2, *];done)
 have e10:h1.get (h.next+5)=some (.cells [.pointer none] true 1):=by rw[hx3.old _ (by(simp only[z1,z2];omega))];(simp(disch:=first|omega|(simp only[z1,z2];omega)|(simp only[z1,z2];done)|fail)only[z8,z4,z5,z9,z7,z1,z2, *];done)
 have eN:h.next+7≤h1.next:=hx3.next
 have hlog1:h1.log=[]:=hx13.log.trans hr.log
 clear hx hx2 hx3
 by_cases ha:asked kerf l (OnB w ht)=0
 ·obtain⟨wv,rfl,gb,hwb⟩:=hst ha
  replace gb:h1.get (h.next+8)=_:=gb
  replace hwb:qQ (h.next+9) h1 wv (wsP l):=hwb
  clear hst
  have hok:=hok ha
  obtain⟨hc,hb⟩:=jc ha
  obtain⟨q1,q2,q3,q4⟩:=dY.1 hc
  obtain⟨⟨v1,v2⟩,v3,v4⟩:=hb
  obtain⟨w,rfl⟩:=Int.eq_ofNat_of_zero_le (show 0≤w by omega)
  obtain⟨ht,rfl⟩:=Int.eq_ofNat_of_zero_le (show 0≤ht by omega)
  rw[Int.toNat_natCast,Int.toNat_natCast]at hok
  have kb:=WF.aT w1 gb
  rw[ha]
  clear hno ha
  by_cases hlw:rows.length=w
  ·subst hlw
   refine qM ?_;refine qE ?_;refine qE ?_
   refine ir rfl rfl rfl (by exact rfl) (by exact rfl) (by exact rfl) (by assumption) (by exact rfl) (by exact rfl) (by(simp only[z1,z2];omega)) (by(simp only[z1,z2];omega)) (by apply aM rfl (ay rfl (je (by exact rfl) (by exact rfl)) (by exact dL _ _)) rfl;apply aa rfl;apply aa rfl;apply aa rfl;exact bT) ?_
   refine qM ?_;refine cF ?_;refine y1 ?_;refine aP ?_;refine aq ?_;refine y4 ?_;refine yM ?_
   refine yf ?_;refine y3 ?_;refine yX ?_;refine aB ?_;refine aP ?_;refine aq ?_;refine y4 ?_
   refine yL ?_;refine yD ?_;refine yM ?_
   refine yf ?_;refine yM ?_;refine yO ?_
   refine yL ?_;refine yO ?_;refine af (j6 (by exact rfl) (by exact rfl)) ?_
   refine yO ?_
   refine WO.gen ?_
   intro hA hAe
   have A0:∀z,z≠h.next+5→hA.get z=h1.get z:=fun z hz=>by rw[hAe];exact z5 hz
   have A10:hA.get (h.next+5)=some (.cells [.pointer (some ⟨h.next+8,0,none⟩)] true 1):=by rw[hAe];exact Heap.cr e10
   have A5:hA.next=h1.next:=by rw[hAe];rfl
   have A6:hA.log=[]:=by rw[hAe];exact(Heap.aI (show h.next≤h.next+5 by omega)).trans hlog1
   have A7:WF hA:=by rw[hAe];exact w1.as (AS.wr _ _ _ _)
   have Aold:∀z,z<h.next→hA.get z=h.get z:=fun z hz=>(A0 z (by omega)).trans (hx13.old z hz)
   have a6:=(A0 _ (by omega)).trans e6
   have a7:=(A0 _ (by omega)).trans e7
   have a8:=(A0 _ (by omega)).trans e8
   have a9:=(A0 _ (by omega)).trans e9
   have ab:=(A0 (h.next+8) (by omega)).trans gb
   have hvA:dO hA (.slice va rows.length vc) rows:=hv.agree (by rw[A5];exact hx13.next) fun b _ _ _ hb _=>Aold b hb
   have hsA:aA hA 5 (.slice a0 l.length c) l.length (kcs l):=aA.agree hs (by rw[A5];exact hx13.next) fun b _ _ _ hb _=>Aold b hb
   have hwA:qQ (h.next+9) hA wv (wsP l):=hwb.keep (by omega) fun z hz _=>A0 z (by omega)
   obtain⟨wa,wc,rfl,hwS⟩:=hwA.slice (by simp[wsP];omega)
   have hlw3:(wsP l).length=l.length:=by simp[wsP]
   rw[hlw3]at hwS ab
   obtain⟨bad,CB,hbad⟩:=vJ F.toFnsV.p F.f110 F.f146 F.f111 (h:={hA with log:=[]}) (.of A7) (q:=h.next+1) (ht:=(ht:Int)) (hvA.log []) hrl a6
   clear e4 e6 e7 e8 e9 e10 hAe hwb hwA hs hv A0 Aold
   cases bad with
   |true=>
    have hno:ok=false:=oD hok fun q=>by
     obtain⟨r,hr1,hr2⟩:=hbad.1 rfl
     have:=q.2.1 r hr1
     omega
    rw[hno]
    skip
    refine yC ?_
    refine FW.pu CB ?_
    refine yU ?_;refine y3 ?_;refine yY ?_;refine y4 ?_;refine yS ?_
    refine yS ?_;refine y3 ?_;refine aH ?_;refine ej ?_
    exact aF (by simp(disch:=first|omega|(simp only[z1,z2];omega))only[Heap.aI,Heap.cM];assumption) (ef (b:=h.next+3) rfl (by(simp(disch:=first|omega|(simp only[z1,z2];omega))only[z3,z4,z5,z6,z7,z1,z2, *];exact rfl)) rfl (ef (b:=h.next+4) rfl (by(simp(disch:=first|omega|(simp only[z1,z2];omega))only[z3,z4,z5,z6,z7,z1,z2, *];exact rfl)) rfl fP)) rfl
   |false=>
    have hlen:∀r∈rows,r.length=ht:=fun r hr=>by
     by_cases q:(r.length:Int)≠ht
     ·exact absurd (hbad.2 ⟨r,hr,q⟩) (by simp)
     ·omega
    skip
    refine yC ?_
    refine FW.pu CB ?_
    refine yU ?_;refine y3 ?_;refine yX ?_;refine aB ?_;refine aP ?_;refine y4 ?_
    refine af zX ?_
    refine af cN ?_;refine yS ?_
    refine y3 ?_;refine aq ?_;refine y4 ?_;refine yM ?_
    refine yL ?_
    refine WO.gen ?_
    intro hB hBe
    have B0:∀z,z<hA.next→hB.get z=hA.get z:=fun z hz=>by rw[hBe];simp(disch:=first|omega|(simp only[z1,z2];omega))only[z5,z4]
    have B3:hB.get hA.next=some (.map []):=by rw[hBe];(simp(disch:=first|omega|(simp only[z1,z2];omega)|(simp only[z1,z2];done)|fail)only[z8,z4,z5,z9,z7,z1,z2, *];done)
    have B4:hB.get (hA.next+1)=some (.cells [.map (some hA.next)] true 1):=by rw[hBe];(simp(disch:=first|omega|(simp only[z1,z2];omega)|(simp only[z1,z2];done)|fail)only[z8,z4,z5,z9,z7,z1,z2, *];exact rfl)
    have B5:hB.next=hA.next+2:=by rw[hBe];rfl
    have B6:hB.log=[]:=by rw[hBe];simp(disch:=first|omega|(simp only[z1,z2];omega))only[Heap.aI,Heap.cM];assumption
    have B7:WF hB:=by rw[hBe];exact((A7.push _).push _).as (AS.wr _ _ _ _)
    have b6:=(B0 _ (by omega)).trans a6
    clear hBe CB
    refine yC ?_
    refine FW.al (se F.toFnsV.p F.toFnsV.f94 (.of B7) (rows.length:Int) (ht:Int)) (fun _ _ _ q=>q) ?_
    rintro _ h2 hx2 ⟨rfl,hn2,gp,gx⟩
    have eB:({hB with log:=[]}:Heap).next=hA.next+2:=B5
    rw[eB]at hn2 gp gx
    rw[eB]
    have hn2':h2.next=hA.next+4:=hn2
    have C0:∀z,z<hA.next→h2.get z=hA.get z:=fun z hz=>(hx2.old z (by omega)).trans (B0 z hz)
    have C3:=(hx2.old _ (by omega)).trans B3
    have C4:=(hx2.old _ (by omega)).trans B4
    have C6:h2.log=[]:=hx2.log.trans B6
    have C7:WF h2:=hx2.wf B7
    have c7:=(C0 _ (by omega)).trans a7
    have c8:=(C0 _ (by omega)).trans a8
    have c9:=(C0 _ (by omega)).trans a9
    have c10:=(C0 _ (by omega)).trans A10
    have cb:=(C0 _ (by omega)).trans ab
    have cv:dO h2 (.slice va rows.length vc) rows:=hvA.agree (by omega) fun b _ _ _ hb _=>C0 b (by omega)
    have cs:aA h2 5 (.slice a0 l.length c) l.length (kcs l):=aA.agree hsA (by omega) fun b _ _ _ hb _=>C0 b (by omega)
    have cw:aA h2 1 (.slice wa l.length wc) l.length (ints (wsP l)):=aA.agree hwS (by omega) fun b _ _ _ hb _=>C0 b (by omega)
    clear hx2 B3 B4 B6 B7 b6 B0 hvA hsA hwS
    refine y3 ?_;refine aC ?_
    refine pP (lo:=h.next) (g:=136) (P:=VI kerf l rows (aU rows.length ht) hA.next h2.next h2 (.loop [(7, .pointer (some ⟨h.next+2,0,none⟩)),(8, .pointer (some ⟨h.next+3,0,none⟩)),(9, .pointer (some ⟨h.next+4,0,none⟩)),(10, .pointer (some ⟨h.next+5,0,none⟩)),(12, .pointer (some ⟨hA.next+1,0,none⟩)),(43,fn2 136 (hA.next+2) (hA.next+3))] [44] ql mh 0 .normal) (aU rows.length ht))
     (S:=fun H=>H.get h2.next=some (.loop [(7, .pointer (some ⟨h.next+2,0,none⟩)),(8, .pointer (some ⟨h.next+3,0,none⟩)),(9, .pointer (some ⟨h.next+4,0,none⟩)),(10, .pointer (some ⟨h.next+5,0,none⟩)),(12, .pointer (some ⟨hA.next+1,0,none⟩)),(43,fn2 136 (hA.next+2) (hA.next+3))] [44] ql mh 2 .ret)∧H.get (h.next+3)=some (.cells [.bool false] true 1)∧H.get (h.next+4)=some (.cells [.int .i64 0] true 1)∧¬nD kerf l rows.length ht rows)
     (by rfl) (by rfl) (by rw[F.toFnsV.f136];rfl) (Nat.le_refl _) (by omega) C6 C7 ?_ (fun H q=>⟨_,_,_,_,q.loop⟩) (fun H q=>⟨_,_,_,_,q.1⟩) ?_ ?_
    ·refine xR F.toFnsV.p F.toFnsV.f136 (.of (C7.push _)) (bw:=hA.next+2) (bh:=hA.next+3) (l:=h2.next) (N:=h2.next+1) (lo:=h.next) (w:=rows.length) (ht:=ht)
      (P:=VI kerf l rows (aU rows.length ht) hA.next h2.next h2 (.loop [(7, .pointer (some ⟨h.next+2,0,none⟩)),(8, .pointer (some ⟨h.next+3,0,none⟩)),(9, .pointer (some ⟨h.next+4,0,none⟩)),(10, .pointer (some ⟨h.next+5,0,none⟩)),(12, .pointer (some ⟨hA.next+1,0,none⟩)),(43,fn2 136 (hA.next+2) (hA.next+3))] [44] ql mh 0 .normal))
      (Nat.le_refl _) (by show h.next≤h2.next+1;omega) (by omega) (by omega) (Nat.lt_succ_self _)
      ⟨fun done x H hxm hr' hN hP=> ?_,fun done H H' q hN' ha=>⟨fun z hz hne=>(ha z (by omega)).trans (q.old z hz hne),(ha _ (by omega)).trans q.tab,(ha _ (Nat.lt_succ_self _)).trans q.loop,by omega,q.ok,q.mem⟩,fun H m q=>q,fun H q=>⟨_,_,_,_,q.1⟩⟩
      (fun d H q=>(q.old _ (by omega) (by omega)).trans gp) (fun d H q=>(q.old _ (by omega) (by omega)).trans gx) ⟨fun z hz _=>z4 hz,(z4 (by omega)).trans C3,z3 _ _,Nat.lt_succ_self _,Gx _ _ _,fun x hx=>by cases hx⟩
     obtain⟨i,j⟩:=x
     have hbx:=fW hxm
     dsimp only at hbx
     obtain⟨i,rfl⟩:∃c,i=c+1:=⟨i-1,by omega⟩
     obtain⟨j,rfl⟩:∃c,j=c+1:=⟨j-1,by omega⟩
     obtain⟨r0,hri⟩:∃r,rows[i]? =some r:=⟨rows[i]'(by omega),List.getElem?_eq_getElem (by omega)⟩
     have hr0:=hlen r0 (List.mem_of_getElem? hri)
     obtain⟨v0,hrj⟩:∃r,r0[j]? =some r:=⟨r0[j]'(by omega),List.getElem?_eq_getElem (by omega)⟩
     have hv0:vAt rows (i+1) (j+1)=v0:=by
      unfold vAt
      rw[Nat.add_sub_cancel,Nat.add_sub_cancel,show rows.getD i []=r0 by rw[List.getD_eq_getElem?_getD,hri];rfl,List.getD_eq_getElem?_getD,hrj]
      rfl
     have hdn:∀x∈done,1≤x.1∧1≤x.2:=fun x hx=>by have:=fW (hP.mem x hx);omega
     have hO:∀z,z<h2.next→z≠hA.next→H.get z=h2.get z:=hP.old
     have hnx:=hP.nx
     refine FW.mono' (FW.pM F.toFnsV.p (u7 F.toFnsV F.toFnsE.toFnsA.f77 hr' (lo:=h.next) (N:=h2.next+1) (p7:=h.next+2) (p8:=h.next+3) (p9:=h.next+4) (p10:=h.next+5) (p12:=hA.next+1) (mb:=hA.next) (bb:=h.next+8) (n:=l.length) (kerf:=kerf) (ws:=wsP l) (kl:=l) (t:=eO rows done) (v0:=v0) (i:=i) (j:=j) (by omega) (by omega) (by omega) (by omega)
      (fun x hx=>by
        obtain⟨e1,e2⟩:=jK (kerf:=kerf) (by omega) hx (eO rows done) v0
        rw[e1,e2]
        have i1:=Ad hP.ok hdn (cg x (i+1) (j+1))
        have i2:=Ad hP.ok hdn (cm kerf x (i+1) (j+1))
        unfold inV at i1 i2
        omega) hP.loop ((hO _ (by omega) (by omega)).trans c7) ((hO _ (by omega) (by omega)).trans c8) ((hO _ (by omega) (by omega)).trans c9) ((hO _ (by omega) (by omega)).trans c10) ((hO _ (by omega) (by omega)).trans C4) hP.tab ((hO _ (by omega) (by omega)).trans cb)
      (aA.agree cs (by omega) fun b _ _ _ hb he=>hO b hb (fun q=>by rw[q,C3]at he;cases he)) (aA.agree cw (by omega) fun b _ _ _ hb he=>hO b hb (fun q=>by rw[q,C3]at he;cases he)) (cv.agree (by omega) fun b _ _ _ hb he=>hO b hb (fun q=>by rw[q,C3]at he;cases he)) hri hrj ⟨hrl,by omega⟩ (by omega) ⟨by omega,by omega,by omega,by omega⟩ ⟨by omega,by omega,by omega,by omega⟩) hr'.log) ?_
     rintro r H' ⟨hAS,k1,k2⟩
     refine⟨k1,k2.imp ?_ ?_⟩
     ·rintro⟨rfl,z3,z4,z5,z6⟩
      refine⟨rfl,fun z hz hne=>(z3 z (by omega) hne).trans (hO z hz hne),by rw[xQ];dsimp only;rw[hv0];exact z4,(z3 _ hnx (by omega)).trans hP.loop,by omega,FN hP.ok (by dsimp only;rw[hv0];exact z6),fun y hy=> ?_⟩
      rcases List.mem_append.1 hy with hy|hy
      ·exact hP.mem y hy
      ·rw[List.mem_singleton.1 hy];exact hxm
     ·rintro⟨rfl,z3,z4,z5,z6,z7⟩
      refine⟨rfl,z3,z4,z5,z6,fun q=> ?_⟩
      have:=Cb (by omega) q hP.mem hxm
      dsimp only at this
      rw[hv0,z7]at this
      cases this
    ·intro h3 h4 d1 d2 d3 d4 d5 hP
     have hok1:ok=true:=hok.2 (Bn (by omega) rfl hlen hP.ok)
     have f8:=((d5 _ (by omega)).trans (hP.old _ (by omega) (by omega))).trans c8
     have f9:=((d5 _ (by omega)).trans (hP.old _ (by omega) (by omega))).trans c9
     rw[hok1]
     clear C0 d5 hP hok hok1
     refine cZ ?_;refine aP ?_;refine y4 ?_;refine yS ?_
     refine yS ?_;refine y3 ?_;refine aH ?_
     exact aF (by simp(disch:=first|omega|(simp only[z1,z2];omega))only[Heap.aI,Heap.cM];assumption) (ef (b:=h.next+3) rfl (by(simp(disch:=first|omega|(simp only[z1,z2];omega))only[z3,z4,z5,z6,z7,z1,z2, *];exact rfl)) rfl (ef (b:=h.next+4) rfl (by(simp(disch:=first|omega|(simp only[z1,z2];omega))only[z3,z4,z5,z6,z7,z1,z2, *];exact rfl)) rfl fP)) rfl
    ·intro h3 h4 d1 d2 d3 d4 d5 ⟨u1,u2,u3,u4⟩
     have hok1:ok=false:=oD hok u4
     have f8:=(d5 _ (by omega)).trans u2
     have f9:=(d5 _ (by omega)).trans u3
     rw[hok1]
     refine iD ?_;refine ej ?_
     exact aF d1 (ef (b:=h.next+3) rfl f8 rfl (ef (b:=h.next+4) rfl f9 rfl fP)) rfl
  ·have hno:ok=false:=oD hok fun q=>hlw q.1
   rw[hno]
   have hlw2:((rows.length:Nat):Int)≠w:=by omega
   refine qM ?_;refine qE ?_;refine qE ?_
   refine ir rfl rfl rfl (by exact rfl) (by exact rfl) (by exact rfl) (by assumption) (by exact rfl) (by exact rfl) (by(simp only[z1,z2];omega)) (by(simp only[z1,z2];omega)) (by apply aM rfl (ay rfl (je (by exact rfl) (by exact rfl)) (by exact dL _ _)) rfl;apply aa rfl;apply aa rfl;apply aa rfl;exact bT) ?_
   refine qM ?_;refine cF ?_;refine y1 ?_;refine aP ?_;refine aq ?_;refine y4 ?_;refine yM ?_
   refine yf ?_;refine y3 ?_;refine yX ?_;refine aB ?_;refine aP ?_;refine aq ?_;refine y4 ?_
   refine yL ?_;refine yD ?_;refine yM ?_
   refine yt ?_;refine yM ?_;refine yP ?_;refine yP ?_;refine yP ?_;refine yT ?_;refine y3 ?_;refine yY ?_;refine y4 ?_
   refine yS ?_
   refine yS ?_;refine y3 ?_;refine aH ?_;refine ej ?_
   exact aF (by simp(disch:=first|omega|(simp only[z1,z2];omega))only[Heap.aI,Heap.cM];assumption) (ef (b:=h.next+3) rfl (by(simp(disch:=first|omega|(simp only[z1,z2];omega))only[z3,z4,z5,z6,z7,z1,z2, *];exact rfl)) rfl (ef (b:=h.next+4) rfl (by(simp(disch:=first|omega|(simp only[z1,z2];omega))only[z3,z4,z5,z6,z7,z1,z2, *];exact rfl)) rfl fP)) rfl
 ·rw[hno ha]
  generalize asked kerf l (OnB w ht)=er at*
  refine qM ?_;refine qE ?_;refine qE ?_
  refine ir rfl rfl rfl (by exact rfl) (by exact rfl) (by exact rfl) (by assumption) (by exact rfl) (by exact rfl) (by(simp only[z1,z2];omega)) (by(simp only[z1,z2];omega)) (by apply aM rfl (ay rfl (je (by exact rfl) (by exact rfl)) (by exact dL _ _)) rfl;apply aa rfl;apply aa rfl;apply aa rfl;exact bT) ?_
  refine qM ?_;refine cF ?_;refine y1 ?_;refine aP ?_;refine aq ?_;refine y4 ?_;refine yM ?_
  refine yt ?_;refine y3 ?_;refine yY ?_;refine y4 ?_;refine yM ?_
  refine yS ?_
  refine yS ?_;refine y3 ?_;refine aH ?_;refine ej ?_
  exact aF (by simp(disch:=first|omega|(simp only[z1,z2];omega))only[Heap.aI,Heap.cM];assumption) (ef (b:=h.next+3) rfl (by(simp(disch:=first|omega|(simp only[z1,z2];omega))only[z3,z4,z5,z6,z7,z1,z2, *];exact rfl)) rfl (ef (b:=h.next+4) rfl (by(simp(disch:=first|omega|(simp only[z1,z2];omega))only[z3,z4,z5,z6,z7,z1,z2, *];exact rfl)) rfl fP)) rfl
end Go.A.Pk
end
section
set_option maxRecDepth 100000
namespace Go.A.Pk
variable {T:Nat→Option ah}
structure u0 (H:Heap) (v:Value) (w ht:Nat) (f:Nat→Nat→Int):Prop where
 ex:∃b o c vs own t,v= .slice (some ⟨b,o,none⟩) w c∧H.get b=some (.cells vs own t)∧∀i,i<w→∃b2 o2 xc vs2 own2 t2,bG vs (o+i*1)=some (.slice (some ⟨b2,o2,none⟩) ht xc)∧H.get b2=some (.cells vs2 own2 t2)∧∀j,j<ht→bG vs2 (o2+j*1)=some (.int .i64 (f i j))
theorem dO.GG{H:Heap}{v:Value}{rows:List (List Int)}{w ht:Nat}(s:dO H v rows)(hw:rows.length=w)(hh:∀r∈rows,r.length=ht)(h1:1≤w)(h2:1≤ht):u0 H v w ht fun i j=>vAt rows (i+1) (j+1):=by
 obtain⟨a,c,rfl⟩:=s.form
 subst hw
 obtain⟨r0,hr0⟩:∃r,rows[0]? =some r:=⟨rows[0],List.getElem?_eq_getElem h1⟩
 obtain⟨b,o,vs,own,t,_,_,rfl,g1,_,_,_⟩:=s.elem hr0
 refine⟨b,o,c,vs,own,t,rfl,g1,fun i hi=> ?_⟩
 obtain⟨r,hr⟩:∃r,rows[i]? =some r:=⟨rows[i],List.getElem?_eq_getElem hi⟩
 obtain⟨b',o',vs',own',t',xa,xc,e,g2,_,f1,s1⟩:=s.elem hr
 cases e
 rw[g1]at g2
 cases g2
 have hl:=hh r (List.mem_of_getElem? hr)
 have s2:=s1 (by intro q;rw[q]at hl;simp at hl;omega)
 rcases s2.inv with⟨_,_,h0,_⟩|⟨b2,o2,cap2,hv2,s3,hcap2⟩
 ·omega
 cases hv2
 obtain⟨vs2,own2,t2,g3,f3⟩:=s3.obj
 refine⟨b2,o2,xc,vs2,own2,t2,by rw[←hl];exact f1,g3,fun j hj=> ?_⟩
 obtain⟨z,hz⟩:∃z,r[j]? =some z:=⟨r[j]'(by omega),List.getElem?_eq_getElem (by omega)⟩
 have hzi:(ints r)[j]? =some (.int .i64 z):=by simp[ints,hz]
 obtain⟨vs3,own3,t3,g4,f4⟩:=ff s3 hzi
 rw[g3]at g4
 cases g4
 have hvz:vAt rows (i+1) (j+1)=z:=by
  unfold vAt
  rw[Nat.add_sub_cancel,Nat.add_sub_cancel,show rows.getD i []=r by rw[List.getD_eq_getElem?_getD,hr];rfl,List.getD_eq_getElem?_getD,hz]
  rfl
 rw[hvz]
 exact f4
def It:aJ:=tl1 (tl1 (tl1 (tl1 (tl1 (tl1 (tl1 (tl1 (tl1 (tl1 (tl1 (tl1 (tl1 (cd f13)))))))))))))
set_option maxHeartbeats 16000000 in
theorem BN(hp:bC T)(c19:∀{h:Heap},Rdy h→Pu T 19 [] h (.bool true)){base:Nat}{H:Heap}(hw:WF H)(hlog:H.log=[]){w ht:Nat}(w1:1≤w∧w≤16)(h1:1≤ht∧ht≤16){v4 v15:Value}{f g:Nat→Nat→Int}(G4:u0 H v4 w ht f)(G15:u0 H v15 w ht g)(hfg:∀i j,i<w→j<ht→g i j≤f i j){m:Int}{is:Bool}(hm:is=true→m≤f (w-1) (ht-1)):
 WE T base none It (Jt [(10,none)] (.bool true)) [(1, .int .i64 w),(2, .int .i64 ht),(4,v4),(15,v15),(17, .int .i64 m),(18, .bool is),(188, .bool false)] [] H:=by
 obtain⟨b4,o4,c4,vs4,own4,t4,rfl,g4,e4⟩:=G4.ex
 obtain⟨b5,o5,c5,vs5,own5,t5,rfl,g5,e5⟩:=G15.ex
 have C19:=c19 (h:={H with log:=[]}) (.of hw)
 unfold It
 refine aq ?_;refine y4 ?_;refine yM ?_;refine y3 ?_;refine aC ?_
 refine dP (fun k e ds h'=>∃i:Nat,i≤w∧k=w-i∧e=[(1, .int .i64 w),(2, .int .i64 ht),(4, .slice (some ⟨b4,o4,none⟩) w c4),(15, .slice (some ⟨b5,o5,none⟩) w c5),(17, .int .i64 m),(18, .bool is),(27, .int .i64 i)]∧ds=[]∧H=h')
  ⟨0,Nat.zero_le _,rfl,rfl,rfl,rfl⟩ ?_
 rintro k e ds _ ⟨i,hi,rfl,rfl,rfl,rfl⟩
 by_cases hlt:i<w
 ·obtain⟨b6,o6,c6,vs6,own6,t6,f4,g6,e6⟩:=e4 i hlt
  obtain⟨b7,o7,c7,vs7,own7,t7,f5,g7,e7⟩:=e5 i hlt
  refine aq ?_;refine y4 ?_;refine yM ?_;refine yM ?_;refine yt ?_;refine y3 ?_;refine yY ?_
  refine aB ?_;refine aP ?_;refine aq ?_;refine aC ?_;refine y4 ?_;refine yM ?_;refine y3 ?_;refine aC ?_
  refine dP (fun k e ds h'=>∃j:Nat,j≤ht∧k=ht-j∧e=[(1, .int .i64 w),(2, .int .i64 ht),(4, .slice (some ⟨b4,o4,none⟩) w c4),(15, .slice (some ⟨b5,o5,none⟩) w c5),(17, .int .i64 m),(18, .bool is),(27, .int .i64 i),(28, .int .i64 j)]∧ds=[]∧H=h')
   ⟨0,Nat.zero_le _,rfl,rfl,rfl,rfl⟩ ?_
  rintro k e ds _ ⟨j,hj,rfl,rfl,rfl,rfl⟩
  by_cases hltj:j<ht
  ·have f6:=e6 j hltj
   have f7:=e7 j hltj
   have hle:=hfg i j hlt hltj
   generalize f i j=x at*
   generalize g i j=y at*
   refine aq ?_;refine y4 ?_;refine yM ?_;refine yM ?_;refine yt ?_;refine y3 ?_;refine yY ?_
   refine aB ?_;refine aP ?_;refine aq ?_;refine aC ?_;refine aq ?_;refine cG ?_;refine qM ?_;refine qM ?_
   refine ak rfl rfl rfl (by exact rfl) (by exact rfl) (by exact rfl) (aN (by exact rfl) (by exact rfl) (by omega)) ?_;refine ak rfl rfl rfl (by exact rfl) (by exact rfl) (by exact rfl) (bt (by exact rfl) (by assumption) (by assumption)) ?_;refine qM ?_
   refine ak rfl rfl rfl (by exact rfl) (by exact rfl) (by exact rfl) (aN (by exact rfl) (by exact rfl) (by omega)) ?_;refine ak rfl rfl rfl (by exact rfl) (by exact rfl) (by exact rfl) (bt (by exact rfl) (by assumption) (by assumption)) ?_;refine qM ?_
   refine qM ?_;refine ak rfl rfl rfl (by exact rfl) (by exact rfl) (by exact rfl) (aN (by exact rfl) (by exact rfl) (by omega)) ?_;refine ak rfl rfl rfl (by exact rfl) (by exact rfl) (by exact rfl) (bt (by exact rfl) (by assumption) (by assumption)) ?_
   refine qM ?_;refine ak rfl rfl rfl (by exact rfl) (by exact rfl) (by exact rfl) (aN (by exact rfl) (by exact rfl) (by omega)) ?_;refine ak rfl rfl rfl (by exact rfl) (by exact rfl) (by exact rfl) (bt (by exact rfl) (by assumption) (by assumption)) ?_
   refine ak rfl rfl rfl (by exact rfl) (by exact rfl) (by exact rfl) (cE (by exact rfl) (by exact rfl) (by exact Dp (by omega))) ?_;refine cF ?_;refine y1 ?_;refine aP ?_;refine yX ?_;refine aB ?_;refine cZ ?_;refine aP ?_;refine aD ?_
   refine yM ?_;refine fV ?_;refine yM ?_;refine y3 ?_
   exact⟨ht-(j+1),by omega,j+1,by omega,rfl,rfl,rfl,rfl⟩
  ·obtain rfl:j=ht:=by omega
   refine aq ?_;refine y4 ?_;refine yM ?_;refine yM ?_;refine yf ?_;refine y3 ?_;refine yX ?_
   refine cY ?_;refine dQ ?_;refine dQ ?_;refine iW ?_;refine cZ ?_;refine aP ?_;refine aD ?_;refine yM ?_;refine fV ?_;refine yM ?_;refine y3 ?_
   exact⟨w-(i+1),by omega,i+1,by omega,rfl,rfl,rfl,rfl⟩
 ·obtain rfl:i=w:=by omega
  obtain⟨i,rfl⟩:∃c,i=c+1:=⟨i-1,by omega⟩
  obtain⟨ht,rfl⟩:∃c,ht=c+1:=⟨ht-1,by omega⟩
  rw[Nat.add_sub_cancel,Nat.add_sub_cancel]at hm
  obtain⟨b6,o6,c6,vs6,own6,t6,f4,g6,e6⟩:=e4 i (by omega)
  have f6:=e6 ht (by omega)
  have hsub:cV .sub (.int .i64 ((i+1:Nat):Int)) (.int .i64 1)=some (.int .i64 ((i:Nat):Int)):=iX (by rw[bY]<;>omega)
  have hsub2:cV .sub (.int .i64 ((ht+1:Nat):Int)) (.int .i64 1)=some (.int .i64 ((ht:Nat):Int)):=iX (by rw[bY]<;>omega)
  generalize f i ht=x at*
  cases is with
  |true=>
   have hm:=hm rfl
   refine aq ?_;refine y4 ?_;refine yM ?_;refine yM ?_;refine yf ?_;refine y3 ?_;refine yX ?_
   refine cY ?_;refine dQ ?_;refine dQ ?_;refine iW ?_;refine aP ?_;refine y4 ?_
   refine yC ?_
   refine FW.pu C19 ?_
   refine yM ?_;refine yO ?_;refine yM ?_;refine yO ?_;refine yA ?_;refine yO ?_;refine yM ?_;refine yO ?_;refine yM ?_;refine yO ?_
   refine yM ?_;refine yO ?_;refine yM ?_;refine yO ?_;refine af (cE (by exact rfl) (by exact rfl) (by with_reducible assumption)) ?_;refine yO ?_;refine af (aN (by exact rfl) (by exact rfl) (by omega)) ?_;refine yO ?_
   refine af (bt (by exact rfl) (by assumption) (by assumption)) ?_;refine yO ?_;refine yM ?_;refine yO ?_;refine af (cE (by exact rfl) (by exact rfl) (by with_reducible assumption)) ?_;refine yO ?_;refine af (aN (by exact rfl) (by exact rfl) (by omega)) ?_;refine yO ?_
   refine af (bt (by exact rfl) (by assumption) (by assumption)) ?_;refine yO ?_;refine yt ?_;refine yO ?_;refine yU ?_;refine yT ?_;refine yM ?_;refine y3 ?_;refine aH ?_
   exact aF hlog rfl rfl
  |false=>
   clear hm
   refine aq ?_;refine y4 ?_;refine yM ?_;refine yM ?_;refine yf ?_;refine y3 ?_;refine yX ?_
   refine cY ?_;refine dQ ?_;refine dQ ?_;refine iW ?_;refine aP ?_;refine y4 ?_
   refine yC ?_
   refine FW.pu C19 ?_
   refine yM ?_;refine yO ?_;refine yM ?_;refine yO ?_;refine yA ?_;refine yO ?_;refine yM ?_;refine yP ?_;refine yP ?_;refine yP ?_
   refine yP ?_;refine yP ?_;refine yP ?_;refine yP ?_;refine yP ?_;refine yP ?_;refine yP ?_;refine yP ?_
   refine yO ?_;refine yT ?_;refine yT ?_;refine yM ?_;refine y3 ?_;refine aH ?_
   exact aF hlog rfl rfl
end Go.A.Pk
end
section
set_option maxRecDepth 100000
namespace Go.A.Pk
variable {T:Nat→Option ah}
set_option maxHeartbeats 16000000 in
theorem xb{lo bb n0:Nat}{h0 h:Heap}{p:Int×Int}{x:Nat×Int}{ns:List (Nat×Int)}{dep wo wst de:Int}{us:List Int}(S:Stg lo bb n0 h0 h p x ns wo wst de us){Q:XQ}
 (H:∀h',Stg lo bb n0 h0 h' p x ns wo wst (mx de dep) us→WE T n0 none xU Q (uK lo n0 dep) [] h'):WE T n0 none HH Q (uK lo n0 dep) [] h:=by
 have S':=S.pz wo wst (mx de dep)
 have q6:=S.st.out
 have q9:=S.lo8
 have q8:=S.nx
 clear S
 unfold HH uK
 refine y4 ?_
 refine yF ?_
 refine af (bt (by exact rfl) q6 (by exact rfl)) ?_
 refine yM ?_
 refine af (Ar (by exact rfl) (by exact rfl)) ?_
 refine yF ?_
 refine af (jF (by exact rfl) (by exact rfl) q6 (by exact rfl) (by exact rfl)) ?_
 refine y3 ?_
 exact H _ S'
set_option maxHeartbeats 16000000 in
theorem vX{kerf:Int}{l:List Kd}(hc:chk kerf l=0){lo bb c wc n0:Nat}{sa wa:Option Addr}{h0 h:Heap}(hlo:h0.next=lo)(hben:h0.get bb=some (.cells [.slice sa l.length c, .int .i64 kerf, .slice wa l.length wc] true 1))(hbb:bb<lo)
 (hws:aA h0 1 (.slice wa l.length wc) l.length (ints (wsP l))){p:Int×Int}{x:Nat×Int}{ns:List (Nat×Int)}{dep wo wst de:Int}{us:List Int}(h1:1≤p.1∧p.1≤16)(h2:1≤p.2∧p.2≤16){i:Nat}{k:Kd}(hx1:x.1=1∨x.1=2)(hx2:x.2=i)(hkl:l[i]? =some k)(hul:us.length=l.length)
 (hwo:0≤wo∧wo≤1000000000000)(hwst: -1000000000≤wst∧wst≤1000000000)(hus:∀u∈us,0≤u∧u≤1000000)(S:Stg lo bb n0 h0 h p x ns wo wst de us){Q:XQ}
 (H:∀h',Stg lo bb n0 h0 h' p x ns (wo+k.bq) (wst-p.1*p.2) de (us.set i (us.getD i 0+1))→Q .normal [] [] h'):WE T n0 none xU Q (uK lo n0 dep) [] h:=by
 have hi:i<l.length:=(List.getElem?_eq_some_iff.1 hkl).1
 have hkr:=(dY.1 hc).2.2.1 k (List.mem_of_getElem? hkl)
 have hkw:0≤k.bq∧k.bq≤1000000:=hkr.2.2.2
 have hiu:i<us.length:=by omega
 have hu1:0≤us.getD i 0∧us.getD i 0≤1000000:=by
  rw[List.getD_eq_getElem?_getD,List.getElem?_eq_getElem hiu]
  exact hus _ (List.getElem_mem hiu)
 have SF:=((S.pz (wo+k.bq) wst de).pz (wo+k.bq) (wst-p.1*p.2) de).vk (us':=us.set i (us.getD i 0+1)) (by simp)
 have HF:=H _ SF
 clear SF H
 obtain⟨S1,S2,S3,S4,S5,S6,S7,S8,S9⟩:=S
 obtain⟨q1,q2,⟨v,q3,r⟩,q4,q5,q6,q7,q8⟩:=S2
 rw[hul]at HF q6
 have gb:h.get bb=some (.cells [.slice sa l.length c, .int .i64 kerf, .slice wa l.length wc] true 1):=(q2 bb hbb).trans hben
 have sw:=tU hws hlo (by omega) q2
 obtain⟨p1,p2⟩:=p
 obtain⟨kd,at'⟩:=x
 dsimp only at S6 S7 h1 h2 hx1 hx2 HF
 subst hx2
 have hw1:(ints (wsP l))[i]? =some (.int .i64 k.bq):=by simp[ints,wsP,hkl]
 have hu2:bG (ints us) (0+i*1)=some (.int .i64 (us.getD i 0)):=by
  rw[cq,Nat.zero_add,Nat.mul_one]
  simp[ints,List.getD_eq_getElem?_getD,List.getElem?_eq_getElem hiu]
 have hmul:cV .mul (.int .i64 p1) (.int .i64 p2)=some (.int .i64 (p1*p2)):=by
  have a1:=Int.mul_nonneg (show 0≤p1 by omega) (show 0≤p2 by omega)
  have a2:=Int.mul_le_mul h1.2 h2.2 (by omega) (by omega)
  simp[cV,arith,bY (show -9223372036854775808≤p1*p2 by omega) (show p1*p2<9223372036854775808 by omega)]
 have hpp:0≤p1*p2∧p1*p2≤256:=by
  have a1:=Int.mul_nonneg (show 0≤p1 by omega) (show 0≤p2 by omega)
  have a2:=Int.mul_le_mul h1.2 h2.2 (by omega) (by omega)
  omega
 generalize p1*p2=pp at*
 generalize us.getD i 0=ui at*
 generalize k.bq=kw at*
 rcases sw.inv with⟨_,_,hz,_⟩|⟨b,o,cap,hv,sl,_⟩
 ·omega
 cases hv
 obtain⟨vs,own,t,g1,g2⟩:=ff sl hw1
 have kb:b<h.next:=sl.lt
 have kbl:b<lo∨True:= .inr trivial
 clear q2 q3 r q4 q7 v hws hben sw sl hw1 hkl hkr hc S3 S4 S5 hus h1 h2
 unfold xU uK
 rcases hx1 with rfl|rfl
 ·refine y4 ?_;refine yF ?_;refine yL ?_;refine y3 ?_;refine aC ?_;refine aq ?_;refine y4 ?_
  refine yt ?_;refine yM ?_;refine y3 ?_;refine yY ?_;refine aB ?_;refine aP ?_;refine yY ?_;refine aq ?_;refine cG ?_
  refine qF ?_;refine qL ?_;refine qL ?_
  refine ak rfl rfl rfl (by exact rfl) (by exact rfl) (by exact rfl) (cC (by exact rfl)) ?_;refine qF ?_;refine qL ?_
  refine qF ?_;refine qL ?_;refine ak rfl rfl rfl (by exact rfl) (by exact rfl) (by exact rfl) (aN (by exact rfl) (by exact rfl) (by omega)) ?_
  refine ak rfl rfl rfl (by exact rfl) (by exact rfl) (by exact rfl) (bt (by exact rfl) (by assumption) (by assumption)) ?_;refine ak rfl rfl rfl (by exact rfl) (by exact rfl) (by exact rfl) (cE (by exact rfl) (by exact rfl) (by exact rQ (bY (by omega) (by omega)))) ?_;refine qF ?_
  refine eX (ws:=[.int .i64 (wo+kw), .int .i64 wst, .int .i64 de, .slice (some ⟨lo+4,0,none⟩) l.length l.length]) rfl rfl rfl (by exact rfl) (by exact rfl) (by exact rfl) (by assumption) (by exact rfl) (by exact rfl) (by omega) (by apply aa rfl;apply aa rfl;apply aa rfl;apply aa rfl;apply aa rfl;apply aa rfl;apply aa rfl;apply aa rfl;apply aa rfl;apply aa rfl;apply aa rfl;apply aa rfl;exact bT) ?_
  refine cF ?_;refine y1 ?_;refine aP ?_;refine y4 ?_;refine yF ?_
  refine yL ?_;refine af (bz (i:=0) (by exact rfl) (by exact rfl) (by omega)) ?_
  refine yL ?_;refine af (bz (i:=1) (by exact rfl) (by exact rfl) (by omega)) ?_
  refine yL ?_;refine af (cE (by exact rfl) (by exact rfl) (by with_reducible assumption)) ?_
  refine vS ?_;refine yF ?_
  refine yS ?_;refine y3 ?_;refine aD ?_;refine yF ?_
  refine yL ?_;refine yF ?_
  refine yL ?_;refine af (aN (by exact rfl) (by exact rfl) (by omega)) ?_
  refine af (bt (by exact rfl) (by(simp(disch:=first|omega|(simp only[z1,z2];omega))only[z3,z4,z5,z6,z7,z1,z2, *];exact rfl)) (by assumption)) ?_;refine qS ?_
  refine af (aN (by exact rfl) (by exact rfl) (by omega)) ?_
  refine af (jF (ws:=ints (us.set i (ui+1))) (by exact rfl) (by exact rfl) (by(simp(disch:=first|omega|(simp only[z1,z2];omega))only[z3,z4,z5,z6,z7,z1,z2, *];exact rfl)) (EO (by omega)) wM) ?_
  refine fo ?_
  refine y1 ?_
  exact cZ HF
 ·refine y4 ?_;refine yF ?_;refine yL ?_;refine y3 ?_;refine aC ?_;refine aq ?_;refine y4 ?_
  refine yf ?_;refine yM ?_;refine y3 ?_;refine yX ?_;refine aD ?_;refine yt ?_
  refine yM ?_;refine y3 ?_;refine yY ?_;refine aq ?_;refine cG ?_;refine qF ?_
  refine qL ?_;refine qL ?_;refine ak rfl rfl rfl (by exact rfl) (by exact rfl) (by exact rfl) (cC (by exact rfl)) ?_
  refine qF ?_;refine qL ?_;refine qF ?_
  refine qL ?_;refine ak rfl rfl rfl (by exact rfl) (by exact rfl) (by exact rfl) (aN (by exact rfl) (by exact rfl) (by omega)) ?_;refine ak rfl rfl rfl (by exact rfl) (by exact rfl) (by exact rfl) (bt (by exact rfl) (by assumption) (by assumption)) ?_
  refine ak rfl rfl rfl (by exact rfl) (by exact rfl) (by exact rfl) (cE (by exact rfl) (by exact rfl) (by exact rQ (bY (by omega) (by omega)))) ?_;refine qF ?_
  refine eX (ws:=[.int .i64 (wo+kw), .int .i64 wst, .int .i64 de, .slice (some ⟨lo+4,0,none⟩) l.length l.length]) rfl rfl rfl (by exact rfl) (by exact rfl) (by exact rfl) (by assumption) (by exact rfl) (by exact rfl) (by omega) (by apply aa rfl;apply aa rfl;apply aa rfl;apply aa rfl;apply aa rfl;apply aa rfl;apply aa rfl;apply aa rfl;apply aa rfl;apply aa rfl;apply aa rfl;apply aa rfl;exact bT) ?_
  refine cF ?_;refine y1 ?_;refine aP ?_;refine y4 ?_;refine yF ?_
  refine yL ?_;refine af (bz (i:=0) (by exact rfl) (by exact rfl) (by omega)) ?_
  refine yL ?_;refine af (bz (i:=1) (by exact rfl) (by exact rfl) (by omega)) ?_
  refine yL ?_;refine af (cE (by exact rfl) (by exact rfl) (by with_reducible assumption)) ?_
  refine vS ?_;refine yF ?_
  refine yS ?_;refine y3 ?_;refine aD ?_;refine yF ?_
  refine yL ?_;refine yF ?_
  refine yL ?_;refine af (aN (by exact rfl) (by exact rfl) (by omega)) ?_
  refine af (bt (by exact rfl) (by(simp(disch:=first|omega|(simp only[z1,z2];omega))only[z3,z4,z5,z6,z7,z1,z2, *];exact rfl)) (by assumption)) ?_;refine qS ?_
  refine af (aN (by exact rfl) (by exact rfl) (by omega)) ?_
  refine af (jF (ws:=ints (us.set i (ui+1))) (by exact rfl) (by exact rfl) (by(simp(disch:=first|omega|(simp only[z1,z2];omega))only[z3,z4,z5,z6,z7,z1,z2, *];exact rfl)) (EO (by omega)) wM) ?_
  refine fo ?_
  refine y1 ?_
  exact cZ HF
end Go.A.Pk
end
section
set_option maxRecDepth 100000
namespace Go.A.Pk
variable {T:Nat→Option ah}
theorem Vst.cast{lo bb:Nat}{h0 h:Heap}{ns ns':List (Nat×Int)}{wo wst de wo' wst' de':Int}{us us':List Int}(s:Vst lo bb h0 h ns wo wst de us)(e1:ns=ns')(e2:wo=wo')(e3:wst=wst')(e4:de=de')(e5:us=us'):Vst lo bb h0 h ns' wo' wst' de' us':=by
 subst e1 e2 e3 e4 e5
 exact s
theorem uB:∀(a b c:List Int),List.zipWith (· + ·) a (List.zipWith (· + ·) b c)=List.zipWith (· + ·) (List.zipWith (· + ·) a b) c
 |[],_,_=>by simp
 |_::_,[],_=>by simp
 |_::_,_::_,[]=>by simp
 |x::a,y::b,z::c=>by simp only[List.zipWith_cons_cons,uB a b c,Int.add_assoc]
theorem JV{k i a b:Nat}:fC (k,(i:Int)) ((a:Int),(b:Int))=cg (k,i) a b:=by
 unfold fC cg
 dsimp only
theorem J5{kerf:Int}{k i a b:Nat}:gz kerf (k,(i:Int)) ((a:Int),(b:Int))=cm kerf (k,i) a b:=by
 unfold gz cm
 dsimp only
theorem Vb.next{wo wst:Int}{us:List Int}{ns:List (Nat×Int)}{s:Sm}{m:Nat}(v:Vb wo wst us ns)(t:TB s m)(hm:m≤ns.length):Vb (wo+s.bq) (wst-s.cells) (List.zipWith (· + ·) us s.used) (ns.drop m):=by
 obtain⟨v1,v2,v3⟩:=v
 have hl:(ns.drop m).length=ns.length-m:=List.length_drop
 have t1:=t.bq
 have t2:=t.cells
 refine⟨by rw[hl];omega,by rw[hl];omega,fun u hu=> ?_⟩
 obtain⟨a,ha,b,hb,rfl⟩:=AP hu
 have a1:=v3 a ha
 have b1:=t.used b hb
 rw[hl]
 omega
theorem Gp.mono{f:Nat}{args:List Value}{h:Heap}{S:Nat→Prop}{Q Q' Qp:Value→Heap→Prop}(H:Gp T f args h S Q Qp)(hq:∀v h',Q v h'→Q' v h'):Gp T f args h S Q' Qp:=
 CW.mono H fun r h' ⟨w,q⟩=>⟨w,q.elim (fun⟨v,e,q⟩=> .inl ⟨v,e,hq v h' q⟩) .inr⟩
abbrev F3(lo bb:Nat)(h0:Heap)(J:Sm×Nat)(ns:List (Nat×Int))(wo wst de dep:Int)(us:List Int):XQ:=Ej [] (Sv lo) (fun v h1=>VQ lo bb h0 J ns wo wst de dep us v h1∧lo+6∈h1.log∧gY h1 (lo+6)) (VP lo J)
def KL:aJ:=match xU with
 | .seq _ (.block _ (.seq _ (.cond _ _ (.seq _ (.cond _ (.seq _ c) _)))))=>c
 |c=>c
theorem VQ.log{lo bb:Nat}{h0:Heap}{r:Sm×Nat}{ns:List (Nat×Int)}{wo wst de dep:Int}{us:List Int}{v:Value}{h:Heap}(q:VQ lo bb h0 r ns wo wst de dep us v h)(m:List Nat):VQ lo bb h0 r ns wo wst de dep us v {h with log:=m}:=⟨q.1,q.2.1,q.2.2.log m⟩
theorem Hy{kerf size at1:Int}{one two:Sm×Nat}(h:one.1.ok=false):(gF kerf size at1 one two).1.ok=false:=by
 unfold gF
 rw[if_neg (by rw[h];exact Bool.false_ne_true)]
 rfl
theorem Gb{kerf size at1:Int}{one two:Sm×Nat}(hn:¬size-at1-kerf<1)(h:two.1.ok=false):(gF kerf size at1 one two).1.ok=false:=by
 unfold gF
 rw[if_neg hn,if_neg (show¬two.1.ok=true by rw[h];exact Bool.false_ne_true)]
 split<;>rfl
theorem join_one{kerf size at1:Int}{one two:Sm×Nat}(hn:size-at1-kerf<1)(h:one.1.ok=true):gF kerf size at1 one two=({one.1 with depth:=one.1.depth+1},one.2+1):=by
 unfold gF
 rw[if_pos h,if_pos hn]
theorem Dv{kerf size at1:Int}{one two:Sm×Nat}(hn:¬size-at1-kerf<1)(h:one.1.ok=true)(h2:two.1.ok=true):gF kerf size at1 one two=(⟨true,one.1.bq+two.1.bq,one.1.cells+two.1.cells,1+mx one.1.depth two.1.depth,List.zipWith (· + ·) one.1.used two.1.used⟩,1+one.2+two.2):=by
 unfold gF
 rw[if_pos h,if_neg hn,if_pos h2]
set_option maxHeartbeats 32000000 in
theorem sC(F:FnsVs T){kerf:Int}{l:List Kd}(hc:chk kerf l=0){lo bb n0 f k1:Nat}{h0 h:Heap}
 {p one two:Int×Int}{x:Nat×Int}{ns:List (Nat×Int)}{dep wo wst de si i:Int}{us:List Int}(o1:1≤one.1∧one.1≤16)(o2:1≤one.2∧one.2≤16)(o3:one.1+one.2≤f)(t2a:two.1≤16∧two.2≤16)(t3:two.1+two.2≤f)(tn:(two.1<1∨two.2<1)↔si-i-kerf<1)
 (hdep:0≤dep∧dep+(f+1)≤1000)(hde:0≤de∧de≤3000)(hlen:ns.length≤1000)(hk:∀x∈ns,x.1<256)(hul:us.length=l.length)(hb:Vb wo wst us ns)(S:Stg lo bb n0 h0 h p x ns wo wst (mx de dep) us)
 (g10:h.get k1=some (.cells [.int .i64 one.1, .int .i64 one.2] true 1))(g11:h.get (k1+1)=some (.cells [.int .i64 two.1, .int .i64 two.2] true 1))(kn:n0+1<k1∧k1+1<h.next)
 (ih:∀(p:Int×Int) (ns:List (Nat×Int)) (h:Heap) (dep wo wst de:Int) (us:List Int),1≤p.1∧p.1≤16→1≤p.2∧p.2≤16→p.1+p.2≤f→(0≤dep∧dep+f≤1000)→(0≤de∧de≤3000)→ns.length≤1000→(∀x∈ns,x.1<256)→Rdy h→Vst lo bb h0 h ns wo wst de us→us.length=l.length→Vb wo wst us ns→
   Gp T 144 (oO lo p dep) h (Sv lo) (fun v h1=>VQ lo bb h0 (bP kerf l f p ns) ns wo wst de dep us v h1∧lo+6∈h1.log∧gY h1 (lo+6)) (VP lo (bP kerf l f p ns))):
 WE T n0 none KL (KB 0 (F3 lo bb h0 (gF kerf si i (bP kerf l f one ns) (bP kerf l f two (ns.drop (bP kerf l f one ns).2))) (x::ns) wo wst de dep us))
  [(1, .int .i64 dep),(5, .pointer (some ⟨lo+2,0,none⟩)),(6, .pointer (some ⟨lo+7,0,none⟩)),(10, .pointer (some ⟨k1,0,none⟩)),(11, .pointer (some ⟨k1+1,0,none⟩))] [] h:=by
 have hn12:=(dY.1 hc).1
 have T1:=lG hc f one ns o1 o2
 have l8:=S.lo8
 have hde2:0≤mx de dep∧mx de dep≤3000:=by unfold mx;split<;>omega
 have C1:=ih one ns {h with log:=[]} (dep+1) wo wst (mx de dep) us o1 o2 o3 (by omega) hde2 hlen hk (.of S.wf) (S.st.log []) hul hb
 have gv:=S.st.vis
 generalize hr1:bP kerf l f one ns=r1 at*
 obtain⟨one1,one2⟩:=one
 obtain⟨two1,two2⟩:=two
 dsimp only at g10 g11 T1
 unfold oO cT at C1
 unfold KL
 refine y4 ?_;refine yL ?_;refine yN ?_;refine yM ?_;refine qS ?_
 refine yC ?_
 refine FW.gpk (Gp.mono C1 (Q':=fun v h'=>VQ lo bb h0 r1 ns wo wst (mx de dep) (dep+1) us v h'∧gY h' (lo+6)) fun v h' q=>⟨q.1,q.2.2⟩) (fun v h' m q=>⟨q.1.log m,q.2⟩) (fun v h' m q=>q) ?_ ?_
 ·rintro v h5 w5 l5 ⟨⟨rfl,ok1,V5⟩,d5⟩
  have S5:=S.call w5 l5 V5 d5
  have g11':=(w5.old (k1+1) kn.2 (by unfold Sv;omega)).trans g11
  have n5:=w5.next
  have C3:=wH F.toFnsNd (h:={h5 with log:=[]}) (.of S5.wf) (two1,two2)
  have g6:=S5.st.out
  have gv5:=S5.st.vis
  have ml:(ns.drop r1.2).length=ns.length-r1.2:=List.length_drop
  have ul:(List.zipWith (· + ·) us r1.1.used).length=l.length:=by rw[List.length_zipWith,hul,T1.1.len];omega
  have hb5:=hb.next T1.1 T1.2
  have dp:=T1.1.depth
  have hde5:0≤mx (mx de dep) (dep+1+r1.1.depth)∧mx (mx de dep) (dep+1+r1.1.depth)≤3000:=by simp only[mx];(repeat' split)<;>omega
  unfold cT at C3
  clear C1 g10 g11 gv V5 d5 w5 l5
  refine y3 ?_;refine aq ?_;refine y4 ?_;refine yN ?_
  refine yC ?_
  refine FW.pu C3 ?_
  clear C3
  by_cases hn:two1<1∨two2<1
  ·have S6:=S5.pz (wo+r1.1.bq) (wst-r1.1.cells) (mx (mx (mx de dep) (dep+1+r1.1.depth)) (dep+1))
   rw[decide_eq_true hn,join_one (tn.1 hn) ok1]
   refine y3 ?_;refine yY ?_;refine y4 ?_;refine yF ?_;refine yL ?_;refine yM ?_
   refine qS ?_;refine af (Ar (by exact rfl) (by exact rfl)) ?_;refine yF ?_;refine yS ?_;refine y3 ?_;refine aH ?_;refine ej ?_;refine iD ?_
   exact FV S6.lg1 rfl ⟨⟨rfl,ok1,S6.st.cast rfl rfl rfl (by simp only[mx];(repeat' split)<;>omega) rfl⟩,S6.lg2,S6.dty⟩
  ·have C2:=ih (two1,two2) (ns.drop r1.2) {h5 with log:=[]} (dep+1) _ _ _ _ ⟨by dsimp only;omega,t2a.1⟩ ⟨by dsimp only;omega,t2a.2⟩ t3 (by omega) hde5 (by omega) (fun x hx=>hk x (List.mem_of_mem_drop hx)) (.of S5.wf) (S5.st.log []) ul hb5
   rw[decide_eq_false hn]
   generalize hr2:bP kerf l f (two1,two2) (ns.drop r1.2)=r2 at*
   unfold oO cT at C2
   refine y3 ?_;refine yX ?_;refine aB ?_;refine aP ?_;refine aD ?_;refine yL ?_;refine yN ?_
   refine yM ?_;refine qS ?_
   refine yC ?_
   refine FW.gpk (Gp.mono C2 (Q':=fun v h'=>VQ lo bb h0 r2 (ns.drop r1.2) (wo+r1.1.bq) (wst-r1.1.cells) (mx (mx de dep) (dep+1+r1.1.depth)) (dep+1) (List.zipWith (· + ·) us r1.1.used) v h'∧gY h' (lo+6)) fun v h' q=>⟨q.1,q.2.2⟩) (fun v h' m q=>⟨q.1.log m,q.2⟩) (fun v h' m q=>q) ?_ ?_
   ·rintro v h7 w7 l7 ⟨⟨rfl,ok2,V7⟩,d7⟩
    have S7:=S5.call w7 l7 V7 d7
    rw[Dv (fun q=>hn (tn.2 q)) ok1 ok2]
    refine fo ?_;refine y1 ?_;refine cZ ?_
    refine sO S7.lg1 rfl ⟨⟨rfl,rfl,S7.st.cast ?_ (Int.add_assoc ..) (by dsimp only;omega) (by simp only[mx];(repeat' split)<;>omega) (uB ..).symm⟩,S7.lg2,S7.dty⟩
    rw[List.drop_drop,show 1+r1.2+r2.2=(r1.2+r2.2)+1 by omega]
    rfl
   ·rintro v h7 w7 ⟨rfl,nok,four⟩
    exact yb (LQ (mT (fun z hz=>(w7.log z hz).elim (S5.lg1 z) id) ⟨rfl,Gb (fun q=>hn (tn.2 q)) nok,four⟩))
 ·rintro v h5 w5 ⟨rfl,nok,four⟩
  exact yb (Bc (LQ (mT (fun z hz=>(w5.log z hz).elim (S.lg1 z) id) ⟨rfl,Hy nok,four⟩)))
set_option maxHeartbeats 32000000 in
theorem Cf(F:FnsVs T){kerf:Int}{l:List Kd}(hc:chk kerf l=0){lo bb c wc n0 f:Nat}{sa wa:Option Addr}{h0 h:Heap}(hben:h0.get bb=some (.cells [.slice sa l.length c, .int .i64 kerf, .slice wa l.length wc] true 1))(hbb:bb<lo)
 {p:Int×Int}{x:Nat×Int}{ns:List (Nat×Int)}{dep wo wst de:Int}{us:List Int}(h1:1≤p.1∧p.1≤16)(h2:1≤p.2∧p.2≤16)(hf:p.1+p.2≤f+1)(hdep:0≤dep∧dep+(f+1)≤1000)(hde:0≤de∧de≤3000)(hlen:ns.length≤1000)(hk:∀x∈ns,x.1<256)(hul:us.length=l.length)(hb:Vb wo wst us ns)
 (hx1:x.1=3∨x.1=4)(hat:1≤x.2∧x.2≤eD x p-1)(S:Stg lo bb n0 h0 h p x ns wo wst (mx de dep) us)
 (ih:∀(p:Int×Int) (ns:List (Nat×Int)) (h:Heap) (dep wo wst de:Int) (us:List Int),1≤p.1∧p.1≤16→1≤p.2∧p.2≤16→p.1+p.2≤f→(0≤dep∧dep+f≤1000)→(0≤de∧de≤3000)→ns.length≤1000→(∀x∈ns,x.1<256)→Rdy h→Vst lo bb h0 h ns wo wst de us→us.length=l.length→Vb wo wst us ns→
   Gp T 144 (oO lo p dep) h (Sv lo) (fun v h1=>VQ lo bb h0 (bP kerf l f p ns) ns wo wst de dep us v h1∧lo+6∈h1.log∧gY h1 (lo+6)) (VP lo (bP kerf l f p ns))):
 WE T n0 none xU (F3 lo bb h0 (gF kerf (eD x p) x.2 (bP kerf l f (fC x p) ns) (bP kerf l f (gz kerf x p) (ns.drop (bP kerf l f (fC x p) ns).2))) (x::ns) wo wst de dep us) (uK lo n0 dep) [] h:=by
 obtain⟨hc1,hc2,hc3,hc4⟩:=dY.1 hc
 obtain⟨p1,p2⟩:=p
 obtain⟨k,i⟩:=x
 dsimp only at h1 h2 hf hx1 hat⊢
 obtain⟨a,rfl⟩:=Int.eq_ofNat_of_zero_le (show 0≤p1 by omega)
 obtain⟨b,rfl⟩:=Int.eq_ofNat_of_zero_le (show 0≤p2 by omega)
 obtain⟨i,rfl⟩:=Int.eq_ofNat_of_zero_le (show 0≤i by omega)
 have hsz:eD (k,(i:Int)) ((a:Int),(b:Int))=if k=3 then(a:Int)else b:=rfl
 have h1s:eD (k,(i:Int)) ((a:Int),(b:Int))≤16:=by rw[hsz];split<;>omega
 have o1:1≤(fC (k,(i:Int)) ((a:Int),(b:Int))).1∧(fC (k,(i:Int)) ((a:Int),(b:Int))).1≤16:=by unfold fC;split<;>dsimp only<;>omega
 have o2:1≤(fC (k,(i:Int)) ((a:Int),(b:Int))).2∧(fC (k,(i:Int)) ((a:Int),(b:Int))).2≤16:=by unfold fC;split<;>dsimp only<;>omega
 have o3:(fC (k,(i:Int)) ((a:Int),(b:Int))).1+(fC (k,(i:Int)) ((a:Int),(b:Int))).2≤f:=by
  rw[hsz]at hat
  unfold fC
  split<;>rename_i q<;>dsimp only at q⊢
  ·rw[if_pos q]at hat;omega
  ·rw[if_neg q]at hat;omega
 have t2a:(gz kerf (k,(i:Int)) ((a:Int),(b:Int))).1≤16∧(gz kerf (k,(i:Int)) ((a:Int),(b:Int))).2≤16:=by
  unfold gz;split<;>dsimp only<;>omega
 have t3:(gz kerf (k,(i:Int)) ((a:Int),(b:Int))).1+(gz kerf (k,(i:Int)) ((a:Int),(b:Int))).2≤f:=by
  unfold gz;split<;>dsimp only<;>omega
 have tn:((gz kerf (k,(i:Int)) ((a:Int),(b:Int))).1<1∨(gz kerf (k,(i:Int)) ((a:Int),(b:Int))).2<1)↔eD (k,(i:Int)) ((a:Int),(b:Int))-i-kerf<1:=by
  rw[hsz]
  unfold gz
  split<;>dsimp only<;>omega
 have CS:=oR F.toFnsC.p F.f106 (h:={h with log:=[]}) (.of S.wf) (bb:=bb) ((S.st.old bb hbb).trans hben) (by have:=S.nx;have:=S.lo8;show bb<h.next;omega) (kerf:=kerf) ⟨hc2.1,by omega⟩ (x:=(k,i)) (a:=a) (b:=b) hx1 (by dsimp only;omega) (by omega) (by omega)
 have TB1:=lG hc f (fC (k,(i:Int)) ((a:Int),(b:Int))) ns o1 o2
 rw[←JV,←J5]at CS
 generalize hone:fC (k,(i:Int)) ((a:Int),(b:Int))=one at*
 generalize htwo:gz kerf (k,(i:Int)) ((a:Int),(b:Int))=two at*
 generalize hsi:eD (k,(i:Int)) ((a:Int),(b:Int))=si at*
 obtain⟨one1,one2⟩:=one
 obtain⟨two1,two2⟩:=two
 have nx:=S.nx
 have l8:=S.lo8
 have g9:=S.gn
 have g7:=S.gx
 have g4:=S.st.bx
 dsimp only at g9 g7
 unfold dV eI cT at CS
 clear hone htwo hsi hsz hben
 unfold xU uK
 rcases hx1 with rfl|rfl
 ·refine y4 ?_;refine yF ?_;refine yL ?_;refine y3 ?_;refine aC ?_;refine aq ?_;refine y4 ?_
  refine yf ?_;refine yM ?_;refine y3 ?_;refine yX ?_;refine aD ?_;refine yf ?_
  refine yM ?_;refine y3 ?_;refine yX ?_;refine aq ?_;refine y4 ?_;refine yt ?_;refine yM ?_
  refine y3 ?_;refine yY ?_;refine aB ?_;refine aP ?_;refine yY ?_;refine y4 ?_;refine yL ?_
  refine yN ?_;refine yN ?_
  refine yC ?_
  refine FW.pu CS ?_
  clear CS
  refine yM ?_
  refine yE ?_
  refine yE ?_
  refine af cN ?_
  refine af cN ?_
  refine yS ?_
  refine yS ?_
  refine y3 ?_
  exact sC F hc o1 o2 o3 t2a t3 tn hdep hde hlen hk hul hb (S.ext ((((Ext.refl h).push _).push _).wr (Nat.le_refl _) (by omega)|>.wr (Nat.le_succ _) (by(simp only[z1,z2];omega)))) (by(simp(disch:=first|omega|(simp only[z1,z2];omega))only[z3,z4,z5,z6,z7,z1,z2, *];exact rfl)) (by(simp(disch:=first|omega|(simp only[z1,z2];omega)|(simp only[z1,z2];done)|fail)only[z8,z4,z5,z9,z7,z1,z2, *];exact rfl)) ⟨nx,by(simp only[z1,z2];omega)⟩ ih
 ·refine y4 ?_;refine yF ?_;refine yL ?_;refine y3 ?_;refine aC ?_;refine aq ?_;refine y4 ?_
  refine yf ?_;refine yM ?_;refine y3 ?_;refine yX ?_;refine aD ?_;refine yf ?_
  refine yM ?_;refine y3 ?_;refine yX ?_;refine aq ?_;refine y4 ?_;refine yf ?_;refine yM ?_
  refine y3 ?_;refine yX ?_;refine aD ?_;refine yt ?_;refine yM ?_;refine y3 ?_;refine yY ?_;refine y4 ?_;refine yL ?_;refine yN ?_
  refine yN ?_
  refine yC ?_
  refine FW.pu CS ?_
  clear CS
  refine yM ?_
  refine yE ?_
  refine yE ?_
  refine af cN ?_
  refine af cN ?_
  refine yS ?_
  refine yS ?_
  refine y3 ?_
  exact sC F hc o1 o2 o3 t2a t3 tn hdep hde hlen hk hul hb (S.ext ((((Ext.refl h).push _).push _).wr (Nat.le_refl _) (by omega)|>.wr (Nat.le_succ _) (by(simp only[z1,z2];omega)))) (by(simp(disch:=first|omega|(simp only[z1,z2];omega))only[z3,z4,z5,z6,z7,z1,z2, *];exact rfl)) (by(simp(disch:=first|omega|(simp only[z1,z2];omega)|(simp only[z1,z2];done)|fail)only[z8,z4,z5,z9,z7,z1,z2, *];exact rfl)) ⟨nx,by(simp only[z1,z2];omega)⟩ ih
end Go.A.Pk
end
