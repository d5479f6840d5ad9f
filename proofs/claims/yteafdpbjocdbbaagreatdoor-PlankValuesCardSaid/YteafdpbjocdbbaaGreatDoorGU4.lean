/- Walks of functions, plain laws, the table. -/
import Derived.Test.YteafdpbjocdbbaaGreatDoorGU3
import Derived.Test.YteafdpbjocdbbaaGreatDoorGU1
import Derived.Test.YteafdpbjocdbbaaGreatDoorGD
import Derived.Test.YteafdpbjocdbbaaGreatDoorGU2
import Derived.Test.YteafdpbjocdbbaaGreatDoorGF
import Derived.Carry
import Derived.Lib.SmallJoins
import Derived.Deep.Slices
import Derived.Deep.Fields
import Derived.Test.YteafdpbjocdbbaaGreatDoorGU0
import Derived.Test.YteafdpbjocdbbaaGreatDoorProg
import Derived.SizedLaws
import Derived.KernelRfl
import Derived.Test.YteafdpbjocdbbaaGreatDoorGH
import Derived.Test.YteafdpbjocdbbaaGreatDoorGT
set_option linter.all false
section
set_option maxRecDepth 100000
namespace Go.A.Pk
variable {T:Nat→Option AFunc} {base:Nat} {rnd:Option Nat} {Q:XQ} {e:Env} {ds:Dfs} {h:Heap}
structure Rst (S:Nat→Prop) (h:Heap) (v:Value) (ns:List (Nat×Int)):Prop where
 sl:SliceOf h 2 v ns.length (ncI ns)
 u2:U2 h v
 cap:∃qa qc,v= .slice qa ns.length qc∧(qc<UNK∨qc=UNK)
 sep:∀b o n c,v= .slice (some ⟨b,o,none⟩) n c→¬S b∧b<h.next
theorem Rst.keep{S:Nat→Prop}{h h':Heap}{v:Value}{ns:List (Nat×Int)}(r:Rst S h v ns)(hn:h.next≤h'.next)(hg:∀z,z<h.next→¬S z→h'.get z=h.get z):Rst S h' v ns:=by
 obtain⟨r1,r2,r3,r4⟩:=r
 refine⟨?_,fun b o n e=> ?_,r3,fun b o n c e=>⟨(r4 b o n c e).1,Nat.lt_of_lt_of_le (r4 b o n c e).2 hn⟩⟩
 ·rcases r1.inv with⟨c,rfl,h0,h1⟩|⟨b,o,cap,rfl,s,hc⟩
  ·rw[h0,h1];exact .nil
  ·obtain⟨q1,q2⟩:=r4 _ _ _ _ rfl
   obtain⟨vs,own,t,g1,g2⟩:=s.obj
   exact .mem ⟨Nat.lt_of_lt_of_le q2 hn,⟨vs,own,t,(hg _ q2 q1).trans g1,g2⟩,s.len⟩ hc
 ·subst e
  obtain⟨q1,q2⟩:=r4 _ _ _ _ rfl
  obtain⟨vs,own,g⟩:=r2 b o n rfl
  exact⟨vs,own,(hg _ q2 q1).trans g⟩
theorem Rst.log{S:Nat→Prop}{h:Heap}{v:Value}{ns:List (Nat×Int)}(r:Rst S h v ns)(m:List Nat):Rst S {h with log:=m} v ns:=r.keep (h':={h with log:=m}) (Nat.le_refl _) fun _ _ _=>rfl
theorem Rst.ws{S:Nat→Prop}{h h':Heap}{v:Value}{ns:List (Nat×Int)}(r:Rst S h v ns)(w:Ws S h h'):Rst S h' v ns:=r.keep w.next w.old
theorem Rst.ext{S:Nat→Prop}{h h':Heap}{v:Value}{ns:List (Nat×Int)}(r:Rst S h v ns)(w:Ext h h'):Rst S h' v ns:=r.keep w.next fun z hz _=>w.old z hz
theorem FW.pan{f:Nat}{args:List Value}{v:Value}{K:Env→Dfs→Heap→Prop}{dst:Option Nat}(H:CW T f args {h with log:=[]} fun r h'=>r= .panic v∧h'={h with log:=[]})(hK:Q (.panic v) e ds h):FW T (.func f) args {h with log:=[]} (KO K Q base dst e ds h.log):=by
 refine .func (CW.mono H ?_)
 rintro r h2 ⟨rfl,rfl⟩
 exact⟨hK⟩
def fnL5:List Value:=[.func (.func 169) #[] #[], .func (.func 170) #[] #[], .func (.func 171) #[] #[], .func (.func 172) #[] #[], .func (.func 173) #[] #[]]
end Go.A.Pk
end
section
set_option maxRecDepth 100000
namespace Go.A.Pk
variable {T:Nat→Option AFunc} {base:Nat} {rnd:Option Nat} {Q:XQ} {e:Env} {ds:Dfs} {h:Heap}
def Sv(lo z:Nat):Prop:=z=lo+6∨z=lo+2∨z=lo+4
def visV(lo:Nat):Value:= .func (.func 144) #[] #[.pointer (some ⟨lo+6,0,none⟩), .pointer (some ⟨lo+5,0,none⟩), .pointer (some ⟨lo,0,none⟩), .pointer (some ⟨lo+2,0,none⟩), .pointer (some ⟨lo+7,0,none⟩)]
structure Vst (lo bb:Nat) (h0 h:Heap) (ns:List (Nat×Int)) (wo wst de:Int) (us:List Int):Prop where
 nx:lo+8≤h.next
 old:∀z,z<lo→h.get z=h0.get z
 rest:∃v,h.get (lo+6)=some (.cells [v] true 1)∧Rst (Sv lo) h v ns
 all:h.get (lo+5)=some (.cells fnL5 true 1)
 bx:h.get lo=some (.cells [.pointer (some ⟨bb,0,none⟩)] true 1)
 out:h.get (lo+2)=some (.cells [.int .i64 wo, .int .i64 wst, .int .i64 de, .slice (some ⟨lo+4,0,none⟩) us.length us.length] true 1)
 vis:h.get (lo+7)=some (.cells [visV lo] true 1)
 usd:h.get (lo+4)=some (.cells (ints us) true 1)
variable {lo bb:Nat} {h0:Heap} {ns:List (Nat×Int)} {wo wst de:Int} {us:List Int}
theorem Vst.ext{h h':Heap}(s:Vst lo bb h0 h ns wo wst de us)(x:Ext h h'):Vst lo bb h0 h' ns wo wst de us:=by
 obtain⟨q1,q2,⟨v,q3,r⟩,q4,q5,q6,q7,q8⟩:=s
 have k:∀z,z<lo+8→h'.get z=h.get z:=fun z hz=>x.old z (by omega)
 exact⟨Nat.le_trans q1 x.next,fun z hz=>(k z (by omega)).trans (q2 z hz),⟨v,(k _ (by omega)).trans q3,r.ext x⟩,(k _ (by omega)).trans q4,(k _ (by omega)).trans q5,(k _ (by omega)).trans q6,(k _ (by omega)).trans q7,(k _ (by omega)).trans q8⟩
theorem Vst.log(s:Vst lo bb h0 h ns wo wst de us)(m:List Nat):Vst lo bb h0 {h with log:=m} ns wo wst de us:=by
 obtain⟨q1,q2,⟨v,q3,r⟩,q4,q5,q6,q7,q8⟩:=s
 exact⟨q1,q2,⟨v,q3,r.log m⟩,q4,q5,q6,q7,q8⟩
structure Stg (lo bb n0:Nat) (h0 h:Heap) (p:Int×Int) (x:Nat×Int) (ns:List (Nat×Int)) (wo wst de:Int) (us:List Int):Prop where
 wf:WF h
 st:Vst lo bb h0 h ns wo wst de us
 lg1:∀z∈h.log,Sv lo z
 lg2:lo+6∈h.log
 dty:Dirty h (lo+6)
 gx:h.get n0=some (.cells [.int .i64 p.1, .int .i64 p.2] true 1)
 gn:h.get (n0+1)=some (.cells [.int .u8 (x.1:Nat), .int .i64 x.2] true 1)
 nx:n0+1<h.next
 lo8:lo+8≤n0
variable {n0:Nat} {p:Int×Int} {x:Nat×Int}
theorem Stg.ext{h':Heap}(s:Stg lo bb n0 h0 h p x ns wo wst de us)(e:Ext h h'):Stg lo bb n0 h0 h' p x ns wo wst de us:=by
 obtain⟨q1,q2,q3,q4,⟨vs,own,t,g,hs⟩,q6,q7,q8,q9⟩:=s
 have:=e.next
 exact⟨e.wf q1,q2.ext e,by rw[e.log];exact q3,by rw[e.log];exact q4,⟨vs,own,t,(e.old _ (by omega)).trans g,hs⟩,(e.old _ (by omega)).trans q6,(e.old _ q8).trans q7,by omega,q9⟩
theorem Stg.call{h':Heap}{ns':List (Nat×Int)}{wo' wst' de':Int}{us':List Int}(s:Stg lo bb n0 h0 h p x ns wo wst de us)(w:Ws (Sv lo) h h')(hl:∀z∈h.log,z∈h'.log)(v:Vst lo bb h0 h' ns' wo' wst' de' us')(d:Dirty h' (lo+6)):Stg lo bb n0 h0 h' p x ns' wo' wst' de' us':=by
 obtain⟨q1,q2,q3,q4,_,q6,q7,q8,q9⟩:=s
 have:=w.next
 exact⟨w.wf q1,v,fun z hz=>(w.log z hz).elim (q3 z) id,hl _ q4,d,(w.old _ (by omega) (by unfold Sv;omega)).trans q6,(w.old _ q8 (by unfold Sv;omega)).trans q7,by omega,q9⟩
end Go.A.Pk
end
section
set_option maxRecDepth 100000
namespace Go.A.Pk
variable {T:Nat→Option AFunc}
def cd:AFunc→ACode
 | .code c _=>c
 |_=> .skip
def tl1:ACode→ACode
 | .seq _ b=>b
 |c=>c
end Go.A.Pk
end
section
set_option maxRecDepth 100000
namespace Go.A.Pk
variable {T:Nat→Option AFunc}
def okB(kerf:Int)(l:List Kd)(G:Nat→Nat→Int)(a b:Nat):Prop:=(∀k∈l,plankB k a b=true→k.worth≤G a b)∧
 (∀n,1≤n→n<a→∀r:Nat,mx 0 ((a:Int)-n-kerf)=r→G n b+G r b≤G a b)∧(∀n,1≤n→n<b→∀r:Nat,mx 0 ((b:Int)-n-kerf)=r→G a n+G a r≤G a b)
def chk57b:ACode:=tl1 (tl1 (tl1 (tl1 (tl1 (tl1 (cd f57))))))
theorem bool_no{ok:Bool}{P:Prop}(h:ok=true↔P)(hn:¬P):ok=false:=by
 cases ok with
 |false=>rfl
 |true=>exact absurd (h.1 rfl) hn
set_option maxHeartbeats 32000000 in
theorem chkB(hp:primAS T)(hf:T 112=some f112){base p4 p11 n c:Nat}{a0:Option Addr}{hB:Heap}{kerf:Int}{l:List Kd}{w ht:Nat}{G:Nat→Nat→Int}{v3:Value}(hw:w≤16)(hht:ht≤16)(hk:0≤kerf∧kerf≤100)(hn:n<1000)(hws:∀k∈l,0≤k.worth∧k.worth≤1000000)
 (hG:∀x y,x≤16→y≤16→0≤G x y∧G x y≤1000000000)(wB:WF hB)(lB:hB.log=[])(g4:hB.get p4=some (.cells [.slice a0 n c, .int .i64 kerf] true 1))(g11:hB.get p11=some (.cells (ints (grid G)) true 1))(hs:SliceOf hB 5 (.slice a0 n c) n (kcs l))
 {ok:Bool}(hok:ok=true↔ ∀a b,1≤a→a≤w→1≤b→b≤ht→okB kerf l G a b):
 WE T base none chk57b (endP [(8,none),(9,none)] (.tuple #[.bool ok, .int .i64 0])) [(1, .int .i64 w),(2, .int .i64 ht),(3,v3),(4, .pointer (some ⟨p4,0,none⟩)),(11, .pointer (some ⟨p11,0,none⟩)),(12, .int .i64 ((w+1:Nat):Int)),(32, .bool false)] [] hB:=by
 have hnl:n=l.length:=by have:=hs.len;rw[kcs_length]at this;omega
 unfold chk57b
 refine wE_seq ?_;refine y4 ?_;refine yM ?_;refine y3 ?_;refine wE_block ?_
 refine wE_loop (fun m e ds h'=>∃a:Nat,1≤a∧a≤w+1∧m=w+1-a∧e=[(1, .int .i64 w),(2, .int .i64 ht),(4, .pointer (some ⟨p4,0,none⟩)),(11, .pointer (some ⟨p11,0,none⟩)),(14, .int .i64 a)]∧ds=[]∧hB=h'∧∀a' b',1≤a'→a'<a→1≤b'→b'≤ht→okB kerf l G a' b')
  ⟨1,by omega,by omega,rfl,rfl,rfl,rfl,fun a' b' q1 q2=>by omega⟩ ?_
 rintro m e ds _ ⟨a,ha1,ha2,rfl,rfl,rfl,rfl,hA⟩
 by_cases hlt4:a≤w
 ·refine wE_seq ?_;refine y4 ?_;refine yM ?_;refine yM ?_;refine yt ?_;refine y3 ?_;refine yY ?_
  refine wE_skip ?_;refine kS_n ?_;refine wE_seq ?_;refine wE_block ?_;refine y4 ?_;refine yM ?_;refine y3 ?_;refine wE_block ?_
  refine wE_loop (fun m e ds h'=>∃b:Nat,1≤b∧b≤ht+1∧m=ht+1-b∧e=[(1, .int .i64 w),(2, .int .i64 ht),(4, .pointer (some ⟨p4,0,none⟩)),(11, .pointer (some ⟨p11,0,none⟩)),(14, .int .i64 a),(15, .int .i64 b)]∧ds=[]∧hB=h'∧∀b',1≤b'→b'<b→okB kerf l G a b')
   ⟨1,by omega,by omega,rfl,rfl,rfl,rfl,fun b' q1 q2=>by omega⟩ ?_
  rintro m e ds _ ⟨b,hb1,hb2,rfl,rfl,rfl,rfl,hBb⟩
  by_cases hlt6:b≤ht
  ·have c1:=grid_get (f:=G) (a:=a) (b:=b) (by omega) (by omega)
   have hab:=hG a b (by omega) (by omega)
   generalize hz:G a b=z at*
   refine wE_seq ?_;refine y4 ?_;refine yM ?_;refine yM ?_;refine yt ?_;refine y3 ?_;refine yY ?_
   refine wE_skip ?_;refine kS_n ?_;refine wE_seq ?_;refine wE_block ?_;refine wE_seq ?_;refine y4 ?_;refine yM ?_;refine y3 ?_;refine wE_block ?_
   refine wE_loop (fun m e ds h'=>∃i:Nat,i≤n∧m=n-i∧e=[(1, .int .i64 w),(2, .int .i64 ht),(4, .pointer (some ⟨p4,0,none⟩)),(11, .pointer (some ⟨p11,0,none⟩)),(14, .int .i64 a),(15, .int .i64 b),(16, .int .i64 i)]∧ds=[]∧hB=h'∧∀j k,j<i→l[j]? =some k→plankB k a b=true→k.worth≤z)
    ⟨0,Nat.zero_le _,rfl,rfl,rfl,rfl,fun j k q=>by omega⟩ ?_
   rintro m e ds _ ⟨i,hi1,rfl,rfl,rfl,rfl,hI⟩
   by_cases hlt8:i<n
   ·obtain⟨k,hkl⟩:∃k,l[i]? =some k:=⟨l[i]'(by omega),List.getElem?_eq_getElem (by omega)⟩
    have hkw:=hws k (List.mem_of_getElem? hkl)
    rcases hs.inv with⟨_,_,h0,_⟩|⟨b1,o1,cap',hv,s,hcap⟩
    ·omega
    ·cases hv
     obtain⟨vs,own,t,g1,g2⟩:=slice_elem s hkl
     have e3:lget vs (o1+i*5+3)=some (.int .i64 k.worth):=by rw[elem_get g2 3 (by omega)];rfl
     have CP:=plank112 hp hf (h:={hB with log:=[]}) (.of wB) k a b
     cases hpk:plankB k a b with
     |true=>
      rw[hpk]at CP
      have hbad:z<k.worth→ok=false:=fun q=>bool_no hok fun q2=>by
       have:=(q2 a b ha1 hlt4 hb1 hlt6).1 k (List.mem_of_getElem? hkl) hpk
       omega
      generalize hkw2:k.worth=kw at*
      by_cases hzk:z<kw
      ·rw[hbad hzk]
       clear hbad
       refine wE_seq ?_;refine y4 ?_;refine yM ?_;refine yF ?_;refine yL ?_;refine yD ?_;refine yt ?_;refine y3 ?_;refine yY ?_;refine wE_skip ?_;refine kS_n ?_;refine wE_seq ?_;refine wE_block ?_;refine wE_seq ?_;refine wE_draw ?_;refine qF ?_
       refine qL ?_;refine qM ?_;refine wD_quiet rfl rfl rfl (by exact rfl) (by exact rfl) (by exact rfl) (a_iaddrS (by exact rfl) (by exact rfl) (by omega)) ?_
       refine wD_quiet rfl rfl rfl (by exact rfl) (by exact rfl) (by exact rfl) (a_loadN (by exact rfl) g1 g2 (by exact rfl)) ?_
       refine qM ?_;refine qM ?_
       refine qC ?_
       refine FW.puD CP (by apply ra_dropC rfl;apply ra_dropC rfl;apply ra_dropC rfl;apply ra_dropC rfl;apply ra_dropC rfl;apply ra_dropC rfl;apply ra_dropC rfl;exact ra_nil) ?_
       refine qM ?_;refine qM ?_;refine qM ?_
       refine wD_quiet rfl rfl rfl (by exact rfl) (by exact rfl) (by exact rfl) (a_iaddrA (by exact rfl) (by exact rfl) (by omega)) ?_;refine wD_quiet rfl rfl rfl (by exact rfl) (by exact rfl) (by exact rfl) (a_iaddrA (by exact rfl) (by exact rfl) (by omega)) ?_;refine wD_quiet rfl rfl rfl (by exact rfl) (by exact rfl) (by exact rfl) (a_load (by exact rfl) (by assumption) (by assumption)) ?_
       refine qF ?_;refine qL ?_;refine qM ?_
       refine wD_quiet rfl rfl rfl (by exact rfl) (by exact rfl) (by exact rfl) (a_iaddrS (by exact rfl) (by exact rfl) (by omega)) ?_;refine qF ?_;refine wD_quiet rfl rfl rfl (by exact rfl) (by exact rfl) (by exact rfl) (a_load (by exact rfl) (by assumption) (by assumption)) ?_
       refine wD_quiet rfl rfl rfl (by exact rfl) (by exact rfl) (by exact rfl) (a_num (by exact rfl) (by exact rfl) (by exact m_geqT (by omega))) ?_;refine wD_quiet rfl rfl rfl (by exact rfl) (by exact rfl) (by exact rfl) (a_pickT (by exact rfl) (by exact rfl)) ?_;refine wD_nil ?_;refine y1 ?_;refine kS_n ?_
       refine yY ?_;refine y4 ?_;refine yM ?_;refine yM ?_;refine y3 ?_;refine wE_ret ?_;refine kB_r ?_;refine kS_r ?_;refine kS_r ?_;refine kB_r ?_;refine kS_r ?_
       refine kB_r ?_;refine kS_r ?_;refine kS_r ?_;refine kB_r ?_;refine kB_r ?_;refine kS_r ?_;refine kS_r ?_;refine kB_r ?_;refine kS_r ?_
       exact endP_ret lB rfl rfl
      ·clear hbad
       refine wE_seq ?_;refine y4 ?_;refine yM ?_;refine yF ?_;refine yL ?_;refine yD ?_;refine yt ?_;refine y3 ?_;refine yY ?_;refine wE_skip ?_;refine kS_n ?_;refine wE_seq ?_;refine wE_block ?_;refine wE_seq ?_;refine wE_draw ?_;refine qF ?_
       refine qL ?_;refine qM ?_;refine wD_quiet rfl rfl rfl (by exact rfl) (by exact rfl) (by exact rfl) (a_iaddrS (by exact rfl) (by exact rfl) (by omega)) ?_
       refine wD_quiet rfl rfl rfl (by exact rfl) (by exact rfl) (by exact rfl) (a_loadN (by exact rfl) g1 g2 (by exact rfl)) ?_
       refine qM ?_;refine qM ?_
       refine qC ?_
       refine FW.puD CP (by apply ra_dropC rfl;apply ra_dropC rfl;apply ra_dropC rfl;apply ra_dropC rfl;apply ra_dropC rfl;apply ra_dropC rfl;apply ra_dropC rfl;exact ra_nil) ?_
       refine qM ?_;refine qM ?_;refine qM ?_
       refine wD_quiet rfl rfl rfl (by exact rfl) (by exact rfl) (by exact rfl) (a_iaddrA (by exact rfl) (by exact rfl) (by omega)) ?_;refine wD_quiet rfl rfl rfl (by exact rfl) (by exact rfl) (by exact rfl) (a_iaddrA (by exact rfl) (by exact rfl) (by omega)) ?_;refine wD_quiet rfl rfl rfl (by exact rfl) (by exact rfl) (by exact rfl) (a_load (by exact rfl) (by assumption) (by assumption)) ?_
       refine qF ?_;refine qL ?_;refine qM ?_
       refine wD_quiet rfl rfl rfl (by exact rfl) (by exact rfl) (by exact rfl) (a_iaddrS (by exact rfl) (by exact rfl) (by omega)) ?_;refine qF ?_;refine wD_quiet rfl rfl rfl (by exact rfl) (by exact rfl) (by exact rfl) (a_load (by exact rfl) (by assumption) (by assumption)) ?_
       refine wD_quiet rfl rfl rfl (by exact rfl) (by exact rfl) (by exact rfl) (a_num (by exact rfl) (by exact rfl) (by exact m_geqF (by omega))) ?_;refine wD_quiet rfl rfl rfl (by exact rfl) (by exact rfl) (by exact rfl) (a_pickT (by exact rfl) (by exact rfl)) ?_;refine wD_nil ?_;refine y1 ?_;refine kS_n ?_
       refine yX ?_;refine wE_skip ?_;refine kB_n ?_;refine kS_n ?_;refine wE_region ?_;refine yM ?_;refine yinc ?_;refine yM ?_;refine y3 ?_
       refine⟨n-(i+1),by omega,i+1,by omega,rfl,rfl,rfl,rfl,fun j k' q1 q2 q3=> ?_⟩
       by_cases q:j=i
       ·subst q;rw[hkl]at q2;cases q2;omega
       ·exact hI j k' (by omega) q2 q3
     |false=>
      rw[hpk]at CP
      refine wE_seq ?_;refine y4 ?_;refine yM ?_;refine yF ?_;refine yL ?_;refine yD ?_;refine yt ?_;refine y3 ?_;refine yY ?_;refine wE_skip ?_;refine kS_n ?_;refine wE_seq ?_;refine wE_block ?_;refine wE_seq ?_;refine wE_draw ?_;refine qF ?_
      refine qL ?_;refine qM ?_;refine wD_quiet rfl rfl rfl (by exact rfl) (by exact rfl) (by exact rfl) (a_iaddrS (by exact rfl) (by exact rfl) (by omega)) ?_
      refine wD_quiet rfl rfl rfl (by exact rfl) (by exact rfl) (by exact rfl) (a_loadN (by exact rfl) g1 g2 (by exact rfl)) ?_
      refine qM ?_;refine qM ?_
      refine qC ?_
      refine FW.puD CP (by apply ra_dropC rfl;apply ra_dropC rfl;apply ra_dropC rfl;apply ra_dropC rfl;apply ra_dropC rfl;apply ra_dropC rfl;apply ra_dropC rfl;exact ra_nil) ?_
      refine qM ?_;refine wD_off rfl rfl rfl (by exact rfl) ?_;refine wD_off rfl rfl rfl (by exact rfl) ?_;refine wD_off rfl rfl rfl (by exact rfl) ?_;refine wD_off rfl rfl rfl (by exact rfl) ?_;refine wD_off rfl rfl rfl (by exact rfl) ?_;refine wD_off rfl rfl rfl (by exact rfl) ?_
      refine wD_off rfl rfl rfl (by exact rfl) ?_;refine wD_off rfl rfl rfl (by exact rfl) ?_;refine wD_off rfl rfl rfl (by exact rfl) ?_;refine wD_off rfl rfl rfl (by exact rfl) ?_;refine wD_off rfl rfl rfl (by exact rfl) ?_;refine wD_off rfl rfl rfl (by exact rfl) ?_;refine wD_quiet rfl rfl rfl (by exact rfl) (by exact rfl) (by exact rfl) (a_pickF (by exact rfl) (by exact rfl)) ?_
      refine wD_nil ?_;refine y1 ?_;refine kS_n ?_;refine yX ?_;refine wE_skip ?_;refine kB_n ?_;refine kS_n ?_;refine wE_region ?_;refine yM ?_;refine yinc ?_
      refine yM ?_;refine y3 ?_
      refine⟨n-(i+1),by omega,i+1,by omega,rfl,rfl,rfl,rfl,fun j k' q1 q2 q3=> ?_⟩
      by_cases q:j=i
      ·subst q;rw[hkl]at q2;cases q2;rw[hpk]at q3;cases q3
      ·exact hI j k' (by omega) q2 q3
   ·obtain rfl:i=n:=by omega
    have hK:∀k∈l,plankB k a b=true→k.worth≤z:=fun k hk q=>by
     obtain⟨j,hj,rfl⟩:=List.getElem_of_mem hk
     exact hI j _ (by omega) (List.getElem?_eq_getElem hj) q
    refine wE_seq ?_;refine y4 ?_;refine yM ?_;refine yF ?_;refine yL ?_;refine yD ?_;refine yf ?_;refine y3 ?_;refine yX ?_;refine wE_exit ?_;refine kS_e ?_;refine kS_e ?_;refine kB_e ?_;refine kS_n ?_;refine wE_seq ?_;refine y4 ?_;refine yM ?_;refine y3 ?_;refine wE_block ?_
    refine wE_loop (fun m e ds h'=>∃n0:Nat,n0+1≤a∧m=a-n0∧e=[(1, .int .i64 w),(2, .int .i64 ht),(4, .pointer (some ⟨p4,0,none⟩)),(11, .pointer (some ⟨p11,0,none⟩)),(14, .int .i64 a),(15, .int .i64 b),(17, .int .i64 ((n0+1:Nat):Int))]∧ds=[]∧hB=h'∧∀n1,1≤n1→n1<n0+1→∀r:Nat,mx 0 ((a:Int)-n1-kerf)=r→G n1 b+G r b≤z)
     ⟨0,by omega,rfl,rfl,rfl,rfl,fun n1 q1 q2=>by omega⟩ ?_
    rintro m e ds _ ⟨n0,hn1,rfl,rfl,rfl,rfl,hN17⟩
    by_cases hlt17:n0+1<a
    ·obtain⟨r,hr1⟩:∃r:Nat,mx 0 ((a:Int)-(n0+1:Nat)-kerf)=r:=by
      have:0≤mx 0 ((a:Int)-(n0+1:Nat)-kerf):=mx_ge.1
      exact⟨_,(Int.toNat_of_nonneg this).symm⟩
     have hrl:r<a:=by unfold mx at hr1;split at hr1<;>omega
     have d2:=grid_get (f:=G) (a:=n0+1) (b:=b) (by omega) (by omega)
     have d3:=grid_get (f:=G) (a:=r) (b:=b) (by omega) (by omega)
     have hb2:=hG (n0+1) b (by omega) (by omega)
     have hb3:=hG r b (by omega) (by omega)
     have hbad:z<G (n0+1) b+G r b→ok=false:=fun q=>bool_no hok fun q2=>by
      have:=(q2 a b ha1 hlt4 hb1 hlt6).2.1 (n0+1) (by omega) (by omega) r hr1
      omega
     have hgood:¬z<G (n0+1) b+G r b→∀n1,1≤n1→n1<n0+1+1→∀r':Nat,mx 0 ((a:Int)-n1-kerf)=r'→G n1 b+G r' b≤z:=fun q n1 q1 q2 r' q3=>by
      by_cases e:n1=n0+1
      ·subst e
       have:r'=r:=by omega
       subst this
       omega
      ·exact hN17 n1 q1 (by omega) r' q3
     generalize G (n0+1) b=za at*
     generalize G r b=zb at*
     by_cases hzz:z<za+zb
     ·rw[hbad hzz]
      clear hbad hgood
      refine wE_seq ?_;refine y4 ?_;refine yM ?_;refine yM ?_;refine yt ?_;refine y3 ?_;refine yY ?_
      refine wE_skip ?_;refine kS_n ?_;refine wE_seq ?_;refine wE_block ?_;refine wE_seq ?_;refine wE_draw ?_;refine qM ?_;refine qM ?_
      refine wD_quiet rfl rfl rfl (by exact rfl) (by exact rfl) (by exact rfl) (a_iaddrA (by exact rfl) (by exact rfl) (by omega)) ?_;refine wD_quiet rfl rfl rfl (by exact rfl) (by exact rfl) (by exact rfl) (a_iaddrA (by exact rfl) (by exact rfl) (by omega)) ?_;refine wD_quiet rfl rfl rfl (by exact rfl) (by exact rfl) (by exact rfl) (a_load (by exact rfl) (by assumption) (by assumption)) ?_
      refine qM ?_;refine qM ?_;refine wD_quiet rfl rfl rfl (by exact rfl) (by exact rfl) (by exact rfl) (a_iaddrA (by exact rfl) (by exact rfl) (by omega)) ?_
      refine wD_quiet rfl rfl rfl (by exact rfl) (by exact rfl) (by exact rfl) (a_iaddrA (by exact rfl) (by exact rfl) (by omega)) ?_;refine wD_quiet rfl rfl rfl (by exact rfl) (by exact rfl) (by exact rfl) (a_load (by exact rfl) (by assumption) (by assumption)) ?_;refine qM ?_
      refine qM ?_;refine wD_quiet rfl rfl rfl (by exact rfl) (by exact rfl) (by exact rfl) (a_num (by exact rfl) (by exact rfl) (by exact m_sub (wrapA_i64 (by omega) (by omega)))) ?_;refine qF ?_
      refine qL ?_;refine wD_quiet rfl rfl rfl (by exact rfl) (by exact rfl) (by exact rfl) (a_num (by exact rfl) (by exact rfl) (by exact m_sub (wrapA_i64 (by omega) (by omega)))) ?_
      refine wD_quiet rfl rfl rfl (by exact rfl) (by exact rfl) (by exact rfl) (a_max (by exact rfl) (by exact rfl)) ?_;refine qM ?_
      rw[hr1]
      refine wD_quiet rfl rfl rfl (by exact rfl) (by exact rfl) (by exact rfl) (a_iaddrA (by exact rfl) (by exact rfl) (by omega)) ?_;refine wD_quiet rfl rfl rfl (by exact rfl) (by exact rfl) (by exact rfl) (a_iaddrA (by exact rfl) (by exact rfl) (by omega)) ?_;refine wD_quiet rfl rfl rfl (by exact rfl) (by exact rfl) (by exact rfl) (a_load (by exact rfl) (by assumption) (by assumption)) ?_
      refine wD_quiet rfl rfl rfl (by exact rfl) (by exact rfl) (by exact rfl) (a_num (by exact rfl) (by exact rfl) (by exact m_add (wrapA_i64 (by omega) (by omega)))) ?_;refine wD_quiet rfl rfl rfl (by exact rfl) (by exact rfl) (by exact rfl) (a_num (by exact rfl) (by exact rfl) (by exact m_geqT (by omega))) ?_;refine wD_nil ?_
      refine y1 ?_;refine kS_n ?_;refine yY ?_;refine y4 ?_;refine yM ?_;refine yM ?_;refine y3 ?_;refine wE_ret ?_;refine kB_r ?_;refine kS_r ?_;refine kS_r ?_;refine kB_r ?_;refine kS_r ?_;refine kB_r ?_;refine kS_r ?_;refine kS_r ?_;refine kB_r ?_;refine kB_r ?_;refine kS_r ?_;refine kS_r ?_;refine kB_r ?_;refine kS_r ?_
      exact endP_ret lB rfl rfl
     ·have hgood:=hgood hzz
      clear hbad
      refine wE_seq ?_;refine y4 ?_;refine yM ?_;refine yM ?_;refine yt ?_;refine y3 ?_;refine yY ?_
      refine wE_skip ?_;refine kS_n ?_;refine wE_seq ?_;refine wE_block ?_;refine wE_seq ?_;refine wE_draw ?_;refine qM ?_;refine qM ?_
      refine wD_quiet rfl rfl rfl (by exact rfl) (by exact rfl) (by exact rfl) (a_iaddrA (by exact rfl) (by exact rfl) (by omega)) ?_;refine wD_quiet rfl rfl rfl (by exact rfl) (by exact rfl) (by exact rfl) (a_iaddrA (by exact rfl) (by exact rfl) (by omega)) ?_;refine wD_quiet rfl rfl rfl (by exact rfl) (by exact rfl) (by exact rfl) (a_load (by exact rfl) (by assumption) (by assumption)) ?_
      refine qM ?_;refine qM ?_;refine wD_quiet rfl rfl rfl (by exact rfl) (by exact rfl) (by exact rfl) (a_iaddrA (by exact rfl) (by exact rfl) (by omega)) ?_
      refine wD_quiet rfl rfl rfl (by exact rfl) (by exact rfl) (by exact rfl) (a_iaddrA (by exact rfl) (by exact rfl) (by omega)) ?_;refine wD_quiet rfl rfl rfl (by exact rfl) (by exact rfl) (by exact rfl) (a_load (by exact rfl) (by assumption) (by assumption)) ?_;refine qM ?_
      refine qM ?_;refine wD_quiet rfl rfl rfl (by exact rfl) (by exact rfl) (by exact rfl) (a_num (by exact rfl) (by exact rfl) (by exact m_sub (wrapA_i64 (by omega) (by omega)))) ?_;refine qF ?_
      refine qL ?_;refine wD_quiet rfl rfl rfl (by exact rfl) (by exact rfl) (by exact rfl) (a_num (by exact rfl) (by exact rfl) (by exact m_sub (wrapA_i64 (by omega) (by omega)))) ?_
      refine wD_quiet rfl rfl rfl (by exact rfl) (by exact rfl) (by exact rfl) (a_max (by exact rfl) (by exact rfl)) ?_;refine qM ?_
      rw[hr1]
      refine wD_quiet rfl rfl rfl (by exact rfl) (by exact rfl) (by exact rfl) (a_iaddrA (by exact rfl) (by exact rfl) (by omega)) ?_;refine wD_quiet rfl rfl rfl (by exact rfl) (by exact rfl) (by exact rfl) (a_iaddrA (by exact rfl) (by exact rfl) (by omega)) ?_;refine wD_quiet rfl rfl rfl (by exact rfl) (by exact rfl) (by exact rfl) (a_load (by exact rfl) (by assumption) (by assumption)) ?_
      refine wD_quiet rfl rfl rfl (by exact rfl) (by exact rfl) (by exact rfl) (a_num (by exact rfl) (by exact rfl) (by exact m_add (wrapA_i64 (by omega) (by omega)))) ?_;refine wD_quiet rfl rfl rfl (by exact rfl) (by exact rfl) (by exact rfl) (a_num (by exact rfl) (by exact rfl) (by exact m_geqF (by omega))) ?_;refine wD_nil ?_
      refine y1 ?_;refine kS_n ?_;refine yX ?_;refine wE_skip ?_;refine kB_n ?_;refine kS_n ?_;refine wE_region ?_;refine yM ?_;refine yinc ?_;refine yM ?_
      refine y3 ?_
      exact⟨a-(n0+1),by omega,n0+1,by omega,rfl,rfl,rfl,rfl,hgood⟩
    ·obtain rfl:n0=a-1:=by omega
     refine wE_seq ?_;refine y4 ?_;refine yM ?_;refine yM ?_;refine yf ?_;refine y3 ?_;refine yX ?_
     refine wE_exit ?_;refine kS_e ?_;refine kS_e ?_;refine kB_e ?_;refine kS_n ?_;refine y4 ?_;refine yM ?_;refine y3 ?_;refine wE_block ?_
     refine wE_loop (fun m e ds h'=>∃n0:Nat,n0+1≤b∧m=b-n0∧e=[(1, .int .i64 w),(2, .int .i64 ht),(4, .pointer (some ⟨p4,0,none⟩)),(11, .pointer (some ⟨p11,0,none⟩)),(14, .int .i64 a),(15, .int .i64 b),(18, .int .i64 ((n0+1:Nat):Int))]∧ds=[]∧hB=h'∧∀n1,1≤n1→n1<n0+1→∀r:Nat,mx 0 ((b:Int)-n1-kerf)=r→G a n1+G a r≤z)
      ⟨0,by omega,rfl,rfl,rfl,rfl,fun n1 q1 q2=>by omega⟩ ?_
     rintro m e ds _ ⟨n0,hn1,rfl,rfl,rfl,rfl,hN18⟩
     by_cases hlt18:n0+1<b
     ·obtain⟨r,hr1⟩:∃r:Nat,mx 0 ((b:Int)-(n0+1:Nat)-kerf)=r:=by
       have:0≤mx 0 ((b:Int)-(n0+1:Nat)-kerf):=mx_ge.1
       exact⟨_,(Int.toNat_of_nonneg this).symm⟩
      have hrl:r<b:=by unfold mx at hr1;split at hr1<;>omega
      have d2:=grid_get (f:=G) (a:=a) (b:=n0+1) (by omega) (by omega)
      have d3:=grid_get (f:=G) (a:=a) (b:=r) (by omega) (by omega)
      have hb2:=hG a (n0+1) (by omega) (by omega)
      have hb3:=hG a r (by omega) (by omega)
      have hbad:z<G a (n0+1)+G a r→ok=false:=fun q=>bool_no hok fun q2=>by
       have:=(q2 a b ha1 hlt4 hb1 hlt6).2.2 (n0+1) (by omega) (by omega) r hr1
       omega
      have hgood:¬z<G a (n0+1)+G a r→∀n1,1≤n1→n1<n0+1+1→∀r':Nat,mx 0 ((b:Int)-n1-kerf)=r'→G a n1+G a r'≤z:=fun q n1 q1 q2 r' q3=>by
       by_cases e:n1=n0+1
       ·subst e
        have:r'=r:=by omega
        subst this
        omega
       ·exact hN18 n1 q1 (by omega) r' q3
      generalize G a (n0+1)=za at*
      generalize G a r=zb at*
      by_cases hzz:z<za+zb
      ·rw[hbad hzz]
       clear hbad hgood
       refine wE_seq ?_;refine y4 ?_;refine yM ?_;refine yM ?_;refine yt ?_;refine y3 ?_;refine yY ?_
       refine wE_skip ?_;refine kS_n ?_;refine wE_seq ?_;refine wE_block ?_;refine wE_seq ?_;refine wE_draw ?_;refine qM ?_;refine qM ?_
       refine wD_quiet rfl rfl rfl (by exact rfl) (by exact rfl) (by exact rfl) (a_iaddrA (by exact rfl) (by exact rfl) (by omega)) ?_;refine wD_quiet rfl rfl rfl (by exact rfl) (by exact rfl) (by exact rfl) (a_iaddrA (by exact rfl) (by exact rfl) (by omega)) ?_;refine wD_quiet rfl rfl rfl (by exact rfl) (by exact rfl) (by exact rfl) (a_load (by exact rfl) (by assumption) (by assumption)) ?_
       refine qM ?_;refine qM ?_;refine wD_quiet rfl rfl rfl (by exact rfl) (by exact rfl) (by exact rfl) (a_iaddrA (by exact rfl) (by exact rfl) (by omega)) ?_
       refine wD_quiet rfl rfl rfl (by exact rfl) (by exact rfl) (by exact rfl) (a_iaddrA (by exact rfl) (by exact rfl) (by omega)) ?_;refine wD_quiet rfl rfl rfl (by exact rfl) (by exact rfl) (by exact rfl) (a_load (by exact rfl) (by assumption) (by assumption)) ?_;refine qM ?_
       refine qM ?_;refine qM ?_;refine wD_quiet rfl rfl rfl (by exact rfl) (by exact rfl) (by exact rfl) (a_num (by exact rfl) (by exact rfl) (by exact m_sub (wrapA_i64 (by omega) (by omega)))) ?_
       refine qF ?_;refine qL ?_;refine wD_quiet rfl rfl rfl (by exact rfl) (by exact rfl) (by exact rfl) (a_num (by exact rfl) (by exact rfl) (by exact m_sub (wrapA_i64 (by omega) (by omega)))) ?_
       refine wD_quiet rfl rfl rfl (by exact rfl) (by exact rfl) (by exact rfl) (a_max (by exact rfl) (by exact rfl)) ?_;refine wD_quiet rfl rfl rfl (by exact rfl) (by exact rfl) (by exact rfl) (a_iaddrA (by exact rfl) (by exact rfl) (by omega)) ?_
       rw[hr1]
       refine wD_quiet rfl rfl rfl (by exact rfl) (by exact rfl) (by exact rfl) (a_iaddrA (by exact rfl) (by exact rfl) (by omega)) ?_;refine wD_quiet rfl rfl rfl (by exact rfl) (by exact rfl) (by exact rfl) (a_load (by exact rfl) (by assumption) (by assumption)) ?_
       refine wD_quiet rfl rfl rfl (by exact rfl) (by exact rfl) (by exact rfl) (a_num (by exact rfl) (by exact rfl) (by exact m_add (wrapA_i64 (by omega) (by omega)))) ?_;refine wD_quiet rfl rfl rfl (by exact rfl) (by exact rfl) (by exact rfl) (a_num (by exact rfl) (by exact rfl) (by exact m_geqT (by omega))) ?_;refine wD_nil ?_
       refine y1 ?_;refine kS_n ?_;refine yY ?_;refine y4 ?_;refine yM ?_;refine yM ?_;refine y3 ?_;refine wE_ret ?_;refine kB_r ?_;refine kS_r ?_;refine kS_r ?_;refine kB_r ?_;refine kB_r ?_;refine kS_r ?_;refine kS_r ?_;refine kB_r ?_;refine kB_r ?_;refine kS_r ?_;refine kS_r ?_;refine kB_r ?_;refine kS_r ?_
       exact endP_ret lB rfl rfl
      ·have hgood:=hgood hzz
       clear hbad
       refine wE_seq ?_;refine y4 ?_;refine yM ?_;refine yM ?_;refine yt ?_;refine y3 ?_;refine yY ?_
       refine wE_skip ?_;refine kS_n ?_;refine wE_seq ?_;refine wE_block ?_;refine wE_seq ?_;refine wE_draw ?_;refine qM ?_;refine qM ?_
       refine wD_quiet rfl rfl rfl (by exact rfl) (by exact rfl) (by exact rfl) (a_iaddrA (by exact rfl) (by exact rfl) (by omega)) ?_;refine wD_quiet rfl rfl rfl (by exact rfl) (by exact rfl) (by exact rfl) (a_iaddrA (by exact rfl) (by exact rfl) (by omega)) ?_;refine wD_quiet rfl rfl rfl (by exact rfl) (by exact rfl) (by exact rfl) (a_load (by exact rfl) (by assumption) (by assumption)) ?_
       refine qM ?_;refine qM ?_;refine wD_quiet rfl rfl rfl (by exact rfl) (by exact rfl) (by exact rfl) (a_iaddrA (by exact rfl) (by exact rfl) (by omega)) ?_
       refine wD_quiet rfl rfl rfl (by exact rfl) (by exact rfl) (by exact rfl) (a_iaddrA (by exact rfl) (by exact rfl) (by omega)) ?_;refine wD_quiet rfl rfl rfl (by exact rfl) (by exact rfl) (by exact rfl) (a_load (by exact rfl) (by assumption) (by assumption)) ?_;refine qM ?_
       refine qM ?_;refine qM ?_;refine wD_quiet rfl rfl rfl (by exact rfl) (by exact rfl) (by exact rfl) (a_num (by exact rfl) (by exact rfl) (by exact m_sub (wrapA_i64 (by omega) (by omega)))) ?_
       refine qF ?_;refine qL ?_;refine wD_quiet rfl rfl rfl (by exact rfl) (by exact rfl) (by exact rfl) (a_num (by exact rfl) (by exact rfl) (by exact m_sub (wrapA_i64 (by omega) (by omega)))) ?_
       refine wD_quiet rfl rfl rfl (by exact rfl) (by exact rfl) (by exact rfl) (a_max (by exact rfl) (by exact rfl)) ?_;refine wD_quiet rfl rfl rfl (by exact rfl) (by exact rfl) (by exact rfl) (a_iaddrA (by exact rfl) (by exact rfl) (by omega)) ?_
       rw[hr1]
       refine wD_quiet rfl rfl rfl (by exact rfl) (by exact rfl) (by exact rfl) (a_iaddrA (by exact rfl) (by exact rfl) (by omega)) ?_;refine wD_quiet rfl rfl rfl (by exact rfl) (by exact rfl) (by exact rfl) (a_load (by exact rfl) (by assumption) (by assumption)) ?_
       refine wD_quiet rfl rfl rfl (by exact rfl) (by exact rfl) (by exact rfl) (a_num (by exact rfl) (by exact rfl) (by exact m_add (wrapA_i64 (by omega) (by omega)))) ?_;refine wD_quiet rfl rfl rfl (by exact rfl) (by exact rfl) (by exact rfl) (a_num (by exact rfl) (by exact rfl) (by exact m_geqF (by omega))) ?_;refine wD_nil ?_
       refine y1 ?_;refine kS_n ?_;refine yX ?_;refine wE_skip ?_;refine kB_n ?_;refine kS_n ?_;refine wE_region ?_;refine yM ?_;refine yinc ?_;refine yM ?_
       refine y3 ?_
       exact⟨b-(n0+1),by omega,n0+1,by omega,rfl,rfl,rfl,rfl,hgood⟩
     ·obtain rfl:n0=b-1:=by omega
      refine wE_seq ?_;refine y4 ?_;refine yM ?_;refine yM ?_;refine yf ?_;refine y3 ?_;refine yX ?_
      refine wE_exit ?_;refine kS_e ?_;refine kS_e ?_;refine kB_e ?_;refine kB_n ?_;refine kS_n ?_;refine wE_region ?_;refine yM ?_;refine yinc ?_;refine yM ?_;refine y3 ?_
      refine⟨ht+1-(b+1),by omega,b+1,by omega,by omega,rfl,rfl,rfl,rfl,fun b' q1 q2=> ?_⟩
      by_cases q:b'=b
      ·subst q
       refine⟨fun k q3 q4=> ?_,fun n1 q3 q4 r q5=> ?_,fun n1 q3 q4 r q5=> ?_⟩
       ·rw[hz];exact hK k q3 q4
       ·rw[hz];exact hN17 n1 q3 (by omega) r q5
       ·rw[hz];exact hN18 n1 q3 (by omega) r q5
      ·exact hBb b' q1 (by omega)
  ·obtain rfl:b=ht+1:=by omega
   refine wE_seq ?_;refine y4 ?_;refine yM ?_;refine yM ?_;refine yf ?_;refine y3 ?_;refine yX ?_
   refine wE_exit ?_;refine kS_e ?_;refine kS_e ?_;refine kB_e ?_;refine kB_n ?_;refine kS_n ?_;refine wE_region ?_;refine yM ?_;refine yinc ?_;refine yM ?_;refine y3 ?_
   exact⟨w+1-(a+1),by omega,a+1,by omega,by omega,rfl,rfl,rfl,rfl,fun a' b' q1 q2 q3 q4=>by
    by_cases q:a'=a
    ·subst q;exact hBb b' q3 (by omega)
    ·exact hA a' b' q1 (by omega) q3 q4⟩
 ·obtain rfl:a=w+1:=by omega
  have hok2:ok=true:=hok.2 fun a' b' q1 q2 q3 q4=>hA a' b' q1 (by omega) q3 q4
  rw[hok2]
  refine wE_seq ?_;refine y4 ?_;refine yM ?_;refine yM ?_;refine yf ?_;refine y3 ?_;refine yX ?_
  refine wE_exit ?_;refine kS_e ?_;refine kS_e ?_;refine kB_e ?_;refine kS_n ?_;refine y4 ?_;refine yM ?_;refine yM ?_;refine y3 ?_;refine wE_ret ?_
  exact endP_ret lB rfl rfl
end Go.A.Pk
end
section
set_option maxRecDepth 100000
namespace Go.A.Pk
variable {T:Nat→Option AFunc}
structure FnsRk (T:Nat→Option AFunc):Prop extends FnsD T where
 f112:T 112=some f112
 f57:T 57=some f57
def vAt(rows:List (List Int))(x y:Nat):Int:=(rows.getD (x-1) []).getD (y-1) 0
def Gv(w ht:Nat)(rows:List (List Int))(x y:Nat):Int:=if 1≤x∧x≤w∧1≤y∧y≤ht then vAt rows x y else 0
def inV(z:Int):Prop:=0≤z∧z≤1000000000
def valOk(kerf:Int)(l:List Kd)(w ht:Nat)(rows:List (List Int)):Prop:=rows.length=w∧(∀r∈rows,r.length=ht)∧(∀x y,1≤x→x≤w→1≤y→y≤ht→inV (vAt rows x y))∧∀a b,1≤a→a≤w→1≤b→b≤ht→okB kerf l (Gv w ht rows) a b
def Gq(ht:Nat)(rows:List (List Int))(a b:Nat)(x y:Nat):Int:=if(1≤x∧x<a∧1≤y∧y≤ht)∨(x=a∧1≤y∧y<b)then vAt rows x y else 0
set_option maxHeartbeats 32000000 in
theorem rcheck57(F:FnsRk T){h:Heap}(hr:Rdy h){a0:Option Addr}{n c:Nat}{l:List Kd}(hs:SliceOf h 5 (.slice a0 n c) n (kcs l))(kerf:Int)(hn:n<1000000)(w ht:Int){v:Value}{rows:List (List Int)}(hv:ListsW h v rows)(hrl:rows.length<1000000∧∀r∈rows,r.length<1000000)
 {ok:Bool}(hok:asked kerf l (OnB w ht)=0→(ok=true↔valOk kerf l w.toNat ht.toNat rows))(hno:asked kerf l (OnB w ht)≠0→ok=false):
 Pu T 57 [.agg #[.slice a0 n c, .int .i64 kerf], .int .i64 w, .int .i64 ht,v] h (.tuple #[.bool ok, .int .i64 (asked kerf l (OnB w ht))]):=by
 obtain⟨va,vc,rfl⟩:=hv.form
 refine .of F.p F.f57 hr rfl ?_
 have hx:Ext h (h.push (.cells [.slice a0 n c, .int .i64 kerf] true 1)):=(Ext.refl h).push _
 obtain rfl:n=l.length:=by have:=hs.len;rw[kcs_length]at this;omega
 have C1:=asked79 F.toFnsD (.of (hx.wf hr.wf)) ((hs.ext hx).log []) kerf w ht hn
 change Pu T 79 _ _ (.int .i64 (asked kerf l (OnB w ht)))at C1
 refine y4 ?_;refine yB ?_;refine yM ?_;refine yM ?_;refine y3 ?_;refine y4 ?_
 refine yN ?_;refine yM ?_;refine yM ?_
 refine yC ?_
 refine FW.pu C1 ?_
 clear C1
 by_cases hA:asked kerf l (OnB w ht)=0
 ·have hok:=hok hA
  rw[hA]
  obtain⟨hc,hb⟩:=asked_zero hA
  obtain⟨q1,q2,q3,q4⟩:=chk_iff.1 hc
  obtain⟨⟨e1,e2⟩,e3,e4⟩:=hb
  obtain⟨w,rfl⟩:=Int.eq_ofNat_of_zero_le (show 0≤w by omega)
  obtain⟨ht,rfl⟩:=Int.eq_ofNat_of_zero_le (show 0≤ht by omega)
  rw[Int.toNat_natCast,Int.toNat_natCast]at hok
  clear hno hA
  by_cases hlw:rows.length=w
  ·refine yM ?_;refine y3 ?_;refine wE_seq ?_;refine y4 ?_;refine yM ?_;refine yf ?_;refine y3 ?_;refine yX ?_;refine wE_skip ?_;refine kS_n ?_;refine wE_seq ?_;refine y4 ?_;refine yM ?_;refine yD ?_;refine yM ?_
   refine yf ?_;refine y3 ?_;refine yX ?_;refine wE_skip ?_;refine kS_n ?_;refine y4 ?_;refine wO_val a_new ?_;refine y3 ?_;refine wE_seq ?_;refine y4 ?_;refine yM ?_;refine y3 ?_;refine wE_block ?_
   refine WE.gen ?_
   intro hA hAe
   have A1:hA.get h.next=some (.cells [.slice a0 l.length c, .int .i64 kerf] true 1):=by rw[hAe];(simp(disch:=first|omega|(simp only[z1,z2];omega))only[z3,z4,z5,z6,z7,z1,z2, *];exact rfl)
   have A2:hA.get (h.next+1)=some (.cells (ints (grid fun _ _=>0)) true 1):=by rw[hAe,←grid_zero];(simp(disch:=first|omega|(simp only[z1,z2];omega)|(simp only[z1,z2];done)|fail)only[z8,z4,z5,z9,z7,z1,z2, *];done)
   have A0:∀z,z<h.next→h.get z=hA.get z:=fun z hz=>by rw[hAe];simp(disch:=first|omega|(simp only[z1,z2];omega))only[z5,z4]
   have A5:hA.next=h.next+2:=by rw[hAe];rfl
   have A6:hA.log=[]:=by rw[hAe];simp(disch:=first|omega|(simp only[z1,z2];omega))only[Heap.log_wr_new,Heap.log_push];exact hr.log
   have A7:WF hA:=by rw[hAe];exact(hr.wf.push _).push _
   clear hAe hx
   have hG0:∀x y,Gq ht rows (0+1) (0+1) x y=0:=fun x y=>by unfold Gq;rw[if_neg (by omega)]
   refine wE_loop (fun m e ds h'=>∃i:Nat,i≤w∧m=w-i∧e=[(1, .int .i64 w),(2, .int .i64 ht),(3, .slice va rows.length vc),(4, .pointer (some ⟨h.next,0,none⟩)),(11, .pointer (some ⟨h.next+1,0,none⟩)),(12, .int .i64 ((i+1:Nat):Int))]∧ds=[]∧Vt (h.next+1) hA h' (Gq ht rows (i+1) (0+1))∧
    (∀j r,j<i→rows[j]? =some r→r.length=ht)∧∀x y,1≤x→x<i+1→1≤y→y≤ht→inV (vAt rows x y))
    ⟨0,Nat.zero_le _,rfl,rfl,rfl,⟨fun _ _=>rfl,by rw[A2];refine congrArg (fun q=>some (AObj.cells (ints q) true 1)) (grid_congr fun x y _ _=>(hG0 x y).symm),A6,A7,by omega⟩,(fun j r q=>by omega),fun x y q1 q2=>by omega⟩ ?_
   rintro m e ds h1 ⟨i,hi,rfl,rfl,rfl,w1,hL,hV⟩
   have k1:=w1.nx
   by_cases hlt:i<w
   ·obtain⟨r,hri⟩:∃r,rows[i]? =some r:=⟨rows[i]'(by omega),List.getElem?_eq_getElem (by omega)⟩
    obtain⟨b1,o1,vs1,own1,t1,xa,xc,rfl,g1,kb1,f1,s1⟩:=hv.elem hri
    have g1':h1.get b1=some (.cells vs1 own1 t1):=(w1.old b1 (by omega)).trans ((A0 b1 kb1).symm.trans g1)
    have hsub:numOp .sub (.int .i64 ((i+1:Nat):Int)) (.int .i64 1)=some (.int .i64 ((i:Nat):Int)):=m_sub (by rw[wrapA_i64]<;>omega)
    have hrw:=hrl.2 r (List.mem_of_getElem? hri)
    by_cases hrh:r.length=ht
    ·refine wE_seq ?_;refine y4 ?_;refine yM ?_;refine yM ?_;refine yt ?_;refine y3 ?_;refine yY ?_
     refine wE_skip ?_;refine kS_n ?_;refine wE_seq ?_;refine wE_block ?_;refine wE_seq ?_;refine y4 ?_;refine yM ?_;refine yM ?_;refine wO_val (a_num (by exact rfl) (by exact rfl) (by with_reducible assumption)) ?_;refine wO_val (a_iaddrS (by exact rfl) (by exact rfl) (by omega)) ?_
     refine wO_val (a_load (by exact rfl) (by assumption) (by assumption)) ?_;refine yD ?_;refine yM ?_;refine yf ?_;refine y3 ?_
     refine yX ?_;refine wE_skip ?_;refine kS_n ?_;refine y4 ?_;refine yM ?_;refine y3 ?_;refine wE_block ?_
     refine wE_loop (fun m e ds h'=>∃j:Nat,j≤ht∧m=ht-j∧e=[(1, .int .i64 w),(2, .int .i64 ht),(3, .slice (some ⟨b1,o1,none⟩) rows.length vc),(4, .pointer (some ⟨h.next,0,none⟩)),(11, .pointer (some ⟨h.next+1,0,none⟩)),(12, .int .i64 ((i+1:Nat):Int)),(13, .int .i64 ((j+1:Nat):Int))]∧ds=[]∧Vt (h.next+1) hA h' (Gq ht rows (i+1) (j+1))∧
      ∀y,1≤y→y<j+1→inV (vAt rows (i+1) y))
      ⟨0,Nat.zero_le _,rfl,rfl,rfl,w1,fun y q1 q2=>by omega⟩ ?_
     rintro m e ds h2 ⟨j,hj,rfl,rfl,rfl,w2,hJ⟩
     have k2:=w2.nx
     have g2':h2.get b1=some (.cells vs1 own1 t1):=(w2.old b1 (by omega)).trans ((A0 b1 kb1).symm.trans g1)
     by_cases hltj:j<ht
     ·obtain⟨z,hz⟩:∃z,r[j]? =some z:=⟨r[j]'(by omega),List.getElem?_eq_getElem (by omega)⟩
      have hvz:vAt rows (i+1) (j+1)=z:=by
       unfold vAt
       have e0:rows.getD i []=r:=by rw[List.getD_eq_getElem?_getD,hri];rfl
       rw[Nat.add_sub_cancel,Nat.add_sub_cancel,e0,List.getD_eq_getElem?_getD,hz]
       rfl
      rcases(s1 (by intro q;rw[q]at hrh;simp at hrh;omega)).inv with⟨_,_,h0,_⟩|⟨b2,o2,cap2,hv2,s2,hcap2⟩
      ·omega
      cases hv2
      have hzi:(ints r)[j]? =some (.int .i64 z):=by simp[ints,hz]
      obtain⟨vs2,own2,t2,g3,f3⟩:=slice_elem1 s2 hzi
      have kb2:=s2.lt
      have g3':h2.get b2=some (.cells vs2 own2 t2):=(w2.old b2 (by omega)).trans ((A0 b2 kb2).symm.trans g3)
      have hsub2:numOp .sub (.int .i64 ((j+1:Nat):Int)) (.int .i64 1)=some (.int .i64 ((j:Nat):Int)):=m_sub (by rw[wrapA_i64]<;>omega)
      have w3:=w2.wr (base:=h.next) (a:=i+1) (b:=j+1) z (by omega)
      have g2o:=w2.obj
      have d3:=grid_get (f:=updF (Gq ht rows (i+1) (j+1)) (i+1) (j+1) z) (a:=i+1) (b:=j+1) (by omega) (by omega)
      rw[updF_self]at d3
      have hdone:∀x y,x<17→y<17→updF (Gq ht rows (i+1) (j+1)) (i+1) (j+1) z x y=Gq ht rows (i+1) (j+1+1) x y:=fun x y _ _=>by
       unfold updF Gq
       by_cases q:x=i+1∧y=j+1
       ·rw[if_pos q,if_pos (by omega),q.1,q.2,hvz]
       ·rw[if_neg q]
        by_cases q2:(1≤x∧x<i+1∧1≤y∧y≤ht)∨(x=i+1∧1≤y∧y<j+1)
        ·rw[if_pos q2,if_pos (by omega)]
        ·rw[if_neg q2,if_neg (by omega)]
      clear g1 g1' g3 hv hs A0 A1 A2 hG0
      refine wE_seq ?_;refine y4 ?_;refine yM ?_;refine yM ?_;refine yt ?_;refine y3 ?_;refine yY ?_
      refine wE_skip ?_;refine kS_n ?_;refine wE_seq ?_;refine wE_block ?_;refine wE_seq ?_;refine wE_draw ?_;refine qM ?_;refine qM ?_
      refine qM ?_;refine qM ?_;refine wD_quiet rfl rfl rfl (by exact rfl) (by exact rfl) (by exact rfl) (a_num (by exact rfl) (by exact rfl) (by with_reducible assumption)) ?_
      refine wD_quiet rfl rfl rfl (by exact rfl) (by exact rfl) (by exact rfl) (a_iaddrS (by exact rfl) (by exact rfl) (by omega)) ?_;refine wD_quiet rfl rfl rfl (by exact rfl) (by exact rfl) (by exact rfl) (a_load (by exact rfl) (by assumption) (by assumption)) ?_;refine qM ?_
      refine wD_quiet rfl rfl rfl (by exact rfl) (by exact rfl) (by exact rfl) (a_num (by exact rfl) (by exact rfl) (by with_reducible assumption)) ?_;refine wD_quiet rfl rfl rfl (by exact rfl) (by exact rfl) (by exact rfl) (a_iaddrS (by exact rfl) (by exact rfl) (by omega)) ?_
      refine wD_quiet rfl rfl rfl (by exact rfl) (by exact rfl) (by exact rfl) (a_load (by exact rfl) (by assumption) (by assumption)) ?_;refine wD_quiet rfl rfl rfl (by exact rfl) (by exact rfl) (by exact rfl) (a_iaddrA (by exact rfl) (by exact rfl) (by omega)) ?_;refine wD_quiet rfl rfl rfl (by exact rfl) (by exact rfl) (by exact rfl) (a_iaddrA (by exact rfl) (by exact rfl) (by omega)) ?_
      refine wD_store (ws:=ints (grid (updF (Gq ht rows (i+1) (j+1)) (i+1) (j+1) z))) rfl rfl rfl (by exact rfl) (by exact rfl) (by exact rfl) (by assumption) (grid_st (by omega) (by omega)) (grid_put (by omega) _) (by omega) (by omega) (by apply ra_dropC rfl;apply ra_dropC rfl;apply ra_dropC rfl;apply ra_dropC rfl;apply ra_dropC rfl;apply ra_dropC rfl;apply ra_dropC rfl;apply ra_dropC rfl;apply ra_dropC rfl;apply ra_dropC rfl;apply ra_dropC rfl;apply ra_dropC rfl;apply ra_dropC rfl;exact ra_nil) ?_
      refine wD_nil ?_;refine y1 ?_;refine kS_n ?_;refine y4 ?_;refine yM ?_;refine yM ?_;refine wO_val (a_iaddrA (by exact rfl) (by exact rfl) (by omega)) ?_;refine wO_val (a_iaddrA (by exact rfl) (by exact rfl) (by omega)) ?_
      refine wO_val (a_load (by exact rfl) (by(simp(disch:=first|omega|(simp only[z1,z2];omega))only[z3,z4,z5,z6,z7,z1,z2, *];exact rfl)) (by assumption)) ?_
      by_cases hin:0≤z∧z≤1000000000
      ·refine yC ?_
       refine FW.pu (in80T F.p F.toFnsD.toFnsB.f80 (.of w3.wf) hin) ?_
       refine yA ?_;refine y3 ?_;refine yX ?_;refine wE_skip ?_;refine kB_n ?_;refine kS_n ?_;refine wE_region ?_;refine yM ?_
       refine yinc ?_;refine yM ?_;refine y3 ?_
       refine⟨ht-(j+1),by omega,j+1,by omega,rfl,rfl,rfl,w3.congr hdone,fun y q1 q2=> ?_⟩
       by_cases q:y=j+1
       ·subst q;rw[hvz];exact hin
       ·exact hJ y q1 (by omega)
      ·have hno:ok=false:=bool_no hok fun q=>hin (hvz▸q.2.2.1 (i+1) (j+1) (by omega) (by omega) (by omega) (by omega))
       refine yC ?_
       refine FW.pu (in80F F.p F.toFnsD.toFnsB.f80 (.of w3.wf) hin) ?_
       rw[hno]
       refine yA ?_;refine y3 ?_;refine yY ?_;refine y4 ?_;refine yM ?_;refine yM ?_;refine y3 ?_;refine wE_ret ?_;refine kB_r ?_;refine kS_r ?_;refine kS_r ?_;refine kB_r ?_;refine kB_r ?_;refine kS_r ?_;refine kS_r ?_;refine kB_r ?_;refine kS_r ?_
       exact endP_ret w3.log rfl rfl
     ·obtain rfl:j=ht:=by omega
      have w4:Vt (h.next+1) hA h2 (Gq j rows (i+1+1) (0+1)):=w2.congr fun x y _ _=>by
       unfold Gq
       by_cases q2:(1≤x∧x<i+1∧1≤y∧y≤j)∨(x=i+1∧1≤y∧y<j+1)
       ·rw[if_pos q2,if_pos (by omega)]
       ·rw[if_neg q2,if_neg (by omega)]
      refine wE_seq ?_;refine y4 ?_;refine yM ?_;refine yM ?_;refine yf ?_;refine y3 ?_;refine yX ?_
      refine wE_exit ?_;refine kS_e ?_;refine kS_e ?_;refine kB_e ?_;refine kB_n ?_;refine kS_n ?_;refine wE_region ?_;refine yM ?_;refine yinc ?_;refine yM ?_;refine y3 ?_
      refine⟨w-(i+1),by omega,i+1,by omega,rfl,rfl,rfl,w4,fun j' r' q1 q2=> ?_,fun x y q1 q2 q3 q4=> ?_⟩
      ·by_cases q:j'=i
       ·subst q;rw[hri]at q2;cases q2;exact hrh
       ·exact hL j' r' (by omega) q2
      ·by_cases q:x=i+1
       ·subst q;exact hJ y q3 (by omega)
       ·exact hV x y q1 (by omega) q3 q4
    ·have hno:ok=false:=bool_no hok fun q=>hrh (q.2.1 r (List.mem_of_getElem? hri))
     rw[hno]
     have hrh2:((r.length:Nat):Int)≠ht:=by omega
     refine wE_seq ?_;refine y4 ?_;refine yM ?_;refine yM ?_;refine yt ?_;refine y3 ?_;refine yY ?_
     refine wE_skip ?_;refine kS_n ?_;refine wE_seq ?_;refine wE_block ?_;refine wE_seq ?_;refine y4 ?_;refine yM ?_;refine yM ?_;refine wO_val (a_num (by exact rfl) (by exact rfl) (by with_reducible assumption)) ?_;refine wO_val (a_iaddrS (by exact rfl) (by exact rfl) (by omega)) ?_
     refine wO_val (a_load (by exact rfl) (by assumption) (by assumption)) ?_;refine yD ?_;refine yM ?_;refine yt ?_;refine y3 ?_
     refine yY ?_;refine y4 ?_;refine yM ?_;refine yM ?_;refine y3 ?_;refine wE_ret ?_;refine kS_r ?_;refine kB_r ?_;refine kS_r ?_;refine kS_r ?_;refine kB_r ?_
     refine kS_r ?_
     exact endP_ret w1.log rfl rfl
   ·obtain rfl:i=w:=by omega
    have w4:Vt (h.next+1) hA h1 (Gv i ht rows):=w1.congr fun x y _ _=>by
     unfold Gq Gv
     by_cases q2:(1≤x∧x<i+1∧1≤y∧y≤ht)∨(x=i+1∧1≤y∧y<0+1)
     ·rw[if_pos q2,if_pos (by omega)]
     ·rw[if_neg q2,if_neg (by omega)]
    have hrr:∀r∈rows,r.length=ht:=fun r hr=>by
     obtain⟨j,hj,rfl⟩:=List.getElem_of_mem hr
     exact hL j _ (by omega) (List.getElem?_eq_getElem hj)
    have hok':=hok.trans ⟨fun q=>q.2.2.2,fun q=>⟨hlw,hrr,fun x y p1 p2 p3 p4=>hV x y p1 (by omega) p3 p4,q⟩⟩
    have TAIL:=chkB F.p F.f112 (base:=h.next) (p4:=h.next) (p11:=h.next+1) (hB:=h1) (kerf:=kerf) (l:=l) (w:=i) (ht:=ht) (G:=Gv i ht rows) (v3:= .slice va rows.length vc) (by omega) (by omega) ⟨q2.1,by omega⟩ (n:=l.length) (by omega) (fun k hk=>(q3 k hk).2.2.2)
     (fun x y _ _=>by
       unfold Gv
       by_cases q:1≤x∧x≤i∧1≤y∧y≤ht
       ·rw[if_pos q];exact hV x y q.1 (by omega) q.2.2.1 q.2.2.2
       ·rw[if_neg q];omega) w1.wf w1.log ((w1.old _ (by omega)).trans A1) w4.obj (SliceOf.agree hs (by omega) fun b _ _ _ hb _=>(w1.old b (by omega)).trans (A0 b hb).symm) hok'
    refine wE_seq ?_;refine y4 ?_;refine yM ?_;refine yM ?_;refine yf ?_;refine y3 ?_;refine yX ?_
    refine wE_exit ?_;refine kS_e ?_;refine kS_e ?_;refine kB_e ?_;refine kS_n ?_;exact TAIL
  ·have hno:ok=false:=bool_no hok fun q=>hlw q.1
   rw[hno]
   have hlw2:((rows.length:Nat):Int)≠w:=by omega
   refine yM ?_;refine y3 ?_;refine wE_seq ?_;refine y4 ?_;refine yM ?_;refine yf ?_;refine y3 ?_;refine yX ?_;refine wE_skip ?_;refine kS_n ?_;refine wE_seq ?_;refine y4 ?_;refine yM ?_;refine yD ?_;refine yM ?_
   refine yt ?_;refine y3 ?_;refine yY ?_;refine y4 ?_;refine yM ?_;refine yM ?_;refine y3 ?_;refine wE_ret ?_;refine kS_r ?_
   exact endP_ret hr.log rfl rfl
 ·rw[hno hA]
  generalize asked kerf l (OnB w ht)=er at*
  refine yM ?_;refine y3 ?_;refine wE_seq ?_;refine y4 ?_;refine yM ?_;refine yt ?_;refine y3 ?_;refine yY ?_;refine y4 ?_;refine yM ?_;refine yM ?_;refine yM ?_;refine y3 ?_;refine wE_ret ?_;refine kS_r ?_
  exact endP_ret hr.log rfl rfl
end Go.A.Pk
end
section
namespace Go.A.Pk
def fillF(rows:List (List Int))(t:Tab)(xs:List (Nat×Nat)):Tab:=xs.foldl (fun t x=>upd t x (vAt rows x.1 x.2)) t
def fillT(rows:List (List Int))(xs:List (Nat×Nat)):Tab:=fillF rows [] xs
theorem fillT_snoc(rows:List (List Int))(xs:List (Nat×Nat))(x:Nat×Nat):fillT rows (xs++[x])=upd (fillT rows xs) x (vAt rows x.1 x.2):=by simp[fillT,fillF]
theorem look_fillF(rows:List (List Int))(y:Nat×Nat):∀(xs:List (Nat×Nat)) (t:Tab),(y∈xs→look (fillF rows t xs) ((y.1:Int),(y.2:Int))=vAt rows y.1 y.2)∧(y ∉ xs→look (fillF rows t xs) ((y.1:Int),(y.2:Int))=look t ((y.1:Int),(y.2:Int)))
 |[],t=>⟨fun h=>(by cases h),fun _=>rfl⟩
 |x::xs,t=>by
  have ih:=look_fillF rows y xs (upd t x (vAt rows x.1 x.2))
  have e:fillF rows t (x::xs)=fillF rows (upd t x (vAt rows x.1 x.2)) xs:=rfl
  rw[e]
  refine⟨fun h=> ?_,fun h=> ?_⟩
  ·by_cases hm:y∈xs
   ·exact ih.1 hm
   ·rcases List.mem_cons.1 h with rfl|h
    ·rw[ih.2 hm,look_upd,if_pos rfl]
    ·exact absurd h hm
  ·rw[ih.2 fun q=>h (List.mem_cons_of_mem _ q),look_upd,if_neg]
   intro q
   refine h (List.mem_cons.2 (.inl ?_))
   have q1:=congrArg Prod.fst q
   have q2:=congrArg Prod.snd q
   simp only at q1 q2
   exact Prod.ext (by omega) (by omega)
theorem look_fillF_neg(rows:List (List Int)){z:Int×Int}(hz:z.1<1∨z.2<1):∀(xs:List (Nat×Nat)) (t:Tab),(∀x∈xs,1≤x.1∧1≤x.2)→look (fillF rows t xs) z=look t z
 |[],_,_=>rfl
 |x::xs,t,h=>by
  have hx:=h x (List.mem_cons_self ..)
  show look (fillF rows (upd t x (vAt rows x.1 x.2)) xs) z=_
  rw[look_fillF_neg rows hz xs _ fun q hq=>h q (List.mem_cons_of_mem _ hq),look_upd,if_neg]
  intro q
  rw[q]at hz
  simp only at hz
  omega
theorem okL_iff{ws:List Int}{v:Int}:∀{xs:List (Nat×Nat)} {o:Bool},okL ws v xs o=true↔o=true∧∀x∈xs,ws.getD x.2 0≤v
 |[],o=>by simp[okL]
 |x::xs,o=>by
  show okL ws v xs (o&&decide (ws.getD x.2 0≤v))=true↔_
  rw[okL_iff]
  simp only[Bool.and_eq_true,decide_eq_true_eq,List.forall_mem_cons]
  exact and_assoc
theorem okC_iff{kerf:Int}{t:Tab}{v:Int}{a b:Nat}:∀{xs:List (Nat×Nat)} {o:Bool},okC kerf t v a b xs o=true↔o=true∧∀x∈xs,look t (oneB x a b)+look t (twoB kerf x a b)≤v
 |[],o=>by simp[okC]
 |x::xs,o=>by
  show okC kerf t v a b xs (o&&decide (look t (oneB x a b)+look t (twoB kerf x a b)≤v))=true↔_
  rw[okC_iff]
  simp only[Bool.and_eq_true,decide_eq_true_eq,List.forall_mem_cons]
  exact and_assoc
theorem bok_iff{kerf:Int}{ws:List Int}{kl:List Kd}{t:Tab}{a b:Nat}{v:Int}:bok kerf ws kl t a b v=true↔inV v∧(∀x∈leavesL a b kl 0,ws.getD x.2 0≤v)∧∀x∈cutsL a b,look (upd t (a,b) v) (oneB x a b)+look (upd t (a,b) v) (twoB kerf x a b)≤v:=by
 unfold bok
 rw[okC_iff,okL_iff,decide_eq_true_eq]
 exact and_assoc
theorem leafAt_plank{k:Kd}{i a b:Nat}{x:Nat×Nat}(h:x∈leafAt k i a b):plankB k a b=true:=by
 unfold leafAt at h
 unfold plankB
 rw[decide_eq_true_iff]
 simp only[List.mem_append]at h
 rcases h with h|h<;>split at h
 ·rename_i q;exact .inl ⟨q.1.symm,q.2.symm⟩
 ·cases h
 ·rename_i q;exact .inr ⟨q.1,q.2.1.symm,q.2.2.symm⟩
 ·cases h
theorem leaf_ok{kl:List Kd}{a b:Nat}{v:Int}:(∀x∈leavesL a b kl 0,(wsP kl).getD x.2 0≤v)↔ ∀k∈kl,plankB k a b=true→k.worth≤v:=by
 have hg:∀{i:Nat} {k:Kd},kl[i]? =some k→(wsP kl).getD i 0=k.worth:=fun h=>by simp[wsP,List.getD_eq_getElem?_getD,h]
 constructor
 ·intro h k hk hp
  obtain⟨i,hi,rfl⟩:=List.getElem_of_mem hk
  have hki:kl[i]? =some kl[i]:=List.getElem?_eq_getElem hi
  unfold plankB at hp
  rw[decide_eq_true_iff]at hp
  rcases hp with q|q
  ·have:=h (1,i) (leaves_mem hki _ (by unfold leafAt;rw[if_pos ⟨q.1.symm,q.2.symm⟩];exact List.mem_append.2 (.inl (List.mem_singleton.2 rfl))))
   rw[hg hki]at this;exact this
  ·have:=h (2,i) (leaves_mem hki _ (by unfold leafAt;rw[if_pos (c:=kl[i].turn=true∧(a:Int)=kl[i].h∧(b:Int)=kl[i].w) ⟨q.1,q.2.1.symm,q.2.2.symm⟩];exact List.mem_append.2 (.inr (List.mem_singleton.2 rfl))))
   rw[hg hki]at this;exact this
 ·intro h x hx
  obtain⟨_,k,hk,h3⟩:=leaves_at hx
  rw[Nat.sub_zero]at hk
  rw[hg hk]
  exact h k (List.mem_of_getElem? hk) (leafAt_plank h3)
theorem before_mem{ht i j:Nat}(hj:j≤ht){x:Nat×Nat}:x∈boardsL i ht++row (i+1) j↔(1≤x.1∧x.1≤i∧1≤x.2∧x.2≤ht)∨(x.1=i+1∧1≤x.2∧x.2≤j):=by
 rw[List.mem_append]
 constructor
 ·rintro(h|h)
  ·exact .inl (boards_of h)
  ·exact .inr (row_of h)
 ·rintro(h|h)
  ·obtain⟨a,b⟩:=x
   dsimp only at h
   obtain⟨a,rfl⟩:∃c,a=c+1:=⟨a-1,by omega⟩
   obtain⟨b,rfl⟩:∃c,b=c+1:=⟨b-1,by omega⟩
   exact .inl (boardsL_mem (by omega) (by omega))
  ·obtain⟨a,b⟩:=x
   dsimp only at h
   obtain⟨rfl,h1,h2⟩:=h
   obtain⟨b,rfl⟩:∃c,b=c+1:=⟨b-1,by omega⟩
   exact .inr (row_mem (by omega))
def Rok(kerf:Int)(kl:List Kd)(rows:List (List Int))(done:List (Nat×Nat)):Prop:=∀p x s,done=p++x::s→bok kerf (wsP kl) kl (fillT rows p) x.1 x.2 (vAt rows x.1 x.2)=true
theorem Rok_nil(kerf:Int)(kl:List Kd)(rows:List (List Int)):Rok kerf kl rows []:=fun p x s h=>by cases p<;>cases h
theorem Rok_snoc{kerf:Int}{kl:List Kd}{rows:List (List Int)}{done:List (Nat×Nat)}{x:Nat×Nat}(h:Rok kerf kl rows done)(hx:bok kerf (wsP kl) kl (fillT rows done) x.1 x.2 (vAt rows x.1 x.2)=true):Rok kerf kl rows (done++[x]):=by
 intro p y s e
 rcases List.eq_nil_or_concat s with rfl|⟨s',z,rfl⟩
 ·have e2:done++[x]=p++[y]:=e
  obtain⟨rfl,e3⟩:=List.append_inj' e2 rfl
  cases e3
  exact hx
 ·rw[List.concat_eq_append,←List.cons_append,←List.append_assoc]at e
  obtain⟨rfl,_⟩:=List.append_inj' e rfl
  exact h p y s' rfl
theorem Rok_in{kerf:Int}{kl:List Kd}{rows:List (List Int)}{done:List (Nat×Nat)}(h:Rok kerf kl rows done){x:Nat×Nat}(hx:x∈done):inV (vAt rows x.1 x.2):=by
 obtain⟨p,s,rfl⟩:=List.append_of_mem hx
 exact(bok_iff.1 (h p x s rfl)).1
theorem look_in{kerf:Int}{kl:List Kd}{rows:List (List Int)}{done:List (Nat×Nat)}(h:Rok kerf kl rows done)(hd:∀x∈done,1≤x.1∧1≤x.2)(z:Int×Int):inV (look (fillT rows done) z):=by
 have h0:look ([]:Tab) z=0:=rfl
 by_cases hz:z.1<1∨z.2<1
 ·unfold fillT
  rw[look_fillF_neg rows hz _ _ hd,h0]
  exact⟨by omega,by omega⟩
 ·obtain⟨a,ha⟩:=Int.eq_ofNat_of_zero_le (show 0≤z.1 by omega)
  obtain⟨b,hb⟩:=Int.eq_ofNat_of_zero_le (show 0≤z.2 by omega)
  have e:z=((a:Int),(b:Int)):=Prod.ext ha hb
  have:=look_fillF rows (a,b) done []
  by_cases hm:(a,b)∈done
  ·unfold fillT
   rw[e,this.1 hm]
   exact Rok_in h hm
  ·unfold fillT
   rw[e,this.2 hm]
   exact⟨by show(0:Int)≤0;omega,by show(0:Int)≤_;omega⟩
theorem cut_ne{kerf:Int}(hk:0≤kerf){a b:Nat}{x:Nat×Nat}(hx:x∈cutsL a b):oneB x a b≠((a:Int),(b:Int))∧twoB kerf x a b≠((a:Int),(b:Int)):=by
 have:=cut_lt hk hx
 refine⟨fun q=> ?_,fun q=> ?_⟩<;>(rw[q]at this;simp[sz]at this)
theorem look_upd_cut{kerf:Int}(hk:0≤kerf){a b:Nat}{x:Nat×Nat}(hx:x∈cutsL a b)(t:Tab)(v:Int):look (upd t (a,b) v) (oneB x a b)=look t (oneB x a b)∧look (upd t (a,b) v) (twoB kerf x a b)=look t (twoB kerf x a b):=by
 obtain⟨h1,h2⟩:=cut_ne hk hx
 rw[look_upd,look_upd,if_neg h1,if_neg h2]
 exact⟨rfl,rfl⟩
theorem mx_nat(z:Int):∃r:Nat,mx 0 z=r∧((r:Int)=z∨z<1∧r=0):=by
 unfold mx
 by_cases h:z>0
 ·rw[if_pos h]
  obtain⟨r,hr⟩:=Int.eq_ofNat_of_zero_le (show 0≤z by omega)
  exact⟨r,hr, .inl hr.symm⟩
 ·rw[if_neg h]
  exact⟨0,rfl, .inr ⟨by omega,rfl⟩⟩
theorem Gv_zero{w ht:Nat}{rows:List (List Int)}{x y:Nat}(h:x=0∨y=0):Gv w ht rows x y=0:=by unfold Gv;rw[if_neg (by omega)]
theorem valOk_bok{kerf:Int}(hk:0≤kerf){l:List Kd}{w ht:Nat}{rows:List (List Int)}(h:valOk kerf l w ht rows){done:List (Nat×Nat)}(hd:∀x∈done,x∈boardsL w ht){x:Nat×Nat}(hx:x∈boardsL w ht):bok kerf (wsP l) l (fillT rows done) x.1 x.2 (vAt rows x.1 x.2)=true:=by
 obtain⟨a,b⟩:=x
 have hb:=boards_of hx
 dsimp only at hb⊢
 obtain⟨h1,h2,h3,h4⟩:=h
 have h0:∀x y,0≤Gv w ht rows x y:=fun x y=>by
  unfold Gv
  by_cases q:1≤x∧x≤w∧1≤y∧y≤ht
  ·rw[if_pos q];exact(h3 x y q.1 q.2.1 q.2.2.1 q.2.2.2).1
  ·rw[if_neg q];exact Int.le_refl _
 have hdn:∀x∈done,1≤x.1∧1≤x.2:=fun x hx=>by have:=boards_of (hd x hx);omega
 have hlk:∀x y:Nat,look (fillT rows done) ((x:Int),(y:Int))≤Gv w ht rows x y:=fun x y=>by
  have q:=look_fillF rows (x,y) done []
  by_cases hm:(x,y)∈done
  ·have hb':=boards_of (hd _ hm)
   unfold fillT
   rw[q.1 hm]
   unfold Gv
   dsimp only at hb'⊢
   rw[if_pos hb']
   exact Int.le_refl _
  ·unfold fillT
   rw[q.2 hm]
   exact h0 x y
 have hout:∀z:Int×Int,z.1<1∨z.2<1→look (fillT rows done) z=0:=fun z hz=>look_fillF_neg rows hz _ _ hdn
 have hG:Gv w ht rows a b=vAt rows a b:=by unfold Gv;rw[if_pos hb]
 obtain⟨o1,o2,o3⟩:=h4 a b hb.1 hb.2.1 hb.2.2.1 hb.2.2.2
 rw[hG]at o1 o2 o3
 refine bok_iff.2 ⟨h3 a b hb.1 hb.2.1 hb.2.2.1 hb.2.2.2,leaf_ok.2 o1,fun x hx=> ?_⟩
 obtain⟨e1,e2⟩:=look_upd_cut hk hx (fillT rows done) (vAt rows a b)
 rw[e1,e2]
 have hc:=cuts_of hx
 obtain⟨c,n⟩:=x
 dsimp only at hc
 rcases hc with⟨rfl,q1,q2⟩|⟨rfl,q1,q2⟩
 ·obtain⟨r,hr,hr2⟩:=mx_nat ((a:Int)-n-kerf)
  have:=o2 n q1 (by omega) r hr
  have g1:=hlk n b
  show look (fillT rows done) ((n:Int),(b:Int))+look (fillT rows done) ((a:Int)-n-kerf,(b:Int))≤_
  rcases hr2 with hr2|⟨hr2,rfl⟩
  ·have g2:=hlk r b
   rw[←hr2];omega
  ·rw[hout ((a:Int)-n-kerf,(b:Int)) (.inl hr2)]
   rw[Gv_zero (.inl rfl)]at this
   omega
 ·obtain⟨r,hr,hr2⟩:=mx_nat ((b:Int)-n-kerf)
  have:=o3 n q1 (by omega) r hr
  have g1:=hlk a n
  show look (fillT rows done) ((a:Int),(n:Int))+look (fillT rows done) ((a:Int),(b:Int)-n-kerf)≤_
  rcases hr2 with hr2|⟨hr2,rfl⟩
  ·have g2:=hlk a r
   rw[←hr2];omega
  ·rw[hout ((a:Int),(b:Int)-n-kerf) (.inr hr2)]
   rw[Gv_zero (.inr rfl)]at this
   omega
theorem Rok_valOk{kerf:Int}(hk:0≤kerf){l:List Kd}{w ht:Nat}{rows:List (List Int)}(h1:rows.length=w)(h2:∀r∈rows,r.length=ht)(h:Rok kerf l rows (boardsL w ht)):valOk kerf l w ht rows:=by
 refine⟨h1,h2,fun x y q1 q2 q3 q4=> ?_,fun a b q1 q2 q3 q4=> ?_⟩
 ·obtain⟨x,rfl⟩:∃c,x=c+1:=⟨x-1,by omega⟩
  obtain⟨y,rfl⟩:∃c,y=c+1:=⟨y-1,by omega⟩
  exact Rok_in h (boardsL_mem (w:=w) (h:=ht) (i:=x) (j:=y) (by omega) (by omega))
 ·obtain⟨i,rfl⟩:∃c,a=c+1:=⟨a-1,by omega⟩
  obtain⟨j,rfl⟩:∃c,b=c+1:=⟨b-1,by omega⟩
  obtain⟨s,hs⟩:=boards_split (ht:=ht) (i:=i) (j:=j) (by omega) (w:=w) (by omega)
  obtain⟨p1,p2,p3⟩:=bok_iff.1 (h _ _ _ hs)
  dsimp only at p1 p2 p3
  have hdn:∀x∈boardsL i ht++row (i+1) j,1≤x.1∧1≤x.2:=fun x hx=>by have:=(before_mem (by omega)).1 hx;omega
  have hout:∀z:Int×Int,z.1<1∨z.2<1→look (fillT rows (boardsL i ht++row (i+1) j)) z=0:=fun z hz=>look_fillF_neg rows hz _ _ hdn
  have hlk:∀x y:Nat,(1≤x∧x≤i∧1≤y∧y≤ht)∨(x=i+1∧1≤y∧y≤j)→look (fillT rows (boardsL i ht++row (i+1) j)) ((x:Int),(y:Int))=Gv w ht rows x y:=fun x y q=>by
   have e:=(look_fillF rows (x,y) (boardsL i ht++row (i+1) j) []).1 ((before_mem (by omega)).2 q)
   unfold fillT
   rw[e]
   unfold Gv
   rw[if_pos (by omega)]
  have hG:Gv w ht rows (i+1) (j+1)=vAt rows (i+1) (j+1):=by unfold Gv;rw[if_pos (by omega)]
  refine⟨by rw[hG];exact leaf_ok.1 p2,fun n n1 n2 r hr=> ?_,fun n n1 n2 r hr=> ?_⟩
  ·have hx:(3,n)∈cutsL (i+1) (j+1):=by
    obtain⟨n,rfl⟩:∃c,n=c+1:=⟨n-1,by omega⟩
    exact List.mem_append.2 (.inl (row_mem (by omega)))
   have q:=p3 _ hx
   obtain⟨e1,e2⟩:=look_upd_cut hk hx (fillT rows (boardsL i ht++row (i+1) j)) (vAt rows (i+1) (j+1))
   rw[e1,e2]at q
   rw[hG]
   have q':look (fillT rows (boardsL i ht++row (i+1) j)) ((n:Int),((j+1:Nat):Int))+look (fillT rows (boardsL i ht++row (i+1) j)) (((i+1:Nat):Int)-n-kerf,((j+1:Nat):Int))≤vAt rows (i+1) (j+1):=q
   rw[hlk n (j+1) (by omega)]at q'
   obtain⟨r',hr',hr2⟩:=mx_nat (((i+1:Nat):Int)-n-kerf)
   obtain rfl:r=r':=by omega
   rcases hr2 with hr2|⟨hr2,rfl⟩
   ·by_cases hz:r=0
    ·subst hz
     rw[hout _ (.inl (by show((i+1:Nat):Int)-n-kerf<1;omega))]at q'
     rw[Gv_zero (x:=0) (.inl rfl)]
     exact q'
    ·rw[←hr2,hlk r (j+1) (by omega)]at q'
     exact q'
   ·rw[hout _ (.inl hr2)]at q'
    rw[Gv_zero (x:=0) (.inl rfl)]
    exact q'
  ·have hx:(4,n)∈cutsL (i+1) (j+1):=by
    obtain⟨n,rfl⟩:∃c,n=c+1:=⟨n-1,by omega⟩
    exact List.mem_append.2 (.inr (row_mem (by omega)))
   have q:=p3 _ hx
   obtain⟨e1,e2⟩:=look_upd_cut hk hx (fillT rows (boardsL i ht++row (i+1) j)) (vAt rows (i+1) (j+1))
   rw[e1,e2]at q
   rw[hG]
   have q':look (fillT rows (boardsL i ht++row (i+1) j)) (((i+1:Nat):Int),(n:Int))+look (fillT rows (boardsL i ht++row (i+1) j)) (((i+1:Nat):Int),((j+1:Nat):Int)-n-kerf)≤vAt rows (i+1) (j+1):=q
   rw[hlk (i+1) n (by omega)]at q'
   obtain⟨r',hr',hr2⟩:=mx_nat (((j+1:Nat):Int)-n-kerf)
   obtain rfl:r=r':=by omega
   rcases hr2 with hr2|⟨hr2,rfl⟩
   ·by_cases hz:r=0
    ·subst hz
     rw[hout _ (.inr (by show((j+1:Nat):Int)-n-kerf<1;omega))]at q'
     rw[Gv_zero (y:=0) (.inr rfl)]
     exact q'
    ·rw[←hr2,hlk (i+1) r (by omega)]at q'
     exact q'
   ·rw[hout _ (.inr hr2)]at q'
    rw[Gv_zero (y:=0) (.inr rfl)]
    exact q'
end Go.A.Pk
end
section
set_option maxRecDepth 100000
namespace Go.A.Pk
variable {T:Nat→Option AFunc}
structure FnsCV (T:Nat→Option AFunc):Prop extends FnsE T,FnsV T where
 f76:T 76=some f76
 f110:T 110=some f110
 f111:T 111=some f111
 f146:T 146=some f146
 f56:T 56=some f56
structure VI (kerf:Int) (l:List Kd) (rows:List (List Int)) (bs:List (Nat×Nat)) (mb lb:Nat) (h1:Heap) (L:AObj) (done:List (Nat×Nat)) (H:Heap):Prop where
 old:∀z,z<lb→z≠mb→H.get z=h1.get z
 tab:H.get mb=some (.map (ents (fillT rows done)))
 loop:H.get lb=some L
 nx:lb<H.next
 ok:Rok kerf l rows done
 mem:∀x∈done,x∈bs
set_option maxHeartbeats 32000000 in
theorem check56(F:FnsCV T){h:Heap}(hr:Rdy h){a0:Option Addr}{n c:Nat}{l:List Kd}(hs:SliceOf h 5 (.slice a0 n c) n (kcs l))(kerf:Int)(hn:n<1000000)(w ht:Int){v:Value}{rows:List (List Int)}(hv:ListsW h v rows)(hrl:rows.length<1000000)
 {ok:Bool}(hok:asked kerf l (OnB w ht)=0→(ok=true↔valOk kerf l w.toNat ht.toNat rows))(hno:asked kerf l (OnB w ht)≠0→ok=false):
 Pu T 56 [.agg #[.slice a0 n c, .int .i64 kerf], .int .i64 w, .int .i64 ht,v] h (.tuple #[.bool ok, .int .i64 (asked kerf l (OnB w ht))]):=by
 obtain⟨va,vc,rfl⟩:=hv.form
 refine .of F.toFnsV.p F.f56 hr rfl ?_
 obtain rfl:n=l.length:=by have:=hs.len;rw[kcs_length]at this;omega
 have hx:Ext h ((((((h.push (.cells [.slice a0 l.length c, .int .i64 kerf] true 1)).push (.cells [.int .i64 ht] true 1)).push (.cells [.slice va rows.length vc] true 1)).push (.cells [.bool false] true 1)).push (.cells [.int .i64 0] true 1)).push (.cells [.pointer none] true 1)):=((((((Ext.refl h).push _).push _).push _).push _).push _).push _
 refine y4 ?_;refine yB ?_;refine yB ?_;refine yB ?_;refine wO_val a_new ?_;refine wO_val a_new ?_;refine y3 ?_
 refine wE_seq ?_;refine wE_draw ?_;refine qN ?_
 refine qM ?_
 refine qL ?_
 refine wD_new rfl rfl rfl (by exact rfl) (by exact rfl) (by exact rfl) a_new (by refine rs_cons (rq_quiet rfl (a_load (by exact rfl) (by(simp(disch:=first|omega|(simp only[z1,z2];omega)|(simp only[z1,z2];done)|fail)only[z8,z4,z5,z9,z7,z1,z2, *];exact rfl)) (by exact rfl)) (by exact sv_int _ _)) ?_;refine rs_cons (rq_quiet rfl (a_mov (by exact rfl)) (by exact sv_int _ _)) ?_;refine rs_cons (rq_quiet rfl (a_loadN (by exact rfl) (by(simp(disch:=first|omega|(simp only[z1,z2];omega))only[z3,z4,z5,z6,z7,z1,z2, *];exact rfl)) (by exact rfl) (by exact rfl)) (by exact sv_agg (by refine sl_cons (s1_slice _ _ _) ?_;refine sl_cons (s1_int _ _) ?_;exact sl_nil))) ?_;exact rs_nil) ?_
 refine qC ?_
 refine FW.puD (board76a F.toFnsV.p F.f76 F.toFnsE.toFnsA.f77 (.of (hx.wf hr.wf)) w ht) (by apply ra_keepC rfl (rq_made rfl) (by rfl);apply ra_dropC rfl;apply ra_dropC rfl;apply ra_keepC rfl (rq_quiet rfl (a_loadN (by exact rfl) (by(simp(disch:=first|omega|(simp only[z1,z2];omega))only[z3,z4,z5,z6,z7,z1,z2, *];exact rfl)) (by exact rfl) (by exact rfl)) (by exact sv_agg (by refine sl_cons (s1_slice _ _ _) ?_;refine sl_cons (s1_int _ _) ?_;exact sl_nil))) rfl;exact ra_nil) ?_
 refine wD_new rfl rfl rfl (by exact rfl) (by exact rfl) (by exact rfl) (a_bslice (by exact rfl) (by exact rfl)) (by refine rs_cons (rq_made rfl) ?_;refine rs_cons (rq_quiet rfl (a_loadN (by exact rfl) (by(simp(disch:=first|omega|(simp only[z1,z2];omega))only[z3,z4,z5,z6,z7,z1,z2, *];exact rfl)) (by exact rfl) (by exact rfl)) (by exact sv_agg (by refine sl_cons (s1_slice _ _ _) ?_;refine sl_cons (s1_int _ _) ?_;exact sl_nil))) ?_;exact rs_nil) ?_
 refine qC ?_
 have hx2:=hx.push (.cells [.bool (decide (OnB w ht))] true 1)
 refine FW.alD (startedO75 F.toFnsE (.of (hx2.wf hr.wf)) ((hs.ext hx2).log []) kerf hn (bl:=[decide (OnB w ht)]) (m:=1) (.mem ⟨Nat.lt_succ_self _,⟨_,_,_,z3 _ _,rfl⟩,rfl⟩ (Nat.le_refl _)) (by omega)) (fun v h' m q=>StartO.logs v h' m q) ?_
 rintro _ h1 hx3 ⟨p,rfl,hst⟩
 rw[startE_one]at hst
 rw[startE_one]
 refine⟨_,by apply ra_dropC rfl;apply ra_keepC rfl (rq_made rfl) (by rfl);apply ra_dropC rfl;exact ra_nil,?_⟩
 have w1:WF h1:=hx3.wf (hx2.wf hr.wf)
 have hx13:Ext h h1:=hx2.trans hx3
 have e4:h1.get h.next=some (.cells [.slice a0 l.length c, .int .i64 kerf] true 1):=by rw[hx3.old _ (by(simp only[z1,z2];omega))];(simp(disch:=first|omega|(simp only[z1,z2];omega))only[z3,z4,z5,z6,z7,z1,z2, *];exact rfl)
 have e6:h1.get (h.next+1)=some (.cells [.int .i64 ht] true 1):=by rw[hx3.old _ (by(simp only[z1,z2];omega))];(simp(disch:=first|omega|(simp only[z1,z2];omega)|(simp only[z1,z2];done)|fail)only[z8,z4,z5,z9,z7,z1,z2, *];exact rfl)
 have e7:h1.get (h.next+2)=some (.cells [.slice va rows.length vc] true 1):=by rw[hx3.old _ (by(simp only[z1,z2];omega))];(simp(disch:=first|omega|(simp only[z1,z2];omega)|(simp only[z1,z2];done)|fail)only[z8,z4,z5,z9,z7,z1,z2, *];exact rfl)
 have e8:h1.get (h.next+3)=some (.cells [.bool false] true 1):=by rw[hx3.old _ (by(simp only[z1,z2];omega))];(simp(disch:=first|omega|(simp only[z1,z2];omega)|(simp only[z1,z2];done)|fail)only[z8,z4,z5,z9,z7,z1,z2, *];done)
 have e9:h1.get (h.next+4)=some (.cells [.int .i64 0] true 1):=by rw[hx3.old _ (by(simp only[z1,z2];omega))];(simp(disch:=first|omega|(simp only[z1,z2];omega)|(simp only[z1,z2];done)|fail)only[z8,z4,z5,z9,z7,z1,z2, *];done)
 have e10:h1.get (h.next+5)=some (.cells [.pointer none] true 1):=by rw[hx3.old _ (by(simp only[z1,z2];omega))];(simp(disch:=first|omega|(simp only[z1,z2];omega)|(simp only[z1,z2];done)|fail)only[z8,z4,z5,z9,z7,z1,z2, *];done)
 have eN:h.next+7≤h1.next:=hx3.next
 have hlog1:h1.log=[]:=hx13.log.trans hr.log
 clear hx hx2 hx3
 by_cases ha:asked kerf l (OnB w ht)=0
 ·obtain⟨wv,rfl,gb,hwb⟩:=hst ha
  replace gb:h1.get (h.next+8)=_:=gb
  replace hwb:WslB (h.next+9) h1 wv (wsP l):=hwb
  clear hst
  have hok:=hok ha
  obtain⟨hc,hb⟩:=asked_zero ha
  obtain⟨q1,q2,q3,q4⟩:=chk_iff.1 hc
  obtain⟨⟨v1,v2⟩,v3,v4⟩:=hb
  obtain⟨w,rfl⟩:=Int.eq_ofNat_of_zero_le (show 0≤w by omega)
  obtain⟨ht,rfl⟩:=Int.eq_ofNat_of_zero_le (show 0≤ht by omega)
  rw[Int.toNat_natCast,Int.toNat_natCast]at hok
  have kb:=WF.get_lt w1 gb
  rw[ha]
  clear hno ha
  by_cases hlw:rows.length=w
  ·subst hlw
   refine qM ?_;refine qE ?_;refine qE ?_
   refine wD_store rfl rfl rfl (by exact rfl) (by exact rfl) (by exact rfl) (by assumption) (by exact rfl) (by exact rfl) (by(simp only[z1,z2];omega)) (by(simp only[z1,z2];omega)) (by apply ra_keepC rfl (rq_quiet rfl (a_extract (by exact rfl) (by exact rfl)) (by exact sv_int _ _)) rfl;apply ra_dropC rfl;apply ra_dropC rfl;apply ra_dropC rfl;exact ra_nil) ?_
   refine qM ?_;refine wD_nil ?_;refine y1 ?_;refine kS_n ?_;refine wE_seq ?_;refine y4 ?_;refine yM ?_
   refine yf ?_;refine y3 ?_;refine yX ?_;refine wE_skip ?_;refine kS_n ?_;refine wE_seq ?_;refine y4 ?_
   refine yL ?_;refine yD ?_;refine yM ?_
   refine yf ?_;refine yM ?_;refine yO ?_
   refine yL ?_;refine yO ?_;refine wO_val (a_mkFunc (by exact rfl) (by exact rfl)) ?_
   refine yO ?_
   refine WO.gen ?_
   intro hA hAe
   have A0:∀z,z≠h.next+5→hA.get z=h1.get z:=fun z hz=>by rw[hAe];exact z5 hz
   have A10:hA.get (h.next+5)=some (.cells [.pointer (some ⟨h.next+8,0,none⟩)] true 1):=by rw[hAe];exact Heap.get_wr_new e10
   have A5:hA.next=h1.next:=by rw[hAe];rfl
   have A6:hA.log=[]:=by rw[hAe];exact(Heap.log_wr_new (show h.next≤h.next+5 by omega)).trans hlog1
   have A7:WF hA:=by rw[hAe];exact w1.as (AS.wr _ _ _ _)
   have Aold:∀z,z<h.next→hA.get z=h.get z:=fun z hz=>(A0 z (by omega)).trans (hx13.old z hz)
   have a6:=(A0 _ (by omega)).trans e6
   have a7:=(A0 _ (by omega)).trans e7
   have a8:=(A0 _ (by omega)).trans e8
   have a9:=(A0 _ (by omega)).trans e9
   have ab:=(A0 (h.next+8) (by omega)).trans gb
   have hvA:ListsW hA (.slice va rows.length vc) rows:=hv.agree (by rw[A5];exact hx13.next) fun b _ _ _ hb _=>Aold b hb
   have hsA:SliceOf hA 5 (.slice a0 l.length c) l.length (kcs l):=SliceOf.agree hs (by rw[A5];exact hx13.next) fun b _ _ _ hb _=>Aold b hb
   have hwA:WslB (h.next+9) hA wv (wsP l):=hwb.keep (by omega) fun z hz _=>A0 z (by omega)
   obtain⟨wa,wc,rfl,hwS⟩:=hwA.slice (by simp[wsP];omega)
   have hlw3:(wsP l).length=l.length:=by simp[wsP]
   rw[hlw3]at hwS ab
   obtain⟨bad,CB,hbad⟩:=contains110 F.toFnsV.p F.f110 F.f146 F.f111 (h:={hA with log:=[]}) (.of A7) (q:=h.next+1) (ht:=(ht:Int)) (hvA.log []) hrl a6
   clear e4 e6 e7 e8 e9 e10 hAe hwb hwA hs hv A0 Aold
   cases bad with
   |true=>
    have hno:ok=false:=bool_no hok fun q=>by
     obtain⟨r,hr1,hr2⟩:=hbad.1 rfl
     have:=q.2.1 r hr1
     omega
    rw[hno]
    skip
    refine yC ?_
    refine FW.pu CB ?_
    refine yU ?_;refine y3 ?_;refine yY ?_;refine y4 ?_;refine yS ?_
    refine yS ?_;refine y3 ?_;refine wE_ret ?_;refine kS_r ?_
    exact endP_ret (by simp(disch:=first|omega|(simp only[z1,z2];omega))only[Heap.log_wr_new,Heap.log_push];assumption) (res_cell (b:=h.next+3) rfl (by(simp(disch:=first|omega|(simp only[z1,z2];omega))only[z3,z4,z5,z6,z7,z1,z2, *];exact rfl)) rfl (res_cell (b:=h.next+4) rfl (by(simp(disch:=first|omega|(simp only[z1,z2];omega))only[z3,z4,z5,z6,z7,z1,z2, *];exact rfl)) rfl res_nil)) rfl
   |false=>
    have hlen:∀r∈rows,r.length=ht:=fun r hr=>by
     by_cases q:(r.length:Int)≠ht
     ·exact absurd (hbad.2 ⟨r,hr,q⟩) (by simp)
     ·omega
    skip
    refine yC ?_
    refine FW.pu CB ?_
    refine yU ?_;refine y3 ?_;refine yX ?_;refine wE_skip ?_;refine kS_n ?_;refine y4 ?_
    refine wO_val a_mkMap ?_
    refine wO_val a_new ?_;refine yS ?_
    refine y3 ?_;refine wE_seq ?_;refine y4 ?_;refine yM ?_
    refine yL ?_
    refine WO.gen ?_
    intro hB hBe
    have B0:∀z,z<hA.next→hB.get z=hA.get z:=fun z hz=>by rw[hBe];simp(disch:=first|omega|(simp only[z1,z2];omega))only[z5,z4]
    have B3:hB.get hA.next=some (.map []):=by rw[hBe];(simp(disch:=first|omega|(simp only[z1,z2];omega)|(simp only[z1,z2];done)|fail)only[z8,z4,z5,z9,z7,z1,z2, *];done)
    have B4:hB.get (hA.next+1)=some (.cells [.map (some hA.next)] true 1):=by rw[hBe];(simp(disch:=first|omega|(simp only[z1,z2];omega)|(simp only[z1,z2];done)|fail)only[z8,z4,z5,z9,z7,z1,z2, *];exact rfl)
    have B5:hB.next=hA.next+2:=by rw[hBe];rfl
    have B6:hB.log=[]:=by rw[hBe];simp(disch:=first|omega|(simp only[z1,z2];omega))only[Heap.log_wr_new,Heap.log_push];assumption
    have B7:WF hB:=by rw[hBe];exact((A7.push _).push _).as (AS.wr _ _ _ _)
    have b6:=(B0 _ (by omega)).trans a6
    clear hBe CB
    refine yC ?_
    refine FW.al (boards94 F.toFnsV.p F.toFnsV.f94 (.of B7) (rows.length:Int) (ht:Int)) (fun _ _ _ q=>q) ?_
    rintro _ h2 hx2 ⟨rfl,hn2,gp,gx⟩
    have eB:({hB with log:=[]}:Heap).next=hA.next+2:=B5
    rw[eB]at hn2 gp gx
    rw[eB]
    have hn2':h2.next=hA.next+4:=hn2
    have C0:∀z,z<hA.next→h2.get z=hA.get z:=fun z hz=>(hx2.old z (by omega)).trans (B0 z hz)
    have C3:=(hx2.old _ (by omega)).trans B3
    have C4:=(hx2.old _ (by omega)).trans B4
    have C6:h2.log=[]:=hx2.log.trans B6
    have C7:WF h2:=hx2.wf B7
    have c7:=(C0 _ (by omega)).trans a7
    have c8:=(C0 _ (by omega)).trans a8
    have c9:=(C0 _ (by omega)).trans a9
    have c10:=(C0 _ (by omega)).trans A10
    have cb:=(C0 _ (by omega)).trans ab
    have cv:ListsW h2 (.slice va rows.length vc) rows:=hvA.agree (by omega) fun b _ _ _ hb _=>C0 b (by omega)
    have cs:SliceOf h2 5 (.slice a0 l.length c) l.length (kcs l):=SliceOf.agree hsA (by omega) fun b _ _ _ hb _=>C0 b (by omega)
    have cw:SliceOf h2 1 (.slice wa l.length wc) l.length (ints (wsP l)):=SliceOf.agree hwS (by omega) fun b _ _ _ hb _=>C0 b (by omega)
    clear hx2 B3 B4 B6 B7 b6 B0 hvA hsA hwS
    refine y3 ?_;refine wE_block ?_
    refine wE_rangeX (lo:=h.next) (g:=136) (P:=VI kerf l rows (boardsL rows.length ht) hA.next h2.next h2 (.loop [(7, .pointer (some ⟨h.next+2,0,none⟩)),(8, .pointer (some ⟨h.next+3,0,none⟩)),(9, .pointer (some ⟨h.next+4,0,none⟩)),(10, .pointer (some ⟨h.next+5,0,none⟩)),(12, .pointer (some ⟨hA.next+1,0,none⟩)),(43,fn2 136 (hA.next+2) (hA.next+3))] [44] asgVa bodyVa 0 .normal) (boardsL rows.length ht))
     (S:=fun H=>H.get h2.next=some (.loop [(7, .pointer (some ⟨h.next+2,0,none⟩)),(8, .pointer (some ⟨h.next+3,0,none⟩)),(9, .pointer (some ⟨h.next+4,0,none⟩)),(10, .pointer (some ⟨h.next+5,0,none⟩)),(12, .pointer (some ⟨hA.next+1,0,none⟩)),(43,fn2 136 (hA.next+2) (hA.next+3))] [44] asgVa bodyVa 2 .ret)∧H.get (h.next+3)=some (.cells [.bool false] true 1)∧H.get (h.next+4)=some (.cells [.int .i64 0] true 1)∧¬valOk kerf l rows.length ht rows)
     (by rfl) (by rfl) (by rw[F.toFnsV.f136];rfl) (Nat.le_refl _) (by omega) C6 C7 ?_ (fun H q=>⟨_,_,_,_,q.loop⟩) (fun H q=>⟨_,_,_,_,q.1⟩) ?_ ?_
    ·refine boards136X F.toFnsV.p F.toFnsV.f136 (.of (C7.push _)) (bw:=hA.next+2) (bh:=hA.next+3) (l:=h2.next) (N:=h2.next+1) (lo:=h.next) (w:=rows.length) (ht:=ht)
      (P:=VI kerf l rows (boardsL rows.length ht) hA.next h2.next h2 (.loop [(7, .pointer (some ⟨h.next+2,0,none⟩)),(8, .pointer (some ⟨h.next+3,0,none⟩)),(9, .pointer (some ⟨h.next+4,0,none⟩)),(10, .pointer (some ⟨h.next+5,0,none⟩)),(12, .pointer (some ⟨hA.next+1,0,none⟩)),(43,fn2 136 (hA.next+2) (hA.next+3))] [44] asgVa bodyVa 0 .normal))
      (Nat.le_refl _) (by show h.next≤h2.next+1;omega) (by omega) (by omega) (Nat.lt_succ_self _)
      ⟨fun done x H hxm hr' hN hP=> ?_,fun done H H' q hN' ha=>⟨fun z hz hne=>(ha z (by omega)).trans (q.old z hz hne),(ha _ (by omega)).trans q.tab,(ha _ (Nat.lt_succ_self _)).trans q.loop,by omega,q.ok,q.mem⟩,fun H m q=>q,fun H q=>⟨_,_,_,_,q.1⟩⟩
      (fun d H q=>(q.old _ (by omega) (by omega)).trans gp) (fun d H q=>(q.old _ (by omega) (by omega)).trans gx) ⟨fun z hz _=>z4 hz,(z4 (by omega)).trans C3,z3 _ _,Nat.lt_succ_self _,Rok_nil _ _ _,fun x hx=>by cases hx⟩
     obtain⟨i,j⟩:=x
     have hbx:=boards_of hxm
     dsimp only at hbx
     obtain⟨i,rfl⟩:∃c,i=c+1:=⟨i-1,by omega⟩
     obtain⟨j,rfl⟩:∃c,j=c+1:=⟨j-1,by omega⟩
     obtain⟨r0,hri⟩:∃r,rows[i]? =some r:=⟨rows[i]'(by omega),List.getElem?_eq_getElem (by omega)⟩
     have hr0:=hlen r0 (List.mem_of_getElem? hri)
     obtain⟨v0,hrj⟩:∃r,r0[j]? =some r:=⟨r0[j]'(by omega),List.getElem?_eq_getElem (by omega)⟩
     have hv0:vAt rows (i+1) (j+1)=v0:=by
      unfold vAt
      rw[Nat.add_sub_cancel,Nat.add_sub_cancel,show rows.getD i []=r0 by rw[List.getD_eq_getElem?_getD,hri];rfl,List.getD_eq_getElem?_getD,hrj]
      rfl
     have hdn:∀x∈done,1≤x.1∧1≤x.2:=fun x hx=>by have:=boards_of (hP.mem x hx);omega
     have hO:∀z,z<h2.next→z≠hA.next→H.get z=h2.get z:=hP.old
     have hnx:=hP.nx
     refine FW.mono' (FW.withAS F.toFnsV.p (vboard_round F.toFnsV F.toFnsE.toFnsA.f77 hr' (lo:=h.next) (N:=h2.next+1) (p7:=h.next+2) (p8:=h.next+3) (p9:=h.next+4) (p10:=h.next+5) (p12:=hA.next+1) (mb:=hA.next) (bb:=h.next+8) (n:=l.length) (kerf:=kerf) (ws:=wsP l) (kl:=l) (t:=fillT rows done) (v0:=v0) (i:=i) (j:=j) (by omega) (by omega) (by omega) (by omega)
      (fun x hx=>by
        obtain⟨e1,e2⟩:=look_upd_cut (kerf:=kerf) (by omega) hx (fillT rows done) v0
        rw[e1,e2]
        have i1:=look_in hP.ok hdn (oneB x (i+1) (j+1))
        have i2:=look_in hP.ok hdn (twoB kerf x (i+1) (j+1))
        unfold inV at i1 i2
        omega) hP.loop ((hO _ (by omega) (by omega)).trans c7) ((hO _ (by omega) (by omega)).trans c8) ((hO _ (by omega) (by omega)).trans c9) ((hO _ (by omega) (by omega)).trans c10) ((hO _ (by omega) (by omega)).trans C4) hP.tab ((hO _ (by omega) (by omega)).trans cb)
      (SliceOf.agree cs (by omega) fun b _ _ _ hb he=>hO b hb (fun q=>by rw[q,C3]at he;cases he)) (SliceOf.agree cw (by omega) fun b _ _ _ hb he=>hO b hb (fun q=>by rw[q,C3]at he;cases he)) (cv.agree (by omega) fun b _ _ _ hb he=>hO b hb (fun q=>by rw[q,C3]at he;cases he)) hri hrj ⟨hrl,by omega⟩ (by omega) ⟨by omega,by omega,by omega,by omega⟩ ⟨by omega,by omega,by omega,by omega⟩) hr'.log) ?_
     rintro r H' ⟨hAS,k1,k2⟩
     refine⟨k1,k2.imp ?_ ?_⟩
     ·rintro⟨rfl,z3,z4,z5,z6⟩
      refine⟨rfl,fun z hz hne=>(z3 z (by omega) hne).trans (hO z hz hne),by rw[fillT_snoc];dsimp only;rw[hv0];exact z4,(z3 _ hnx (by omega)).trans hP.loop,by omega,Rok_snoc hP.ok (by dsimp only;rw[hv0];exact z6),fun y hy=> ?_⟩
      rcases List.mem_append.1 hy with hy|hy
      ·exact hP.mem y hy
      ·rw[List.mem_singleton.1 hy];exact hxm
     ·rintro⟨rfl,z3,z4,z5,z6,z7⟩
      refine⟨rfl,z3,z4,z5,z6,fun q=> ?_⟩
      have:=valOk_bok (by omega) q hP.mem hxm
      dsimp only at this
      rw[hv0,z7]at this
      cases this
    ·intro h3 h4 d1 d2 d3 d4 d5 hP
     have hok1:ok=true:=hok.2 (Rok_valOk (by omega) rfl hlen hP.ok)
     have f8:=((d5 _ (by omega)).trans (hP.old _ (by omega) (by omega))).trans c8
     have f9:=((d5 _ (by omega)).trans (hP.old _ (by omega) (by omega))).trans c9
     rw[hok1]
     clear C0 d5 hP hok hok1
     refine kB_n ?_;refine kS_n ?_;refine y4 ?_;refine yS ?_
     refine yS ?_;refine y3 ?_;refine wE_ret ?_
     exact endP_ret (by simp(disch:=first|omega|(simp only[z1,z2];omega))only[Heap.log_wr_new,Heap.log_push];assumption) (res_cell (b:=h.next+3) rfl (by(simp(disch:=first|omega|(simp only[z1,z2];omega))only[z3,z4,z5,z6,z7,z1,z2, *];exact rfl)) rfl (res_cell (b:=h.next+4) rfl (by(simp(disch:=first|omega|(simp only[z1,z2];omega))only[z3,z4,z5,z6,z7,z1,z2, *];exact rfl)) rfl res_nil)) rfl
    ·intro h3 h4 d1 d2 d3 d4 d5 ⟨u1,u2,u3,u4⟩
     have hok1:ok=false:=bool_no hok u4
     have f8:=(d5 _ (by omega)).trans u2
     have f9:=(d5 _ (by omega)).trans u3
     rw[hok1]
     refine kB_r ?_;refine kS_r ?_
     exact endP_ret d1 (res_cell (b:=h.next+3) rfl f8 rfl (res_cell (b:=h.next+4) rfl f9 rfl res_nil)) rfl
  ·have hno:ok=false:=bool_no hok fun q=>hlw q.1
   rw[hno]
   have hlw2:((rows.length:Nat):Int)≠w:=by omega
   refine qM ?_;refine qE ?_;refine qE ?_
   refine wD_store rfl rfl rfl (by exact rfl) (by exact rfl) (by exact rfl) (by assumption) (by exact rfl) (by exact rfl) (by(simp only[z1,z2];omega)) (by(simp only[z1,z2];omega)) (by apply ra_keepC rfl (rq_quiet rfl (a_extract (by exact rfl) (by exact rfl)) (by exact sv_int _ _)) rfl;apply ra_dropC rfl;apply ra_dropC rfl;apply ra_dropC rfl;exact ra_nil) ?_
   refine qM ?_;refine wD_nil ?_;refine y1 ?_;refine kS_n ?_;refine wE_seq ?_;refine y4 ?_;refine yM ?_
   refine yf ?_;refine y3 ?_;refine yX ?_;refine wE_skip ?_;refine kS_n ?_;refine wE_seq ?_;refine y4 ?_
   refine yL ?_;refine yD ?_;refine yM ?_
   refine yt ?_;refine yM ?_;refine yP ?_;refine yP ?_;refine yP ?_;refine yT ?_;refine y3 ?_;refine yY ?_;refine y4 ?_
   refine yS ?_
   refine yS ?_;refine y3 ?_;refine wE_ret ?_;refine kS_r ?_
   exact endP_ret (by simp(disch:=first|omega|(simp only[z1,z2];omega))only[Heap.log_wr_new,Heap.log_push];assumption) (res_cell (b:=h.next+3) rfl (by(simp(disch:=first|omega|(simp only[z1,z2];omega))only[z3,z4,z5,z6,z7,z1,z2, *];exact rfl)) rfl (res_cell (b:=h.next+4) rfl (by(simp(disch:=first|omega|(simp only[z1,z2];omega))only[z3,z4,z5,z6,z7,z1,z2, *];exact rfl)) rfl res_nil)) rfl
 ·rw[hno ha]
  generalize asked kerf l (OnB w ht)=er at*
  refine qM ?_;refine qE ?_;refine qE ?_
  refine wD_store rfl rfl rfl (by exact rfl) (by exact rfl) (by exact rfl) (by assumption) (by exact rfl) (by exact rfl) (by(simp only[z1,z2];omega)) (by(simp only[z1,z2];omega)) (by apply ra_keepC rfl (rq_quiet rfl (a_extract (by exact rfl) (by exact rfl)) (by exact sv_int _ _)) rfl;apply ra_dropC rfl;apply ra_dropC rfl;apply ra_dropC rfl;exact ra_nil) ?_
  refine qM ?_;refine wD_nil ?_;refine y1 ?_;refine kS_n ?_;refine wE_seq ?_;refine y4 ?_;refine yM ?_
  refine yt ?_;refine y3 ?_;refine yY ?_;refine y4 ?_;refine yM ?_
  refine yS ?_
  refine yS ?_;refine y3 ?_;refine wE_ret ?_;refine kS_r ?_
  exact endP_ret (by simp(disch:=first|omega|(simp only[z1,z2];omega))only[Heap.log_wr_new,Heap.log_push];assumption) (res_cell (b:=h.next+3) rfl (by(simp(disch:=first|omega|(simp only[z1,z2];omega))only[z3,z4,z5,z6,z7,z1,z2, *];exact rfl)) rfl (res_cell (b:=h.next+4) rfl (by(simp(disch:=first|omega|(simp only[z1,z2];omega))only[z3,z4,z5,z6,z7,z1,z2, *];exact rfl)) rfl res_nil)) rfl
end Go.A.Pk
end
section
set_option maxRecDepth 100000
namespace Go.A.Pk
variable {T:Nat→Option AFunc}
theorem a_beqT{base:Nat}{h:Heap}{e:Env}{x y:Operand}{a:Bool}(hx:ev h e x=some (.bool a))(hy:ev h e y=some (.bool a)):aop h base e (.bin (.beq false) x y)=some (.val (.bool true) h):=by
 rw[a_beq hx hy]
 cases a<;>rfl
structure FnsVa (T:Nat→Option AFunc):Prop extends FnsCV T,FnsRk T where
 f11:T 11=some f11
 c19:∀{h:Heap},Rdy h→Pu T 19 [] h (.bool true)
set_option maxHeartbeats 16000000 in
theorem law11(F:FnsVa T){h:Heap}(hr:Rdy h){a:Option Addr}{n c:Nat}{l:List Kd}(hs:SliceOf h 5 (.slice a n c) n (kcs l))(kerf w ht:Int){v:Value}{rows:List (List Int)}(hv:ListsW h v rows):
 Pu T 11 [.agg #[.slice a n c, .int .i64 kerf], .int .i64 w, .int .i64 ht,v] h (.bool true):=by
 obtain⟨va,vc,rfl⟩:=hv.form
 have hp:=F.toFnsCV.toFnsV.p
 refine .of hp F.f11 hr rfl ?_
 have hx:Ext h (h.push (.cells [.slice a n c, .int .i64 kerf] true 1)):=(Ext.refl h).push _
 obtain rfl:n=l.length:=by have:=hs.len;rw[kcs_length]at this;omega
 refine y4 ?_;refine yB ?_;refine yM ?_;refine y3 ?_;refine wE_seq ?_;refine y4 ?_
 refine yN ?_
 refine yC ?_
 refine FW.pu (few18 F.toFnsCV.toFnsE.toFnsC (.of (hx.wf hr.wf)) kerf) ?_
 have C19:=F.c19 (h:={(h.push (.cells [.slice a l.length c, .int .i64 kerf] true 1))with log:=[]}) (.of (hx.wf hr.wf))
 by_cases hfew:l.length≤16
 ·have hn:l.length<1000000:=by omega
  rw[decide_eq_true hfew]
  by_cases hlen:rows.length≤20
  ·refine yA ?_;refine yM ?_;refine yO ?_;refine yM ?_;refine yO ?_;refine yD ?_;refine yO ?_;refine yf ?_;refine yU ?_
   refine y3 ?_;refine yX ?_;refine wE_skip ?_;refine kS_n ?_;refine wE_seq ?_;refine y4 ?_;refine yM ?_;refine y3 ?_;refine wE_block ?_
   refine wE_loop (fun k e ds h'=>∃i:Nat,i≤rows.length∧k=rows.length-i∧e=[(1, .int .i64 w),(2, .int .i64 ht),(3, .slice va rows.length vc),(4, .pointer (some ⟨h.next,0,none⟩)),(9, .int .i64 i)]∧ds=[]∧h.push (.cells [.slice a l.length c, .int .i64 kerf] true 1)=h'∧∀j r,j<i→rows[j]? =some r→r.length≤20)
    ⟨0,Nat.zero_le _,rfl,rfl,rfl,rfl,fun j r q=>by omega⟩ ?_
   rintro k e ds _ ⟨i,hi,rfl,rfl,rfl,rfl,hI⟩
   by_cases hlt:i<rows.length
   ·obtain⟨r,hri⟩:∃r,rows[i]? =some r:=⟨rows[i],List.getElem?_eq_getElem hlt⟩
    obtain⟨b,o,vs,own,t,xa,xc,rfl,g1,kb,f1,_⟩:=hv.elem hri
    have f2:lget vs (o+i*1)=some (.slice xa r.length xc):=f1
    by_cases hrl:r.length≤20
    ·refine wE_seq ?_;refine y4 ?_;refine yM ?_;refine yM ?_;refine yD ?_;refine yt ?_;refine y3 ?_
     refine yY ?_;refine wE_skip ?_;refine kS_n ?_;refine wE_seq ?_;refine wE_block ?_;refine y4 ?_;refine yM ?_;refine yM ?_;refine wO_val (a_iaddrS (by exact rfl) (by exact rfl) (by omega)) ?_
     refine wO_val (a_load (by exact rfl) (by(simp(disch:=first|omega|(simp only[z1,z2];omega))only[z3,z4,z5,z6,z7,z1,z2, *];exact rfl)) (by assumption)) ?_;refine yD ?_
     refine yf ?_;refine y3 ?_;refine yX ?_;refine wE_skip ?_;refine kB_n ?_;refine kS_n ?_;refine wE_region ?_;refine yM ?_
     refine yinc ?_;refine yM ?_;refine y3 ?_
     refine⟨rows.length-(i+1),by omega,i+1,by omega,rfl,rfl,rfl,rfl,fun j r' q1 q2=> ?_⟩
     by_cases q:j=i
     ·subst q;rw[hri]at q2;cases q2;exact hrl
     ·exact hI j r' (by omega) q2
    ·refine wE_seq ?_;refine y4 ?_;refine yM ?_;refine yM ?_;refine yD ?_;refine yt ?_;refine y3 ?_
     refine yY ?_;refine wE_skip ?_;refine kS_n ?_;refine wE_seq ?_;refine wE_block ?_;refine y4 ?_;refine yM ?_;refine yM ?_;refine wO_val (a_iaddrS (by exact rfl) (by exact rfl) (by omega)) ?_
     refine wO_val (a_load (by exact rfl) (by(simp(disch:=first|omega|(simp only[z1,z2];omega))only[z3,z4,z5,z6,z7,z1,z2, *];exact rfl)) (by assumption)) ?_;refine yD ?_
     refine yt ?_;refine y3 ?_;refine yY ?_;refine y4 ?_
     refine yC ?_
     refine FW.pu C19 ?_
     refine yM ?_;refine y3 ?_;refine wE_ret ?_;refine kB_r ?_;refine kS_r ?_;refine kS_r ?_;refine kB_r ?_;refine kS_r ?_
     exact endP_ret (hx.log.trans hr.log) rfl rfl
   ·obtain rfl:i=rows.length:=by omega
    have hrl:rows.length<1000000∧∀r∈rows,r.length<1000000:=⟨by omega,fun r hr=>by
     obtain⟨j,hj,rfl⟩:=List.getElem_of_mem hr
     have:=hI j _ hj (List.getElem?_eq_getElem hj)
     omega⟩
    obtain⟨ok,hok⟩:∃ok:Bool,ok=true↔asked kerf l (OnB w ht)=0∧valOk kerf l w.toNat ht.toNat rows:=by
     by_cases q:asked kerf l (OnB w ht)=0∧valOk kerf l w.toNat ht.toNat rows
     ·exact⟨true,fun _=>q,fun _=>rfl⟩
     ·exact⟨false,fun x=>(by cases x),fun x=>absurd x q⟩
    have hok1:asked kerf l (OnB w ht)=0→(ok=true↔valOk kerf l w.toNat ht.toNat rows):=fun q=>hok.trans ⟨fun x=>x.2,fun x=>⟨q,x⟩⟩
    have hok2:asked kerf l (OnB w ht)≠0→ok=false:=fun q=>bool_no hok fun x=>q x.1
    have C1:=check56 F.toFnsCV (.of (hx.wf hr.wf)) ((hs.ext hx).log []) kerf hn w ht ((hv.ext hx).log []) hrl.1 hok1 hok2
    have C2:=rcheck57 F.toFnsRk (.of (hx.wf hr.wf)) ((hs.ext hx).log []) kerf hn w ht ((hv.ext hx).log []) hrl hok1 hok2
    clear hok1 hok2 hok hI hi
    generalize asked kerf l (OnB w ht)=er at*
    refine wE_seq ?_;refine y4 ?_;refine yM ?_;refine yM ?_;refine yD ?_;refine yf ?_;refine y3 ?_
    refine yX ?_;refine wE_exit ?_;refine kS_e ?_;refine kS_e ?_;refine kB_e ?_;refine kS_n ?_;refine y4 ?_
    refine yN ?_;refine yM ?_;refine yM ?_
    refine yM ?_
    refine yC ?_
    refine FW.pu C1 ?_
    clear C1
    refine yM ?_;refine yE ?_;refine yE ?_;refine yM ?_;refine yM ?_;refine y3 ?_;refine y4 ?_;refine yN ?_;refine yM ?_
    refine yM ?_;refine yM ?_
    refine yC ?_
    refine FW.pu C2 ?_
    clear C2
    refine yM ?_;refine yE ?_;refine yE ?_;refine yM ?_;refine yM ?_;refine y3 ?_;refine y4 ?_
    refine yC ?_
    refine FW.pu C19 ?_
    clear C19
    refine yM ?_;refine yO ?_;refine yM ?_;refine yO ?_;refine yM ?_;refine yO ?_;refine wO_val (a_beqT (by exact rfl) (by exact rfl)) ?_;refine yT ?_;refine yM ?_
    refine yO ?_;refine yM ?_;refine yO ?_;refine yM ?_;refine yO ?_;refine yt ?_;refine yT ?_;refine yM ?_;refine y3 ?_;refine wE_ret ?_
    exact endP_ret (hx.log.trans hr.log) rfl rfl
  ·refine yA ?_;refine yM ?_;refine yO ?_;refine yM ?_;refine yO ?_;refine yD ?_;refine yO ?_;refine yt ?_;refine yU ?_
   refine y3 ?_;refine yY ?_;refine y4 ?_
   refine yC ?_
   refine FW.pu C19 ?_
   refine yM ?_;refine y3 ?_;refine wE_ret ?_;refine kS_r ?_
   exact endP_ret (hx.log.trans hr.log) rfl rfl
 ·rw[decide_eq_false hfew]
  refine yA ?_;refine yM ?_;refine yP ?_;refine yP ?_;refine yP ?_;refine yT ?_;refine y3 ?_;refine yY ?_;refine y4 ?_
  refine yC ?_
  refine FW.pu C19 ?_
  refine yM ?_;refine y3 ?_;refine wE_ret ?_;refine kS_r ?_
  exact endP_ret (hx.log.trans hr.log) rfl rfl
end Go.A.Pk
end
section
namespace Go.A
open Go.ChangeShapes Go.WideShapes Go.ChangeAt Go.RowKit
section
variable {H:Type} {enc:TypeId×Value→H} {P:Program}
theorem trodAll_stays(hl:laidOutB P=true){W W':World}(hb:Below W.heap.size W W'):∀{ts:List TypeId} {vs:List Value} {ds:List (DataW H)} {ps:List MemPlace},(∀t∈ts,P.readableRec t=true∧t<P.types.size)→DataW.TrodAll enc P W 0 (fun _=>true) true ts vs ds ps→
 (∀x∈ps,x.block<W.heap.size)→DataW.TrodAll enc P W' 0 (fun b=>decide (b<W.heap.size)) true ts vs ds ps
 |[],vs,ds,ps,_,h,_=>by
  obtain⟨rfl,rfl,rfl⟩:=trodAll_nil h
  exact trodAll_mk0
 |t::ts,vs,ds,ps,hr,h,hlt=>by
  obtain⟨v,vs',d,ds',p,q,rfl,rfl,rfl,hd,hrest⟩:=trodAll_cons h
  have h1:=hr t (List.mem_cons_self ..)
  exact⟨p,q,Below.trod hl h1.1 h1.2 hd hb fun x hx=>hlt x (List.mem_append_left _ hx),trodAll_stays hl hb (fun t ht=>hr t (List.mem_cons_of_mem _ ht)) hrest fun x hx=>hlt x (List.mem_append_right _ hx),rfl⟩
theorem law_post{f:Func}{s:ChangeSpec}{W W':World}{args:Array Value}{ds gs:List (DataW H)}{before:List MemPlace}{tb:TypeId}(hW:DataW.Whole enc P f.params.toList s.vars false W args.toList ds gs before)(hv:s.vars=[])
 (hfn:(s.fn H ds).results=[.lit (.bool true)]∧(s.fn H ds).args=ds∧(s.fn H ds).vars=[])(hl:laidOutB P=true)(hr:∀t∈f.params.toList,P.readableRec t=true∧t<P.types.size)(hres:f.resultTypes= #[tb])(htb:P.underlying tb=some .bool)(hb:Below W.heap.size W W'):
 s.post enc P f false true false false W args (.bool true) W':=by
 have hW':=hW
 obtain⟨p,q,hA,hV,hpq,hz,hn⟩:=hW
 rw[hv]at hV
 obtain⟨rfl,rfl⟩:=trodVars_none hV
 have hbp:before=p:=by simpa using hpq
 subst hbp
 obtain⟨h1,h2,h3⟩:=hfn
 have hlt:∀x∈before,x.block<W.heap.size:=fun x hx=>by simpa using hW'.lt x hx
 refine⟨ds,[],before,[],before,[],hW',?_,?_,?_,hb.frame _,fun h=>by cases h⟩
 ·rw[List.append_nil,h1,hres]
  exact trodAll_cons_mk (shut_bool htb _) trodAll_mk0
 ·rw[List.append_nil,h2]
  exact trodAll_stays hl hb hr hA hlt
 ·rw[List.append_nil,h3,hv]
  rfl
end
end Go.A
end
section
set_option maxRecDepth 100000
namespace Go.A.Pk
open Go Go.Proofs Go.Joins Go.ChangeShapes Go.WideShapes Go.RowKit Go.Deep
instance:Inhabited Kd:=⟨⟨0,0,0,0,false⟩⟩
inductive KindsAt (W:World):Value→List Kd→Prop
 |nil:KindsAt W (.slice none 0 0) []
 |empty {b o cap c el fz}:W.heap[b]? =some (.cells c el fz)→cap<UNK→KindsAt W (.slice (some ⟨b,o,none⟩) 0 cap) []
 |full {b o cap c el fz} {l:List Kd}:W.heap[b]? =some (.cells c el fz)→l≠[]→l.length≤cap→cap<UNK→(∀j,j<l.length*5→c[o+j]? =(kcs l)[j]?)→KindsAt W (.slice (some ⟨b,o,none⟩) l.length cap) l
theorem kcs_get:∀{l:List Kd} {i:Nat} {k:Kd} {j:Nat},l[i]? =some k→j<5→(kcs l)[i*5+j]? =(kc k)[j]?
 |[],i,k,j,h,_=>by simp at h
 |x::l,0,k,j,h,hj=>by
  simp only[List.getElem?_cons_zero,Option.some.injEq]at h
  subst h
  simp only[kcs,Nat.zero_mul,Nat.zero_add]
  rw[List.getElem?_append_left (by simpa[kc]using hj)]
 |x::l,i+1,k,j,h,hj=>by
  rw[List.getElem?_cons_succ]at h
  have:=kcs_get (l:=l) h hj
  simp only[kcs]
  rw[List.getElem?_append_right (by simp[kc];omega),←this]
  congr 1
  simp[kc];omega
section
variable {H:Type} {enc:TypeId×Value→H} {W:World} {base:Nat} {spare:Nat→Bool} {held:Bool}
theorem cells3:Tryz.prog.cellsOf 3=1:=by kernel_rfl
theorem cells4:Tryz.prog.cellsOf 4=1:=by kernel_rfl
theorem cells69:Tryz.prog.cellsOf 69=5:=by kernel_rfl
theorem kind_cells{fuel:Nat}{cs:List Value}{x:DataW H×List MemPlace}(h:DataW.trod enc Tryz.prog W base spare held fuel 69 cs=some x):∃k:Kd,cs=kc k:=by
 obtain⟨xs,n,_,hx,hcl,hlen,hg⟩:=DataW.trod_struct Tryz.underlying69 h
 rw[cells69]at hcl
 match cs,hcl with
 |[c0,c1,c2,c3,c4],_=>
  match xs,hlen with
  |[y0,y1,y2,y3,y4],_=>
   have g0:DataW.trod enc Tryz.prog W base spare held n 3 [c0]=some y0:=by have:=hg 0 _ rfl;simpa[cells3]using this
   have g1:DataW.trod enc Tryz.prog W base spare held n 3 [c1]=some y1:=by have:=hg 1 _ rfl;simpa[cells3]using this
   have g2:DataW.trod enc Tryz.prog W base spare held n 3 [c2]=some y2:=by have:=hg 2 _ rfl;simpa[cells3]using this
   have g3:DataW.trod enc Tryz.prog W base spare held n 3 [c3]=some y3:=by have:=hg 3 _ rfl;simpa[cells3]using this
   have g4:DataW.trod enc Tryz.prog W base spare held n 4 [c4]=some y4:=by have:=hg 4 _ rfl;simpa[cells4]using this
   obtain⟨a0,h0,_⟩:=DataW.trod_int Tryz.underlying3 g0
   obtain⟨a1,h1,_⟩:=DataW.trod_int Tryz.underlying3 g1
   obtain⟨a2,h2,_⟩:=DataW.trod_int Tryz.underlying3 g2
   obtain⟨a3,h3,_⟩:=DataW.trod_int Tryz.underlying3 g3
   obtain⟨a4,h4,_⟩:=DataW.trod_bool Tryz.underlying4 g4
   cases h0;cases h1;cases h2;cases h3;cases h4
   exact⟨⟨a0,a1,a2,a3,a4⟩,rfl⟩
theorem add_eq(b o n:Nat):(Addr.mk b o none).add n=⟨b,o+n,none⟩:=by
 unfold Addr.add
 by_cases h:n=0
 ·rw[if_pos h,h,Nat.add_zero]
 ·rw[if_neg h]
theorem open_saw{v:Value}{d:DataW H}{p:List MemPlace}(hv:Value.okWide Tryz.prog W .any base 24 v)(h:DataW.Trod enc Tryz.prog W 0 (fun _=>true) held 24 v d p)(hz:∀n∈d.weights Tryz.prog 24,n≤reachBytes):∃sl kerf l,v= .agg #[sl, .int .i64 kerf]∧KindsAt W sl l:=by
 have hv0:=hv
 obtain⟨v0,v1,y0,y1,n,rfl,hd,_,h0,h1⟩:=open_agg2 Tryz.underlying24 (by kernel_rfl) (by kernel_rfl) hv h
 obtain⟨kerf,hk,_⟩:=DataW.trod_int Tryz.underlying3 h1
 cases hk
 have hcell:Cell.okWide Tryz.prog W .any base 22 v0:=by
  simp only[Value.okWide,Tryz.underlying24]at hv0
  obtain⟨cs,hcs,_,ts,hts,_,hrow⟩:=hv0
  cases hcs
  have e:Tryz.prog.cellTypes Tryz.prog.depth 24=some [22,3]:=by kernel_rfl
  rw[e]at hts
  cases hts
  obtain⟨u,hu,hc⟩:=hrow 0 v0 rfl
  cases hu
  exact hc
 rcases open_slice Tryz.underlying22 h0 with⟨h2,_⟩|⟨a,len,cap,m,n',D,Pl,h2,_,hl,hcap,hm,hy,hx⟩
 ·cases h2
  exact⟨_,kerf,[],rfl, .nil⟩
 ·cases h2
  simp only[Cell.okWide,Cell.ok,Tryz.underlying22,World.has]at hcell
  obtain⟨_,_,_,hspot,row,cells,hsh,_⟩:=hcell
  obtain⟨b,o,sp⟩:=a
  simp only at hspot hsh
  subst hspot
  rw[if_pos rfl]at hm
  subst hm
  have hcapU:m<UNK:=by
   have e40:Tryz.prog.bytesOf 69=40:=by kernel_rfl
   have:=hz (m*40) (by
    rw[hd,hy]
    simp only[DataW.weights,Tryz.underlying24,DataW.weightsEach,Tryz.underlying22,List.map_cons,List.map_nil,e40,List.length_map,List.length_range,show len+(m-len)=m by omega]
    simp)
   unfold reachBytes at this
   unfold UNK;omega
  obtain⟨c,el,fz,hheap⟩:∃c el fz,W.heap[b]? =some (.cells c el fz):=by
   unfold World.shape? at hsh
   split at hsh
   ·rename_i c el fz he;exact⟨c,el,fz,he⟩
   ·cases hsh
  have hlm:len≤m:=hl
  obtain⟨f,hf⟩:=choose_lt (α:=Kd) (n:=len) (p:=fun i k=>∀j,j<5→c[o+(i*5+j)]? =(kc k)[j]?) (fun i hi=>by
   obtain⟨cs',hc,ht⟩:=hx i (by omega)
   obtain⟨k,hk⟩:=kind_cells ht
   subst hk
   refine⟨k,fun j hj=> ?_⟩
   rw[cells69]at hc
   obtain⟨_,_,hat⟩:=World.cells?_some hc
   have:=hat j hj
   rw[add_eq,add_eq]at this
   rw[←this,Nat.add_assoc]
   unfold World.cell?
   simp only[hheap]
   rfl)
  by_cases h0:len=0
  ·subst h0
   exact⟨_,kerf,[],rfl, .empty hheap hcapU⟩
  ·have hlen:((List.range len).map f).length=len:=by simp
   refine⟨_,kerf,(List.range len).map f,rfl,?_⟩
   have:=KindsAt.full (W:=W) (o:=o) (cap:=m) (l:=(List.range len).map f) hheap (by intro e;rw[e]at hlen;simp at hlen;omega) (by omega) hcapU (fun j hj=>by
    rw[hlen]at hj
    have h5:j / 5<len:=by omega
    have e1:j=j / 5*5+j % 5:=by omega
    have g1:=hf (j / 5) h5 (j % 5) (by omega)
    have g2:=kcs_get (l:=(List.range len).map f) (i:=j / 5) (k:=f (j / 5)) (j:=j % 5) (by simp[h5]) (by omega)
    rw[←e1]at g1 g2
    rw[g1,g2])
   rw[hlen]at this
   exact this
end
end Go.A.Pk
end
section
set_option maxRecDepth 100000
namespace Go.A.Pk
variable {T:Nat→Option AFunc}
theorem Al.mono{f:Nat}{args:List Value}{h:Heap}{Q Q':Value→Heap→Prop}(H:Al T f args h Q)(hq:∀v h',Q v h'→Q' v h'):Al T f args h Q':=
 CW.mono H fun r h' ⟨hx,v,hv,q⟩=>⟨hx,v,hv,hq _ _ q⟩
end Go.A.Pk
end
section
set_option maxRecDepth 100000
open Go Go.A Go.Proofs
namespace Go.A.Pk
theorem ok19:Entry Tryz.prog 19 (.prim (pConst (.bool true))):= .prim (pConst_ok sound Tryz.func19 (of_decide_eq_true (by kernel_rfl)) (by kernel_rfl) (of_decide_eq_true (by kernel_rfl)) (by kernel_rfl) rfl StkQ.run)
end Go.A.Pk
end
section
set_option maxRecDepth 100000
namespace Go.A.Pk
open Go Go.Proofs Go.RowKit
theorem R.single{P:Program}{W:World}{n b d:Nat}{vs:List Value}{sz e:Nat}{c:Array Value}{el:TypeId}{fz:Nat×Nat}(hn:P.globals.size≤n)(hW:W.heap[b]? =some (.cells c el fz))(h1:d+vs.length≤e)(h2:e≤c.size)
 (hv:∀i,i<vs.length→∃v',c[d+i]? =some v'∧VR (fun x=>if x=n then some ⟨b,d,e,sz⟩else none) (gv vs i) v'):R P (fun x=>if x=n then some ⟨b,d,e,sz⟩else none) ⟨[(n, .cells vs false sz)],n+1,[]⟩ W:=by
 have hg:∀x o,(⟨[(n, .cells vs false sz)],n+1,[]⟩:Heap).get x=some o→x=n∧o= .cells vs false sz:=fun x o hx=>by
  simp only[Heap.get,getO,cond_eq_ite,beq_eq,decide_eq_true_eq]at hx
  split at hx
  ·rename_i he;cases hx;exact⟨he.symm,rfl⟩
  ·cases hx
 refine⟨Nat.le_succ_of_le hn,fun g o hgs hx=> ?_,fun x o hx=> ?_,fun x o hx=> ?_,fun x k hk=> ?_,fun x y o o' k k' hne hx hy=> ?_⟩
 ·obtain⟨rfl,_⟩:=hg _ _ hx;omega
 ·obtain⟨rfl,rfl⟩:=hg _ _ hx
  intro k hk
  dsimp only at hk
  rw[if_pos rfl]at hk
  cases hk
  exact⟨rfl,c,el,fz,hW,h1,h2,hv,fun h=>by cases h⟩
 ·obtain⟨rfl,_⟩:=hg _ _ hx;exact Nat.lt_succ_self _
 ·split at hk
  ·rename_i he;subst he;cases hk
   exact⟨Nat.lt_succ_self _,(Array.getElem?_eq_some_iff.1 hW).1⟩
  ·cases hk
 ·obtain⟨rfl,_⟩:=hg _ _ hx
  obtain⟨rfl,_⟩:=hg _ _ hy
  exact(hne rfl).elim
theorem St.below{μ μ':Mu}{h h':Heap}{W W':World}(s:St μ h W μ' h' W')(hro:∀b o,h.get b=some o→o.ro=true∨o.live=false):Below W.heap.size W W':=
 ⟨s.same.os,s.same.tape,s.same.out,s.le,fun r hr=>s.keep r hr fun⟨b,o,k,g1,g2,g3,_⟩=>by
  rcases hro b o g1 with q|q
  ·rw[q]at g3;cases g3
  ·rw[q]at g2;cases g2⟩
structure Laid (W:World) (sl:Value) (l:List Kd) (h:Heap) (μ:Mu) (v:Value) (n c:Nat) (a:Option Addr):Prop where
 rel:R Tryz.prog μ h W
 ro:∀b o,h.get b=some o→o.ro=true∨o.live=false
 rdy:Rdy h
 val:VR μ v sl
 form:v= .slice a n c
 at':SliceOf h 5 (.slice a n c) n (kcs l)
theorem KindsAt.laid{W:World}{sl:Value}{l:List Kd}(hk:KindsAt W sl l):∃h μ v n c a,Laid W sl l h μ v n c a:=by
 have hg:Tryz.prog.globals.size≤8:=of_decide_eq_true (by kernel_rfl)
 have hro:∀vs,∀b o,(⟨[(8, .cells vs false 5)],9,[]⟩:Heap).get b=some o→o.ro=true∨o.live=false:=fun vs b o hx=>by
  simp only[Heap.get,getO,cond_eq_ite]at hx
  split at hx
  ·cases hx;exact .inl rfl
  ·cases hx
 have hrd:∀vs,Rdy (⟨[(8, .cells vs false 5)],9,[]⟩:Heap):=fun vs=>⟨⟨by simp,fun b hb=>by simp at hb;subst hb;show 8<9;omega⟩,rfl⟩
 cases hk with
 |nil=>
  exact⟨⟨[],8,[]⟩,fun _=>none, .slice none 0 0,0,0,none,R.none hg,(fun b o hx=>by cases hx),⟨⟨by simp,fun b hb=>by simp at hb⟩,rfl⟩, .sliceN _ _,rfl, .nil⟩
 | @empty b o cap c el fz hW hc=>
   refine⟨⟨[(8, .cells [] false 5)],9,[]⟩,fun x=>if x=8 then some ⟨b,0,0,5⟩else none, .slice (some ⟨8,o,none⟩) 0 cap,0,cap,some ⟨8,o,none⟩,R.single hg hW (Nat.le_refl _) (Nat.zero_le _) (fun i hi=>by simp at hi),hro _,hrd _,?_,rfl,?_⟩
   ·have:=VR.slice (μ:=fun x=>if x=8 then some (⟨b,0,0,5⟩:Blk)else none) (b:=8) (o:=o) (l:=0) (c:=cap) (k:=⟨b,0,0,5⟩) (by simp) hc (Nat.zero_le _)
    simpa using this
   ·refine .mem ⟨by show 8<9;omega,⟨[],false,5,rfl,?_⟩,rfl⟩ (Nat.zero_le _)
    cases o<;>rfl
 | @full b o cap c el fz _ hW hne hl hc hat=>
   have hlen:=kcs_length l
   have hpos:0<l.length:=List.length_pos_iff.2 hne
   have hsz:o+l.length*5≤c.size:=by
    have h1:=hat (l.length*5-1) (by omega)
    have h2:(kcs l)[l.length*5-1]? =some ((kcs l)[l.length*5-1]'(by omega)):=List.getElem?_eq_getElem _
    rw[h2]at h1
    have:=(Array.getElem?_eq_some_iff.1 h1).1
    omega
   refine⟨⟨[(8, .cells (kcs l) false 5)],9,[]⟩,fun x=>if x=8 then some ⟨b,o,o+l.length*5,5⟩else none, .slice (some ⟨8,0,none⟩) l.length cap,l.length,cap,some ⟨8,0,none⟩,R.single hg hW (by rw[hlen];exact Nat.le_refl _) hsz (fun i hi=> ?_),hro _,hrd _,?_,rfl,?_⟩
   ·rw[hlen]at hi
    have h2:(kcs l)[i]? =some ((kcs l)[i]'(by omega)):=List.getElem?_eq_getElem _
    refine⟨_,(hat i hi).trans h2,?_⟩
    have e:gv (kcs l) i=(kcs l)[i]'(by omega):=by unfold gv;rw[lget_eq,h2];rfl
    rw[e]
    refine(VR.noRef ?_).1
    have hflat:∀(l:List Kd),∀x∈kcs l,noRef x=true:=fun l=>by
     induction l with
     |nil=>intro x hx;cases hx
     |cons k l ih=>
      intro x hx
      simp only[kcs,kc,List.mem_append,List.mem_cons,List.not_mem_nil,or_false]at hx
      rcases hx with(rfl|rfl|rfl|rfl|rfl)|hx
      ·rfl
      ·rfl
      ·rfl
      ·rfl
      ·rfl
      ·exact ih x hx
    exact hflat l _ (List.getElem_mem _)
   ·have:=VR.slice (μ:=fun x=>if x=8 then some (⟨b,o,o+l.length*5,5⟩:Blk)else none) (b:=8) (o:=0) (l:=l.length) (c:=cap) (k:=⟨b,o,o+l.length*5,5⟩) (by simp) hc hl
    simpa using this
   ·refine .mem ⟨by show 8<9;omega,⟨kcs l,false,5,rfl,?_⟩,hlen⟩ hl
    rw[ltake_eq,ldrop_eq,List.drop_zero,List.take_of_length_le (by omega)]
end Go.A.Pk
end
section
set_option maxRecDepth 100000
namespace Go.A.Pk
open Go Go.Proofs Go.Joins Go.ChangeShapes Go.WideShapes Go.RowKit Go.Deep
inductive CellsAt (W:World) (sz:Nat):Value→Nat→List Value→Prop
 |nil:CellsAt W sz (.slice none 0 0) 0 []
 |empty {b o cap c el fz}:W.heap[b]? =some (.cells c el fz)→cap<UNK→CellsAt W sz (.slice (some ⟨b,o,none⟩) 0 cap) 0 []
 |full {b o cap n c el fz} {cs:List Value}:W.heap[b]? =some (.cells c el fz)→n≠0→cs.length=n*sz→0<sz→n≤cap→cap<UNK→(∀j,j<n*sz→c[o+j]? =cs[j]?)→(∀x∈cs,noRef x=true)→CellsAt W sz (.slice (some ⟨b,o,none⟩) n cap) n cs
theorem noRef_kcs:∀(l:List Kd),∀x∈kcs l,noRef x=true
 |[],x,hx=>by cases hx
 |k::l,x,hx=>by
  simp only[kcs,kc,List.mem_append,List.mem_cons,List.not_mem_nil,or_false]at hx
  rcases hx with(rfl|rfl|rfl|rfl|rfl)|hx
  ·rfl
  ·rfl
  ·rfl
  ·rfl
  ·rfl
  ·exact noRef_kcs l x hx
theorem KindsAt.cells{W:World}{v:Value}{l:List Kd}(k:KindsAt W v l):CellsAt W 5 v l.length (kcs l):=by
 cases k with
 |nil=>exact .nil
 |empty h1 h2=>exact .empty h1 h2
 |full h1 h2 h3 h4 h5=>exact .full h1 (fun e=>h2 (List.length_eq_zero_iff.1 e)) (kcs_length l) (by omega) h3 h4 h5 (noRef_kcs l)
structure Ob where
 vs:List Value
 sz:Nat
 b:Nat
 d:Nat
 e:Nat
def obsL:Nat→List Ob→List (Nat×AObj)
 |_,[]=>[]
 |n,o::l=>(n, .cells o.vs false o.sz)::obsL (n+1) l
def obH(l:List Ob):Heap:=⟨obsL 8 l,8+l.length,[]⟩
def obM(l:List Ob):Mu:=fun x=>if 8≤x then(l[x-8]?).map fun o=>⟨o.b,o.d,o.e,o.sz⟩else none
structure ObOk (W:World) (μ:Mu) (o:Ob):Prop where
 ok:∃c el fz,W.heap[o.b]? =some (.cells c el fz)∧o.d+o.vs.length≤o.e∧o.e≤c.size∧∀i,i<o.vs.length→∃v',c[o.d+i]? =some v'∧VR μ (gv o.vs i) v'
theorem obsL_get:∀(l:List Ob) (n x:Nat),getO (obsL n l) x=if n≤x then(l[x-n]?).map fun o=> .cells o.vs false o.sz else none
 |[],n,x=>by simp[obsL,getO]
 |o::l,n,x=>by
  simp only[obsL,getO,cond_eq_ite,beq_eq,decide_eq_true_eq]
  by_cases hx:n=x
  ·subst hx
   rw[if_pos rfl,if_pos (Nat.le_refl _),Nat.sub_self]
   rfl
  ·rw[if_neg hx,obsL_get l (n+1) x]
   by_cases h1:n≤x
   ·rw[if_pos h1,if_pos (by omega),show x-n=(x-(n+1))+1 by omega,List.getElem?_cons_succ]
   ·rw[if_neg h1,if_neg (by omega)]
theorem obH_get(l:List Ob)(x:Nat):(obH l).get x=if 8≤x then(l[x-8]?).map fun o=> .cells o.vs false o.sz else none:=obsL_get l 8 x
theorem obH_some{l:List Ob}{x:Nat}{a:AObj}(h:(obH l).get x=some a):8≤x∧∃o,l[x-8]? =some o∧a= .cells o.vs false o.sz:=by
 rw[obH_get]at h
 split at h
 ·rename_i h8
  cases hl:l[x-8]? with
  |none=>rw[hl]at h;cases h
  |some o=>rw[hl]at h;cases h;exact⟨h8,o,rfl,rfl⟩
 ·cases h
theorem obM_some{l:List Ob}{x:Nat}{k:Blk}(h:obM l x=some k):8≤x∧∃o,l[x-8]? =some o∧k=⟨o.b,o.d,o.e,o.sz⟩:=by
 unfold obM at h
 split at h
 ·rename_i h8
  cases hl:l[x-8]? with
  |none=>rw[hl]at h;cases h
  |some o=>rw[hl]at h;cases h;exact⟨h8,o,rfl,rfl⟩
 ·cases h
theorem R.obs{P:Program}{W:World}{l:List Ob}(hg:P.globals.size≤8)(H:∀o∈l,ObOk W (obM l) o):R P (obM l) (obH l) W:=by
 refine⟨Nat.le_trans hg (Nat.le_add_right _ _),fun g o hgs hx=> ?_,fun x o hx=> ?_,fun x o hx=> ?_,fun x k hk=> ?_,fun x y o o' k k' hne hx hy _ _ hk hk' _=> ?_⟩
 ·have:=(obH_some hx).1;omega
 ·obtain⟨h8,ob,hl,rfl⟩:=obH_some hx
  intro k hk
  obtain⟨_,ob',hl',rfl⟩:=obM_some hk
  rw[hl]at hl'
  cases hl'
  obtain⟨c,el,fz,hW,h1,h2,hv⟩:=(H ob (List.mem_of_getElem? hl)).ok
  exact⟨rfl,c,el,fz,hW,h1,h2,hv,fun h=>by cases h⟩
 ·obtain⟨h8,ob,hl,rfl⟩:=obH_some hx
  have:=(List.getElem?_eq_some_iff.1 hl).1
  show x<8+l.length
  omega
 ·obtain⟨h8,ob,hl,rfl⟩:=obM_some hk
  have:=(List.getElem?_eq_some_iff.1 hl).1
  obtain⟨c,el,fz,hW,_⟩:=(H ob (List.mem_of_getElem? hl)).ok
  exact⟨by show x<8+l.length;omega,(Array.getElem?_eq_some_iff.1 hW).1⟩
 ·obtain⟨_,ob,_,rfl⟩:=obH_some hx
  obtain⟨_,ob',_,rfl⟩:=obH_some hy
  exact⟨rfl,rfl⟩
theorem obH_ro{l:List Ob}:∀b o,(obH l).get b=some o→o.ro=true∨o.live=false:=fun b o hx=>by
 obtain⟨_,ob,_,rfl⟩:=obH_some hx
 exact .inl rfl
theorem obsL_keys:∀(l:List Ob) (n:Nat),((obsL n l).map (·.1)).Nodup∧∀b∈(obsL n l).map (·.1),n≤b∧b<n+l.length
 |[],n=>⟨by simp[obsL],fun b hb=>by simp[obsL]at hb⟩
 |o::l,n=>by
  obtain⟨h1,h2⟩:=obsL_keys l (n+1)
  refine⟨?_,fun b hb=> ?_⟩
  ·simp only[obsL,List.map_cons,List.nodup_cons]
   exact⟨fun q=>by have:=(h2 n q).1;omega,h1⟩
  ·simp only[obsL,List.map_cons,List.mem_cons]at hb
   rcases hb with rfl|hb
   ·simp
   ·have:=h2 b hb
    simp only[List.length_cons]
    omega
theorem obH_rdy(l:List Ob):Rdy (obH l):=⟨⟨(obsL_keys l 8).1,fun b hb=>((obsL_keys l 8).2 b hb).2⟩,rfl⟩
section
variable {H:Type} {enc:TypeId×Value→H} {W:World} {base:Nat} {spare:Nat→Bool} {held:Bool}
end
end Go.A.Pk
end
