/- Walks of functions, plain laws, the table. -/
import Derived.Test.YtgffeapobcfigaaGreatDoorNU2
import Derived.Test.YtgffeapobcfigaaGreatDoorNU1
import Derived.Shelf.SlSortCmp.NoneTotal
import Derived.Test.YtgffeapobcfigaaGreatDoorProg
import Derived.Test.YtgffeapobcfigaaGreatDoorNH
import Derived.KernelRfl
import Derived.Test.YtgffeapobcfigaaGreatDoorNF
import Derived.Test.YtgffeapobcfigaaGreatDoorND
set_option linter.all false
section
set_option maxRecDepth 100000
namespace Go.A.Pk
variable {T:Nat→Option ah}
inductive OwE (lo:Nat) (h:Heap) (sz:Nat):Value→Nat→List Value→Prop
 |own {v n cs}:Own lo h sz v n cs→OwE lo h sz v n cs
 |lit {b}:lo≤b→b<h.next→h.get b=some (.cells [] true sz)→OwE lo h sz (.slice (some ⟨b,0,none⟩) 0 0) 0 []
theorem OwE.keep{lo sz n:Nat}{h h':Heap}{v:Value}{cs:List Value}(s:OwE lo h sz v n cs)(hn:h.next≤h'.next)(ha:∀z,lo≤z→z<h.next→h'.get z=h.get z):OwE lo h' sz v n cs:=by
 cases s with
 |own s=>exact .own (s.keep hn ha)
 |lit h1 h2 h3=>exact .lit h1 (by omega) ((ha _ h1 h2).trans h3)
theorem OwE.ext{lo sz n:Nat}{h h':Heap}{v:Value}{cs:List Value}(s:OwE lo h sz v n cs)(x:Ext h h'):OwE lo h' sz v n cs:=s.keep x.next fun z _ hz=>x.old z hz
section
variable {base:Nat} {rnd:Option Nat} {Q:XQ} {e:Env} {ds:Dfs} {h:Heap} {dst:Option Nat} {os:List aZ} {x y:Operand} {v u:Value} {lo sz n i:Nat} {cs:List Value} {k:IntKind}
theorem xE(hx:ev h e x=some (.slice none 0 0))(hy:ev h e y=some (.int k ((0:Nat):Int))):aop h base e (.slice (.sl sz) x (some y) none none)=some (.val (.slice none 0 0) h):=by
 simp only[aop,hx,fQ,nV hy,nS]
 rfl
theorem Fh(s:Own lo h sz v n cs)(hi:i≤n)(hx:ev h e x=some v)(hy:ev h e y=some (.int k (i:Nat)))
 (hK:∀u,dF h sz u=some (cs.take (i*sz),i)→WO T base rnd Q os (bO e dst u) ds h):WO T base rnd Q (⟨dst, .slice (.sl sz) x none (some y) none,none⟩::os) e ds h:=by
 cases s with
 |nil=>
  obtain rfl:i=0:=by omega
  refine ak (Bi hx (nV hy)) (hK _ ?_)
  simp[dF]
 |full h1 h2 h3 h4 h5=>
  refine ak (o7 hx hy h3 hi (by omega)) (hK _ ?_)
  exact iR h3 (by rw[cg,List.drop_zero,dh]) (by rw[List.length_take,h4,Nat.min_eq_left (Nat.mul_le_mul_right _ hi)])
theorem G7(s:Own lo h sz v n cs)(hi:i≤n)(hx:ev h e x=some v)(hy:ev h e y=some (.int k (i:Nat)))
 (hK:∀u h',dF h' sz u=some (cs.drop (i*sz),n-i)→Ext h h'→WO T base rnd Q os (bO e dst u) ds h'):WO T base rnd Q (⟨dst, .slice (.sl sz) x (some y) none none,none⟩::os) e ds h:=by
 cases s with
 |nil=>
  obtain rfl:i=0:=by omega
  refine ak (xE hx hy) (hK _ _ ?_ (.refl h))
  simp[dF]
 |full h1 h2 h3 h4 h5=>
  rcases Nat.lt_or_ge i n with hlt|hge
  ·refine ak (mF hx hy h3 hlt) (hK _ _ ?_ (.refl h))
   have e1:(cs.drop (i*sz)).length=(n-i)*sz:=by rw[List.length_drop,h4,Nat.sub_mul]
   exact iR h3 (by rw[cg,Nat.zero_add,dh,List.take_of_length_le (by omega)]) e1
  ·obtain rfl:i=n:=by omega
   refine ak (Ak hx hy h3 h5) (hK _ _ ?_ ((Ext.refl h).push _))
   rw[List.drop_of_length_le (by omega),Nat.sub_self]
   exact iR (z3 h _) (by simp[dh]) (by simp)
theorem CC{bytes b:Nat}(hb:h.get b=some (.cells [] true sz))(hbn:b<h.next)(hlo:lo≤b)(hn:n<1000000)(hby:bytes≤100000)(hx:ev h e x=some (.slice (some ⟨b,0,none⟩) 0 0))(hy:ev h e y=some u)(hs:dF h sz u=some (cs,n))(hcs:cs.length=n*sz)
 (hK:∀v' h',OwE lo h' sz v' n cs→Ext h h'→WO T base rnd Q os (bO e dst v') ds h'):WO T base rnd Q (⟨dst, .append sz bytes x y,none⟩::os) e ds h:=by
 by_cases h0:n=0
 ·subst h0
  obtain rfl:cs=[]:=List.length_eq_zero_iff.1 (by omega)
  exact ak (pg hx hy hs (Nat.le_refl _)) (hK _ _ (.lit hlo hbn hb) (.refl h))
 ·have hbd:(2*(0+n)+768)*bytes≤281474976710656:=by
   have:(2*(0+n)+768)*bytes≤2000768*100000:=Nat.mul_le_mul (by omega) hby
   omega
  refine ak (pK (len:=0) (c:=0) (ws:=cs) hx hy hs h0 (by omega) (by decide) hb (by simp) hbd (by simp[dh,dL])) ?_
  refine hK _ _ (.own ?_) ((Ext.refl h).push _)
  rw[Nat.zero_add]
  exact .full (by omega) (Nat.lt_succ_self _) (z3 _ _) hcs h0
theorem D9{bytes:Nat}{c1:List Value}(s:OwE lo h sz v n cs)(hn:n<1000000)(hsz:0<sz)(hby:bytes≤100000)(hlo:lo≤h.next)(hbase:base≤lo)
 (hx:ev h e x=some v)(hy:ev h e y=some u)(hs:dF h sz u=some (c1,1))(hl1:c1.length=sz)(h1:eM c1=true)
 (hK:∀v' h',Own lo h' sz v' (n+1) (cs++c1)→Lx lo h h'→WO T base rnd Q os (bO e dst v') ds h'):WO T base rnd Q (⟨dst, .append sz bytes x y,none⟩::os) e ds h:=by
 cases s with
 |own s=>exact xk s hn hsz hby hlo hbase hx hy hs hl1 h1 hK
 | @lit b q1 q2 q3=>
   have hbd:(2*(0+1)+768)*bytes≤281474976710656:=by
    have:(2*(0+1)+768)*bytes≤770*100000:=Nat.mul_le_mul (by omega) hby
    omega
   refine ak (pK (len:=0) (c:=0) (n:=1) (ws:=c1) hx hy hs (by omega) (by omega) (by decide) q3 (by simp) hbd (by simp[dh,dL])) ?_
   refine hK _ _ ?_ ((Lx.refl lo h).push hlo _)
   exact .full hlo (Nat.lt_succ_self _) (z3 _ _) (by simp[hl1]) (by omega)
theorem JT{bytes m:Nat}{c2:List Value}(s:Own lo h sz v n cs)(h0:n≠0)(hn:n+m<1000000)(hsz:0<sz)(hby:bytes≤100000)(hlo:lo≤h.next)(hbase:base≤lo)
 (hx:ev h e x=some v)(hy:ev h e y=some u)(hs:dF h sz u=some (c2,m))(hl1:c2.length=m*sz)(h1:eM c2=true)
 (hK:∀v' h',Own lo h' sz v' (n+m) (cs++c2)→Lx lo h h'→WO T base rnd Q os (bO e dst v') ds h'):WO T base rnd Q (⟨dst, .append sz bytes x y,none⟩::os) e ds h:=by
 have hbd:(2*(n+m)+768)*bytes≤281474976710656:=by
  have:(2*(n+m)+768)*bytes≤2000768*100000:=Nat.mul_le_mul (by omega) hby
  omega
 cases s with
 |nil=>exact absurd rfl h0
 | @full q _ _ q1 q2 q3 q4 q5=>
   by_cases hm:m=0
   ·subst hm
    obtain rfl:c2=[]:=List.length_eq_zero_iff.1 (by omega)
    refine ak (pg hx hy hs (by unfold UNK;omega)) (hK _ _ ?_ (.refl lo h))
    rw[List.append_nil]
    exact .full q1 q2 q3 q4 q5
   ·refine ak (pP (n:=m) (vs:=cs) (ws:=cs++c2) hx hy hs hm q3 q4 hsz h1 hbd (dL _ _)) ?_
    refine hK _ _ ?_ (((Lx.refl lo h).wr q1 (by omega)).push hlo _)
    exact .full hlo (Nat.lt_succ_self _) (z3 _ _) (by rw[List.length_append,q4,hl1,Nat.add_mul]) (by omega)
end
end Go.A.Pk
end
section
set_option maxRecDepth 100000
namespace Go.A.Pk
variable {T:Nat→Option ah}
theorem Ex{base:Nat}{rnd:Option Nat}{Q:XQ}{e:Env}{ds:Dfs}{h:Heap}{lo sz bytes n:Nat}{dst:Option Nat}{os:List aZ}{x y:Operand}{v u:Value}{cs c1:List Value}(s:Own lo h sz v n cs)(hn:n<1000000)(hsz:0<sz)(hb:bytes≤100000)
 (hx:ev h e x=some v)(hy:ev h e y=some u)(hs:dF h sz u=some (c1,1))(hl1:c1.length=sz)(h1:eM c1=true)
 (hK:∀h',Own h.next h' sz (.slice (some ⟨h.next,0,none⟩) (n+1) UNK) (n+1) (cs++c1)→h'.next=h.next+1→(∀z∈h'.log,lo≤z∨z∈h.log)→(WF h→WF h')→(∀z,z<h.next→(∀m c,v≠ .slice (some ⟨z,0,none⟩) m c)→h'.get z=h.get z)→WO T base rnd Q os (bO e dst (.slice (some ⟨h.next,0,none⟩) (n+1) UNK)) ds h'):
 WO T base rnd Q (⟨dst, .append sz bytes x y,none⟩::os) e ds h:=by
 have hbd:(2*(n+1)+768)*bytes≤281474976710656:=by
  have:(2*(n+1)+768)*bytes≤2000768*100000:=Nat.mul_le_mul (by omega) hb
  omega
 cases s with
 |nil=>
  refine ak (vu (n:=1) hx hy hs (by omega) (by simpa using hbd) rfl) ?_
  exact hK _ (Own.full (lo:=h.next) (h:=h.push (.cells c1 true sz)) (sz:=sz) (q:=h.next) (n:=1) (cs:=c1) (Nat.le_refl _) (Nat.lt_succ_self _) (z3 _ _) (by omega) (by omega)) rfl (fun z hz=> .inr hz) (fun w=>w.push _) (fun z hz _=>z4 hz)
 | @full q _ _ q1 q2 q3 q4 q5=>
   refine ak (pP (n:=1) (vs:=cs) (ws:=cs++c1) hx hy hs (by omega) q3 q4 hsz h1 hbd (dL _ _)) ?_
   exact hK _ (.full (Nat.le_refl _) (Nat.lt_succ_self _) (z3 _ _) (by rw[List.length_append,q4,hl1,Nat.add_mul,Nat.one_mul]) (by omega)) rfl (fun z hz=>by
    rcases fB (b:=q) (o:= .dead) hz with rfl|hz
    ·exact .inl q1
    ·exact .inr hz) (fun w=>(w.as (AS.wr base _ q .dead)).push _) (fun z hz hne=>(z4 (by exact hz)).trans (z5 (fun e=>hne n UNK (by subst e;rfl))))
section
open I
def vV:bn:=I.R [g 8 (.new (aM 8 (.int .u64 0))),S 8 8 16] [6,8]
def vh:bn:= .block 1 (I.R [L 17 6,N 18 8 8,g 19 (.cT (aM 8 (.int .u64 0)) 1 [(0,8,(t 18))]),g 20 (.append 8 64 (t 17) (t 19)),S 1 6 20] [])
end
set_option maxHeartbeats 8000000 in
theorem zu(hp:bg T){H:Heap}(hr:Rdy H){q l lo lo2:Nat}{fv v:Value}{ss:List (List Nat)}{f:Fi}(hfs:IsS f.s)(hm:ss.length<1000000)(hlo:lo≤q)
 (gl:H.get l=some (.loop [(6, .pointer (some ⟨q,0,none⟩)),(14,fv)] [15,16] vV vh 0 .normal))
 (go:H.get q=some (.cells [v] true 1))(own:Own lo2 H 8 v ss.length (ssL ss))(hlo2:lo≤lo2)(hq2:q<lo2)(hl2:l<lo2)(h2n:lo2≤H.next):
 FW T (.yield l) (fiV f) H fun r H'=>r= .ret (.bool true)∧(∀z∈H'.log,lo≤z)∧q∈H'.log∧∃p,H'.get q=some (.cells [.slice (some ⟨p,0,none⟩) (ss.length+1) UNK] true 1)∧H.next≤p∧Own lo2 H' 8 (.slice (some ⟨p,0,none⟩) (ss.length+1) UNK) (ss++[f.s]).length (ssL (ss++[f.s]))∧(∀z,z<H.next→z≠q→(∀m c,v≠ .slice (some ⟨z,0,none⟩) m c)→H'.get z=H.get z)∧WF H'∧H.next≤H'.next∧p<H'.next:=by
 have no:q≠l:=fun e=>by subst e;rw[go]at gl;cases gl
 have ko:=hr.wf.jW go
 have kl:=hr.wf.jW gl
 have hvl:∀m c,v≠ .slice (some ⟨l,0,none⟩) m c:=fun m c e=>by
  rw[e]at own
  generalize hn:ss.length=n at own
  generalize ssL ss=cs at own
  cases own with
  |full h1=>omega
 have hvq:∀m c,v≠ .slice (some ⟨q,0,none⟩) m c:=fun m c e=>by
  rw[e]at own
  generalize hn:ss.length=n at own
  generalize ssL ss=cs at own
  cases own with
  |full h1=>omega
 refine FW.KT hp (q:=q) (R:=fun H'=>∃p,H'.get q=some (.cells [.slice (some ⟨p,0,none⟩) (ss.length+1) UNK] true 1)∧H.next≤p∧Own lo2 H' 8 (.slice (some ⟨p,0,none⟩) (ss.length+1) UNK) (ss++[f.s]).length (ssL (ss++[f.s]))∧(∀z,z<H.next→z≠q→(∀m c,v≠ .slice (some ⟨z,0,none⟩) m c)→H'.get z=H.get z)∧WF H'∧H.next≤H'.next∧p<H'.next) gl rfl kl ko no ?_
 have k8:=aP hfs.len
 have k9:=bq hfs.len
 have kln:=hfs.len
 unfold vV
 refine aA ?_;refine ak (cQ) ?_
 refine ak (cO (by exact rfl) (by exact rfl) (by(simp(disch:=first|omega|(simp only[z1,z2];omega))only[z3,z4,z5,z6,z7,z1,z2,gl,go];exact rfl)) (by(simp only[aH];assumption)) (by exact rfl) (by exact cW _)) ?_;refine dK ?_
 refine y1 ?_
 refine⟨rfl,by(simp(disch:=first|omega|(simp only[z1,z2];omega))only[z3,z4,z5,z6,z7,z1,z2,gl,go];exact rfl),?_⟩
 unfold vh
 refine au ?_
 refine WE.Hr ?_
 intro hA hAe
 have A1:∀z,z<H.next→z≠l→H.get z=hA.get z:=fun z hz hne=>by rw[hAe];symm;simp(disch:=first|omega|(simp only[z1,z2];omega))only[z5,z4]
 have A3:hA.get H.next=some (.cells (us f.s) true 1):=by rw[hAe];(simp(disch:=first|omega|(simp only[z1,z2];omega))only[z3,z4,z5,z6,z7,z1,z2,gl,go];done)
 have A2:hA.get l=some (.loop [(6, .pointer (some ⟨q,0,none⟩)),(14,fv)] [15,16] vV vh 1 .normal):=by rw[hAe];(simp(disch:=first|omega|(simp only[z1,z2];omega))only[z3,z4,z5,z6,z7,z1,z2,gl,go,A3];exact rfl)
 have A5:hA.next=H.next+1:=by rw[hAe];rfl
 have A6:hA.log=[]:=by rw[hAe];simp(disch:=first|omega|(simp only[z1,z2];omega))only[Heap.aC,Heap.tj];exact hr.log
 have A7:WF hA:=by rw[hAe];exact(((hr.wf.push _).as (AS.wr _ _ _ _)).as (AS.wr _ _ _ _))
 clear hAe
 have Bo:=(A1 q ko no).symm.trans go
 have hsl:ssL [f.s]=us f.s:=by simp[ssL]
 have ownA:Own lo2 hA 8 v ss.length (ssL ss):=own.keep (by omega) fun z hz hz2=>(A1 z hz2 (by omega)).symm
 clear go
 refine aA ?_;refine yL ?_;refine yV ?_
 refine ak (iH (oK hfs (by exact rfl)) (show bR (aM 8 (Value.int IntKind.u64 0))=8 from rfl)) ?_
 refine Ex (lo:=lo2) (c1:=us f.s) (ownA.ext ((Ext.refl hA).push _)) hm (by omega) (by omega) (by exact rfl) (by exact rfl) (iR (cs:=us f.s) (by(simp(disch:=first|omega|(simp only[z1,z2];omega))only[z3,z4,z5,z6,z7,z1,z2,gl,A3,A2,Bo];exact rfl)) k9 (by rw[aH,hfs.len])) (by rw[aH,hfs.len]) (cW _) ?_
 intro h3 own3 n3 l3 w3 o3
 have own3:Own (H.next+2) h3 8 (.slice (some ⟨H.next+2,0,none⟩) (ss.length+1) UNK) (ss.length+1) (ssL ss++us f.s):=by
  have e:(hA.push (.cells (us f.s) true 8)).next=H.next+2:=by show hA.next+1=_;omega
  rw[←e];exact own3
 have n3:h3.next=H.next+3:=by rw[n3];show hA.next+1+1=_;omega
 have l3:∀z∈h3.log,lo2≤z:=fun z hz=>(l3 z hz).elim id fun e=>by
  have e:z∈hA.log:=e
  rw[A6]at e;cases e
 have o3:∀z,z<H.next+1→(∀m c,v≠ .slice (some ⟨z,0,none⟩) m c)→h3.get z=hA.get z:=fun z hz hne=>(o3 z (by show z<hA.next+1;omega) hne).trans (z4 (by omega))
 have W3:WF h3:=w3 (A7.push _)
 have e5:∀o,(hA.push o).next=H.next+2:=fun o=>by show hA.next+1=_;omega
 rw[e5]
 have Co:=(o3 q (by omega) hvq).trans Bo
 have Cl:=(o3 l (by omega) hvl).trans A2
 have hce:ssL (ss++[f.s])=ssL ss++us f.s:=by rw[mQ,hsl]
 have hcl:(ss++[f.s]).length=ss.length+1:=by simp
 clear Bo A3 A2
 refine yS ?_;refine dK ?_;refine y1 ?_;refine eD ?_
 refine⟨rfl,⟨_,by(simp(disch:=first|omega|(simp only[z1,z2];omega))only[z3,z4,z5,z6,z7,z1,z2,gl,Co,Cl];exact rfl),rfl⟩,fun z hz=> ?_,tY (by omega),⟨_,_,_,Heap.bw Co,rfl⟩,H.next+2,(z5 no).trans (Heap.bw Co),by omega,?_,fun z hz h1 h2=> ?_,?_,?_,?_⟩
 ·rcases fB hz with rfl|hz
  ·exact hlo
  ·exact Nat.le_trans hlo2 (l3 z hz)
 ·rw[hce,hcl]
  exact Own.low (lo:=H.next+2) (Own.keep own3 (Nat.le_refl _) fun z hz _=>(z5 (by omega)).trans (z5 (by omega))) (by omega)
 ·by_cases hl:z=l
  ·subst hl
   rw[gl]
   exact Heap.bw ((z5 (Ne.symm no)).trans Cl)
  ·exact(z5 hl).trans ((z5 h1).trans ((o3 z (by omega) h2).trans (A1 z (by omega) hl).symm))
 ·exact(W3.as (AS.wr _ _ _ _)).as (AS.wr _ _ _ _)
 ·show H.next≤h3.next
  omega
 ·show H.next+2<h3.next
  omega
theorem sQ{a b:List Nat}{f:Fi}(h:f∈iz a b):IsS f.s∧∃t x y z,f.s=j7 (dz b t) (bD (dz b t)).1 x y z:=by
 unfold iz at h
 split at h
 ·cases h
 ·obtain⟨t,_,h⟩:=List.mem_flatMap.1 h
  unfold nF DB tf ru sH at h
  obtain⟨z,_,h⟩:=List.mem_flatMap.1 h
  obtain⟨y,_,h⟩:=List.mem_flatMap.1 h
  obtain⟨x,_,h⟩:=List.mem_flatMap.1 h
  split at h
  ·rw[List.mem_singleton.1 h]
   exact⟨l9 (kG b t) _ _ _ _,t,x,y,z,rfl⟩
  ·cases h
structure PPl (l q:Nat) (H0:Heap) (L:bN) (done:List Fi) (H:Heap):Prop where
 old:∀z,z<l→z≠q→H.get z=H0.get z
 loop:H.get l=some L
 nx:l<H.next
 val:∃v,H.get q=some (.cells [v] true 1)∧Own (l+1) H 8 v (done.map (·.s)).length (ssL (done.map (·.s)))
 few:done.length≤100000
def wPl(q:Nat)(H:Heap)(z:Nat):Prop:=z=q∨∃m c,H.get q=some (.cells [.slice (some ⟨z,0,none⟩) m c] true 1)
theorem PPl.gT{l q:Nat}{H0:Heap}{L:bN}(hq:q<l)(done:List Fi)(H H':Heap)(p:PPl l q H0 L done H)(hn:H.next≤H'.next)(h:∀x,x<H.next→H'.get x=H.get x):PPl l q H0 L done H':=by
 obtain⟨p1,p2,p3,⟨v,p4,p5⟩,p6⟩:=p
 exact⟨fun z hz hne=>(h z (by omega)).trans (p1 z hz hne),(h l p3).trans p2,by omega,⟨v,(h q (by omega)).trans p4,p5.keep hn fun z _ hz=>h z hz⟩,p6⟩
theorem Eb{lo sz n:Nat}{h:Heap}{p m c:Nat}{cs:List Value}(s:Own lo h sz (.slice (some ⟨p,0,none⟩) m c) n cs):lo≤p∧p<h.next:=by
 cases s with
 |full h1 h2=>exact⟨h1,h2⟩
theorem BY(hf:T 189=some (.jV (nj 168 190))){k:Nat}(hk:k=168∨k=190){lo:Nat}{h:Heap}{v:Value}{l:List (List Nat)}(s:OwS lo h v l)(hok:∀x∈l,IsS x)(hl:l.length<1000000):
 Gs T 189 [v, .func (.func k) #[] #[]] h (vB v) (fun _ h'=>OwS lo h' v (eG l)):=by
 have hlen:=jy l
 have e0:Dn 168 190 (.func (.func k) #[] #[])=true:=by
  rcases hk with rfl|rfl<;>rfl
 rcases s with⟨rfl,rfl⟩|⟨b,c,tl,h1,h2,h3,rfl,h4,h5⟩
 ·have e:eG []=[]:=List.length_eq_zero_iff.1 hlen
  rw[e]
  refine⟨.ret (.tuple #[]),h,⟨1,fun n hn=> ?_⟩,⟨Nat.le_refl _,fun z hz=> .inl hz,fun _ _ _=>rfl,id⟩, .tuple #[],rfl, .inl ⟨rfl,rfl⟩⟩
  obtain⟨k',rfl⟩:∃k,n=k+1:=⟨n-1,by omega⟩
  simp only[iE,hf,nj,e0,cond_true]
 ·have e2:(Dn 168 190 (.func (.func k) #[] #[])&&(Nat.beq 0 0&&Nat.blt l.length 1000000))=true:=by rw[e0,gj hl];rfl
  have e3:=Ac (t:=tl) hok
  have e4:bE (l.length*8) (ssL l++tl)=tl:=by rw[cg,←eS hok,List.drop_left]
  refine⟨.ret (.tuple #[]),h.wr h.next b (.cells (ssL (eG l)++tl) true 8),⟨1,fun n hn=> ?_⟩,?_, .tuple #[],rfl, .inr ⟨b,c,tl,h1,h2,?_,by rw[hlen],by omega,fun q=>h5 fun q2=>q (by rw[q2];exact List.length_eq_zero_iff.1 (jy []))⟩⟩
  ·obtain⟨k',rfl⟩:∃k,n=k+1:=⟨n-1,by omega⟩
   simp only[iE,hf,nj,h3,e2,cond_true,e3,e4]
  ·refine⟨Nat.le_refl _,fun z hz=> ?_,fun z hz hnz=> ?_,fun w=>w.as (AS.wr h.next _ _ _)⟩
   ·rcases fB hz with rfl|hz
    ·exact .inr ⟨_,_,rfl⟩
    ·exact .inl hz
   ·exact z5 (fun e=>hnz (by rw[e];exact⟨_,_,rfl⟩))
  ·show(h.wr h.next b (.cells (ssL (eG l)++tl) true 8)).get b=_
   rw[z6,h3];rfl
structure EJ (T:Nat→Option ah):Prop where
 fi:Ku T
 f72:T 72=some f72
 f167:T 167=some f167
 f189:T 189=some (.jV (nj 168 190))
 f192:T 192=some f192
theorem Dm(F:EJ T){h:Heap}(hr:Rdy h){lo:Nat}(hlo:h.next≥lo){v:Value}{l:List (List Nat)}(s:OwS lo h v l)(hok:∀x∈l,IsS x)(hl:l.length<1000000):
 Gs T 167 [v, .func (.func 168) #[] #[]] h (vB v) (fun v h'=>OwS lo h' v (ddS (eG l))):=by
 have hp:=F.fi.ft.li.p
 refine .of hp F.f167 (fun v h1 h2 hv hn2 hag hq=>OwS.flat hv hq) ?_
 have C1:=BY F.f189 (.inl rfl) (h:={h with log:=[]}) (s.log []) hok hl
 refine y4 ?_;refine yM ?_;refine y3 ?_;refine y4 ?_;refine yM ?_;refine yM ?_
 refine yC ?_
 refine FW.gs C1 (fun v h' m q=>q.log m) ?_
 rintro _ H1 x1 q1
 clear C1
 have hok2:∀x∈eG l,IsS x:=fun x hx=>hok x (fW.1 hx)
 have C2:=tA hp F.f192 (h:={H1 with log:=[]}) (.of (x1.wf hr.wf)) (q1.log []) hok2 (by rw[jy];exact hl)
 refine y3 ?_;refine y4 ?_;refine yM ?_
 refine yC ?_
 refine FW.gs C2 (fun v h' m q=>q.log m) ?_
 rintro v2 H2 x2 q2
 clear C2
 have lg1:∀z∈H1.log,vB v z:=fun z hz=>(x1.log z hz).elim (fun q=>by rw[hr.log]at q;cases q) id
 have lg2:∀z∈H2.log,vB v z:=fun z hz=>(x2.log z hz).elim (fun q=>lg1 z q) id
 refine yM ?_;refine y3 ?_;refine aJ ?_
 exact lX lg2 rfl q2
def jX(a b:List Nat):List (List Nat):=if b=s0 then []else ddS (eG ((iz a b).map (·.s)))
theorem oJ{a b s:List Nat}(h:s∈jX a b):IsS s:=by
 unfold jX at h
 split at h
 ·cases h
 ·obtain⟨f,hf,rfl⟩:=List.mem_map.1 (fW.1 (mT h))
  exact(sQ hf).1
theorem JQ(lo:Int)(n:Nat):(zrN lo n).length=n:=by unfold zrN;simp
theorem pU{α β:Type}{f:α→List β}{k:Nat}:∀{l:List α},(∀x∈l,(f x).length≤k)→(l.flatMap f).length≤l.length*k
 |[],_=>by simp
 |x::l,h=>by
  have h1:=h x List.mem_cons_self
  have h2:=pU fun y hy=>h y (List.mem_cons_of_mem x hy)
  rw[List.flatMap_cons,List.length_append,List.length_cons,Nat.add_mul];omega
theorem vz(a b:List Nat):(iz a b).length≤98304:=by
 have hz:∀{lo hi:Int}, -7≤lo→hi≤7→(zr lo hi).length≤16:=fun {lo hi} h1 h2=>by
  unfold zr;rw[JQ];omega
 have ra:=gr a
 unfold iz
 split
 ·simp
 ·refine Nat.le_trans (pU (k:=4096) fun t _=> ?_) (by simp)
  have bp:=gr (dz b t)
  obtain⟨⟨⟨r1,r2⟩,⟨r3,r4⟩,⟨r5,r6⟩⟩,⟨⟨r7,r8⟩,⟨r9,r10⟩,⟨r11,r12⟩⟩⟩:=ra
  obtain⟨⟨⟨b1,b2⟩,⟨b3,b4⟩,⟨b5,b6⟩⟩,⟨⟨b7,b8⟩,⟨b9,b10⟩,⟨b11,b12⟩⟩⟩:=bp
  unfold nF DB
  refine Nat.le_trans (pU (k:=256) fun z _=> ?_) (by have:=hz (lo:=(bD a).1.lo.z-(bD (dz b t)).1.lo.z) (hi:=(bD a).1.hi.z-(bD (dz b t)).1.hi.z) (by omega) (by omega);omega)
  unfold tf
  refine Nat.le_trans (pU (k:=16) fun y _=> ?_) (by have:=hz (lo:=(bD a).1.lo.y-(bD (dz b t)).1.lo.y) (hi:=(bD a).1.hi.y-(bD (dz b t)).1.hi.y) (by omega) (by omega);omega)
  unfold ru
  refine Nat.le_trans (pU (k:=1) fun x _=> ?_) (by have:=hz (lo:=(bD a).1.lo.x-(bD (dz b t)).1.lo.x) (hi:=(bD a).1.hi.x-(bD (dz b t)).1.hi.x) (by omega) (by omega);omega)
  unfold sH
  split<;>simp
theorem qn(a b:List Nat):(jX a b).length≤98304:=by
 unfold jX
 split
 ·simp
 ·refine Nat.le_trans (xh _) ?_
  rw[jy,List.length_map];exact vz a b
def Is(b:List Nat):Int:=if b=s0 then 1 else 0
set_option maxHeartbeats 16000000 in
theorem Ho(F:EJ T){h:Heap}(hr:Rdy h)(hg:Tab h)(h2:2<h.next){a b:List Nat}(ha:IsS a)(hb:IsS b):
 Al T 72 [sv a,sv b] h fun v h'=>∃u,v= .tuple #[u, .int .i64 (Is b)]∧OwS h.next h' u (jX a b):=by
 have hp:=F.fi.ft.li.p
 refine .of hp F.f72 hr ?_ ?_
 ·rintro v h1 hv ⟨u,rfl,q⟩
  have hu:cw u=true:=by
   have e:cw (.tuple #[u, .int .i64 (Is b)])=gZ [u, .int .i64 (Is b)]:=rfl
   rw[e]at hv
   simp only[gZ,cond_eq_ite,Bool.if_false_right,Bool.and_eq_true]at hv
   have hf:flat u=true:=of_decide_eq_true hv.1
   unfold cw
   split
   ·rename_i cs
    rcases q with⟨h1,_⟩|⟨_,_,_,_,_,_,h1,_⟩<;>cases h1
   ·exact hf
  exact⟨u,rfl,OwS.flat hu q⟩
 have ka8:=aP ha.len
 have ka9:=bq ha.len
 have kb8:=aP hb.len
 have kb9:=bq hb.len
 have x0:Ext h ((h.push (.cells (cellsOf (sv a)) true 1)).push (.cells (cellsOf (sv b)) true 1)):=((Ext.refl h).push _).push _
 have gA:((h.push (.cells (cellsOf (sv a)) true 1)).push (.cells (cellsOf (sv b)) true 1)).get h.next=some (.cells (us a) true 1):=by(simp(disch:=first|omega|(simp only[z1,z2];omega))only[z3,z4,z5,z6,z7,z1,z2];exact rfl)
 have gB:((h.push (.cells (cellsOf (sv a)) true 1)).push (.cells (cellsOf (sv b)) true 1)).get (h.next+1)=some (.cells (us b) true 1):=by(simp(disch:=first|omega|(simp only[z1,z2];omega)|(simp only[z1,z2];done)|fail)only[z8,z4,z5,z9,z7,z1,z2,gA];exact rfl)
 have n0:((h.push (.cells (cellsOf (sv a)) true 1)).push (.cells (cellsOf (sv b)) true 1)).next=h.next+2:=rfl
 refine y4 ?_;refine yB ?_;refine yB ?_;refine yM ?_;refine yM ?_;refine y3 ?_
 generalize((h.push (.cells (cellsOf (sv a)) true 1)).push (.cells (cellsOf (sv b)) true 1))=H at*
 have W:=x0.wf hr.wf
 have hL:=x0.log.trans hr.log
 have hfl:=vz a b
 unfold jX Is
 by_cases he:b=s0
 ·rw[if_pos he,if_pos he]
  refine af ?_;refine y4 ?_;refine yV ?_;refine ak (cZ (by exact rfl)) ?_
  refine ak (iZ (b:=s0) (by exact rfl) (by exact rfl) hb.len rfl) ?_
  rw[decide_eq_true he]
  refine y3 ?_;refine yY ?_;refine y4 ?_;refine yM ?_;refine yM ?_;refine y3 ?_;refine aJ ?_;refine eC ?_
  exact dN hL rfl ⟨_,rfl, .inl ⟨rfl,rfl⟩⟩
 rw[if_neg he,if_neg he]
 refine af ?_;refine y4 ?_;refine yV ?_;refine ak (cZ (by exact rfl)) ?_
 refine ak (iZ (b:=s0) (by exact rfl) (by exact rfl) hb.len rfl) ?_
 rw[decide_eq_false he]
 have x1:Ext H (H.push (.cells [.slice none 0 0] true 1)):=(Ext.refl H).push _
 have q6:(H.push (.cells [.slice none 0 0] true 1)).get H.next=some (.cells [.slice none 0 0] true 1):=z3 _ _
 have n1:(H.push (.cells [.slice none 0 0] true 1)).next=H.next+1:=rfl
 refine y3 ?_;refine yX ?_;refine aB ?_;refine aN ?_;refine y4 ?_;refine ak (cQ) ?_;refine y3 ?_
 generalize(H.push (.cells [.slice none 0 0] true 1))=H1 at*
 have ey1':=x0.trans x1
 have W1:=ey1'.wf hr.wf
 have hL1:=ey1'.log.trans hr.log
 have gA1:=(x1.old _ (by omega)).trans gA
 have gB1:=(x1.old _ (by omega)).trans gB
 have C:=Jq F.fi (h:={H1 with log:=[]}) (.of W1) ha hb
 clear gA gB
 refine af ?_;refine y4 ?_;refine yV ?_;refine yV ?_
 refine yC ?_
 refine FW.al C (fun v h' m q=>q) ?_
 rintro _ H2 x2 ⟨qa,qb,rfl,ga,gb,kqa,kqb,na,nb⟩
 clear C
 have na:H1.next≤qa:=na
 have nb:H1.next≤qb:=nb
 have ey2':=ey1'.trans x2
 have W2:=ey2'.wf hr.wf
 have hL2:=ey2'.log.trans hr.log
 have n2:=x2.next
 have p6:=(x2.old _ (by omega)).trans q6
 have hg2:Tab H2:=hg.ext ey2' h2
 clear gA1 gB1 q6
 refine y3 ?_;refine au ?_
 refine DV (lo:=H.next) (P:=PPl H2.next H.next H2 (.loop [(6, .pointer (some ⟨H.next,0,none⟩)),(14,fnF qa qb)] [15,16] vV vh 0 .normal) (iz a b)) rfl (by rfl) (by rw[F.fi.ft.f209];rfl) (by omega) (by omega) hL2 W2 ?_ (fun H p=>⟨_,_,_,_,p.loop⟩) ?_
 ·have Y:CN T H.next (H2.next+1) H2.next H.next fiV (iz a b) (PPl H2.next H.next H2 (.loop [(6, .pointer (some ⟨H.next,0,none⟩)),(14,fnF qa qb)] [15,16] vV vh 0 .normal)) (wPl H.next):=by
   refine⟨by omega,fun done f Hh hx hlen hrH hN hP=> ?_,PPl.gT (by omega),fun done H' H'' p hn hs z hz=> ?_,fun done H' z p hz=> ?_⟩
   ·obtain⟨p1,p2,p3,⟨v,p4,p5⟩,p6⟩:=hP
    refine FW.mono' (zu hp hrH (lo:=H.next) (lo2:=H2.next+1) (ss:=done.map (·.s)) (sQ hx).1 (by rw[List.length_map];omega) (Nat.le_refl _) p2 p4 p5 (by omega) (by omega) (by omega) hN) ?_
    rintro r' H' ⟨r1,r2,r3,p,r4,r5,r6,r7,r8,r9,r10⟩
    have hvl:∀z,z<H2.next+1→∀m c,v≠ .slice (some ⟨z,0,none⟩) m c:=fun z hz m c e=>by
     rw[e]at p5
     have:=(Eb p5).1
     omega
    refine⟨r1,r2,r3,⟨_,_,_,r4,rfl⟩,⟨fun z hz hne=>(r7 z (by omega) hne (hvl z (by omega))).trans (p1 z hz hne),(r7 _ (by omega) (by omega) (hvl _ (by omega))).trans p2,by omega,⟨_,r4,by rw[List.map_append];exact r6⟩,by rw[List.length_append];show done.length+1≤_;omega⟩,fun z hz hn=>r7 z hz (fun e=>hn (.inl e)) fun m c e=>hn (.inr ⟨m,c,by rw[←e];exact p4⟩),fun z hz=> ?_⟩
    rcases hz with rfl|⟨m,c,hz⟩
    ·exact .inl (.inl rfl)
    ·rw[r4]at hz
     cases hz
     exact .inr r5
   ·obtain⟨p1,p2,p3,⟨v,p4,p5⟩,p6⟩:=p
    rcases hz with rfl|⟨m,c,hz⟩
    ·exact .inl rfl
    ·exact .inr ⟨m,c,by rw[←hs _ (by omega)];exact hz⟩
   ·obtain⟨p1,p2,p3,⟨v,p4,p5⟩,p6⟩:=p
    rcases hz with rfl|⟨m,c,hz⟩
    ·omega
    ·rw[p4]at hz
     cases hz
     exact(Eb p5).2
  exact FZ F.fi.ft (.of (W2.push (.loop [(6, .pointer (some ⟨H.next,0,none⟩)),(14,fnF qa qb)] [15,16] vV vh 0 .normal))) (qa:=qa) (qb:=qb) (l:=H2.next) (N:=H2.next+1) (lo:=H.next) ha hb (Nat.le_refl _) (by show H.next≤H2.next+1;omega) (by omega) Y (fun d H' hP=>(hP.old _ kqa (by omega)).trans ga) (fun d H' hP=>(hP.old _ kqb (by omega)).trans gb) (fun d H' hP=>(hP.old 2 (by omega) (by omega)).trans hg2)
   ⟨fun z hz _=>z4 (by omega),z3 _ _,Nat.lt_succ_self _,⟨_,(z4 (by omega)).trans p6, .nil⟩,Nat.zero_le _⟩
 intro h4 h5 k1 k2 k3 k4 k5 k6 hP
 obtain⟨p1,p2,p3,⟨v,p4,p5⟩,p7⟩:=hP
 have D:=(k5 H.next (by omega)).trans p4
 have ow:=p5.keep (h':=h5) (by omega) fun z hz _=>k5 z (by omega)
 have hok:∀x∈(iz a b).map (·.s),IsS x:=fun x hx=>by
  obtain⟨f,hf,rfl⟩:=List.mem_map.1 hx
  exact(sQ hf).1
 have hlen:((iz a b).map (·.s)).length<1000000:=by rw[List.length_map];omega
 generalize(iz a b).map (·.s)=l at*
 have os:=Pk.Own.owS ow (by omega)
 have C:=Dm F (h:={h5 with log:=[]}) (.of k2) (lo:=H2.next+1) (by show H2.next+1≤h5.next;omega) (os.log []) hok hlen
 clear p4 p1 p2
 refine eD ?_;refine aN ?_;refine y4 ?_;refine yL ?_
 refine yC ?_
 refine FW.gs0 C (fun v h' m q=>q.log m) (fun z hz=>by have:=(os.vb hz).1;omega) ?_
 rintro v6 H6 n6 l6 o6 w6 s6
 clear C
 refine yM ?_;refine yM ?_;refine y3 ?_;refine aJ ?_
 exact dN (l6.trans k1) rfl ⟨_,rfl,s6.low (by omega)⟩
structure Cw (T:Nat→Option ah):Prop where
 pl:EJ T
 f35:T 35=some f35
 f92:T 92=some f92
 f121:T 121=some f121
 f124:T 124=some f124
 f193:T 193=some f193
 f194:T 194=some f194
 f195:T 195=some f195
 f196:T 196=some f196
 f197:T 197=some f197
 f257:T 257=some f257
def lF(r:List (List Nat))(x:List Nat):Bool:=r.any fun y=> !decide (y=x)&&sIn y x
def kX(w:List Nat×List Nat)(o:List Nat):List (List Nat):=ddS (eG ((jX w.2 o).map fun p=>dS p w.1))
def nO(w:List Nat×List Nat)(o:List Nat):List (List Nat):=(kX w o).filter fun x=> !lF (kX w o) x
theorem qB{w:List Nat×List Nat}(hw:IsW w){o s:List Nat}(h:s∈kX w o):IsS s:=by
 obtain⟨p,hp,rfl⟩:=List.mem_map.1 (fW.1 (mT h))
 exact(oJ hp).less hw.a
theorem rj(w:List Nat×List Nat)(o:List Nat):(kX w o).length≤98304:=by
 refine Nat.le_trans (xh _) ?_
 rw[jy,List.length_map];exact qn _ _
theorem FM(F:Cw T){h:Heap}(hr:Rdy h){q:Nat}{x y:List Nat}(hx:IsS x)(hy:IsS y)(g:h.get q=some (.cells (us x) true 1)):Pu T 197 [sv y, .pointer (some ⟨q,0,none⟩)] h (.bool (!decide (y=x)&&sIn y x)):=by
 have hp:=F.pl.fi.ft.li.p
 refine .of hp F.f197 hr rfl ?_
 have kq:=hr.wf.jW g
 have kx8:=aP hx.len
 have kx9:=bq hx.len
 have ky8:=aP hy.len
 have ky9:=bq hy.len
 have x0:Ext h (h.push (.cells (cellsOf (sv y)) true 1)):=(Ext.refl h).push _
 have g0:(h.push (.cells (cellsOf (sv y)) true 1)).get h.next=some (.cells (us y) true 1):=by(simp(disch:=first|omega|(simp only[z1,z2];omega))only[z3,z4,z5,z6,z7,z1,z2,g];exact rfl)
 have n0:(h.push (.cells (cellsOf (sv y)) true 1)).next=h.next+1:=rfl
 refine y4 ?_;refine yB ?_;refine yM ?_;refine y3 ?_
 generalize(h.push (.cells (cellsOf (sv y)) true 1))=H at*
 have W:=x0.wf hr.wf
 have hL:=x0.log.trans hr.log
 have gx:=(x0.old _ kq).trans g
 have C:=Jn hp F.f35 F.f121 (h:={H with log:=[]}) (.of W) hy hx
 by_cases he:y=x
 ·rw[decide_eq_true he]
  refine y4 ?_;refine yV ?_;refine yV ?_
  refine ak (iZ (b:=x) (by exact rfl) (by exact rfl) hy.len hx.len) ?_
  rw[decide_eq_true he]
  refine yM ?_;refine yP ?_;refine yP ?_;refine yP ?_;refine yU ?_;refine yM ?_;refine y3 ?_;refine aJ ?_
  exact aF hL rfl rfl
 ·rw[decide_eq_false he]
  refine y4 ?_;refine yV ?_;refine yV ?_
  refine ak (iZ (b:=x) (by exact rfl) (by exact rfl) hy.len hx.len) ?_
  rw[decide_eq_false he]
  refine yM ?_;refine yO ?_;refine yV ?_;refine yO ?_;refine yV ?_;refine yO ?_
  refine yC ?_
  refine FW.pu C ?_
  clear C
  refine yT ?_;refine yM ?_;refine y3 ?_;refine aJ ?_
  exact aF hL rfl rfl
theorem Iz(F:Cw T){h:Heap}(hr:Rdy h){q:Nat}{v:Value}{r:List (List Nat)}(s:SsQ h v r)(hn:r.length<1000000){x:List Nat}(hx:IsS x)(g:h.get q=some (.cells [v] true 1)):Pu T 195 [sv x, .pointer (some ⟨q,0,none⟩)] h (.bool (lF r x)):=by
 have hp:=F.pl.fi.ft.li.p
 refine .of hp F.f195 hr rfl ?_
 have kq:=hr.wf.jW g
 have x0:Ext h (h.push (.cells (cellsOf (sv x)) true 1)):=(Ext.refl h).push _
 have g0:(h.push (.cells (cellsOf (sv x)) true 1)).get h.next=some (.cells (us x) true 1):=by(simp(disch:=first|omega|(simp only[z1,z2];omega))only[z3,z4,z5,z6,z7,z1,z2,g];exact rfl)
 have n0:(h.push (.cells (cellsOf (sv x)) true 1)).next=h.next+1:=rfl
 refine y4 ?_;refine yB ?_;refine yM ?_;refine y3 ?_
 generalize(h.push (.cells (cellsOf (sv x)) true 1))=H at*
 have W:=x0.wf hr.wf
 have hL:=x0.log.trans hr.log
 have gx:=(x0.old _ kq).trans g
 obtain⟨a,c,rfl⟩:=s.sl.form
 have C:=Ag hp F.f196 F.f257 (h:={H with log:=[]}) (.of W) ((s.ext x0).log []) hn (g:=197) (cap:=[.pointer (some ⟨h.next,0,none⟩)]) (fun y=> !decide (y=x)&&sIn y x) fun y hy=>FM F (h:={H with log:=[]}) (.of W) hx (s.ok y hy) g0
 unfold lF
 refine y4 ?_;refine yL ?_;refine ak (ic (by exact rfl) (by exact rfl)) ?_
 refine yC ?_
 refine FW.pu C ?_
 clear C
 refine yM ?_;refine y3 ?_;refine aJ ?_
 exact aF hL rfl rfl
theorem uV{l:List (List Nat)}{i:Nat}{x:List Nat}(f:List Nat→List Nat)(hi:l[i]? =some x):((l.take i).map f++l.drop i).set i (f x)=(l.take (i+1)).map f++l.drop (i+1):=by
 obtain⟨hlt,hx⟩:=List.getElem?_eq_some_iff.1 hi
 have hl:((l.take i).map f).length=i:=by rw[List.length_map,List.length_take];omega
 rw[List.drop_eq_getElem_cons hlt,List.set_append_right _ _ (Nat.le_of_eq hl),hl,Nat.sub_self,List.set_cons_zero,fS hi,List.map_append,List.append_assoc]
 rfl
theorem ze{l:List (List Nat)}{i:Nat}{x:List Nat}(f:List Nat→List Nat)(hi:l[i]? =some x):((l.take i).map f++l.drop i)[i]? =some x:=by
 have hlt:=(List.getElem?_eq_some_iff.1 hi).1
 rw[List.getElem?_append_right (by simp;omega),List.getElem?_drop,List.length_map,List.length_take,Nat.min_eq_left (by omega),Nat.sub_self,Nat.add_zero,hi]
theorem OwS.wr{lo base p:Nat}{h:Heap}{v:Value}{l:List (List Nat)}{ob:bN}(q:OwS lo h v l)(hz:∀z,vB v z→z≠p):OwS lo (h.wr base p ob) v l:=by
 rcases q with q|⟨b,c,t,h1,h2,h3,rfl,h4⟩
 ·exact .inl q
 ·exact .inr ⟨b,c,t,h1,h2,(z5 (hz b ⟨_,_,rfl⟩)).trans h3,rfl,h4⟩
theorem OwS.ne{lo p:Nat}{h:Heap}{v:Value}{l:List (List Nat)}{vs:List Value}{own:Bool}(q:OwS lo h v l)(g:h.get p=some (.cells vs own 1)):∀z,vB v z→z≠p:=by
 rintro z ⟨m,c,hv⟩ rfl
 rcases q with⟨rfl,_⟩|⟨b,c',t,h1,h2,h3,rfl,h4⟩
 ·cases hv
 ·cases hv
  rw[g]at h3
  cases h3
set_option maxHeartbeats 16000000 in
theorem J1(F:Cw T){h:Heap}(hr:Rdy h)(hg:Tab h)(h2:2<h.next){w:List Nat×List Nat}(hw:IsW w){o:List Nat}(ho:IsS o):Al T 92 [wV w,sv o] h fun v h'=>OwS h.next h' v (nO w o):=by
 have hp:=F.pl.fi.ft.li.p
 refine .of hp F.f92 hr (fun v h1 hv q=>OwS.flat hv q) ?_
 have hwc:cellsOf (wV w)=wL w:=by show(wL w).toArray.toList=_;simp
 have g0:((h.push (.cells (cellsOf (wV w)) true 1)).push (.cells (cellsOf (sv o)) true 1)).get h.next=some (.cells (wL w) true 1):=by rw[hwc];exact(z4 (Nat.lt_succ_self _)).trans (z3 h _)
 have g1:((h.push (.cells (cellsOf (wV w)) true 1)).push (.cells (cellsOf (sv o)) true 1)).get (h.next+1)=some (.cells (us o) true 1):=z3 _ _
 have n0:((h.push (.cells (cellsOf (wV w)) true 1)).push (.cells (cellsOf (sv o)) true 1)).next=h.next+2:=rfl
 have x0:Ext h ((h.push (.cells (cellsOf (wV w)) true 1)).push (.cells (cellsOf (sv o)) true 1)):=((Ext.refl h).push _).push _
 refine y4 ?_;refine yB ?_;refine yB ?_;refine yM ?_;refine y3 ?_
 generalize((h.push (.cells (cellsOf (wV w)) true 1)).push (.cells (cellsOf (sv o)) true 1))=H at*
 have W:=x0.wf hr.wf
 have hL:=x0.log.trans hr.log
 have wk:=rU hw
 have wkl:=oI hw
 have wa:=DF hw
 have wb:=AV hw
 have wka:=aP hw.a.len
 have wkb:=aP hw.b.len
 have k8:=aP ho.len
 have k9:=bq ho.len
 have C1:=Ho F.pl (h:={H with log:=[]}) (.of W) (show Tab H from hg.ext x0 h2) (by show 2<H.next;omega) hw.b ho
 have hok0:∀x∈jX w.2 o,IsS x:=fun x hx=>oJ hx
 have hlen0:=qn w.2 o
 have hA:kX w o=ddS (eG ((jX w.2 o).map fun p=>dS p w.1)):=rfl
 have hAl:=rj w o
 have hAok:∀x∈kX w o,IsS x:=fun x hx=>qB hw hx
 unfold nO
 generalize kX w o=r at*
 generalize jX w.2 o=l at*
 refine y4 ?_;refine yF ?_;refine yV ?_;refine yV ?_
 refine yC ?_
 refine FW.al C1 (fun v h' m q=>q) ?_
 rintro _ H1 x1 ⟨u,rfl,q1⟩
 have q1:OwS H.next H1 u l:=q1
 clear C1
 have ey1:=x0.trans x1
 have n1:=x1.next
 have g01:=(x1.old _ (by omega)).trans g0
 have x2:=iB (h:=H1) (base:=h.next) (by omega) (.cells [.slice none 0 0] true 1) (.cells [u] true 1)
 have g5:=jx (h:=H1) (base:=h.next) [.slice none 0 0] [u]
 have n2:((H1.push (.cells [.slice none 0 0] true 1)).wr h.next H1.next (.cells [u] true 1)).next=H1.next+1:=rfl
 obtain⟨a,c,rfl⟩:=q1.form
 clear g0 g1
 refine yM ?_;refine yE ?_;refine yE ?_;refine ak (cQ) ?_
 refine yS ?_;refine yM ?_;refine y3 ?_
 refine WE.Hr ?_
 intro H2 hH2
 have e2:H2=((H1.push (.cells [.slice none 0 0] true 1)).wr h.next H1.next (.cells [.slice a l.length c] true 1)):=hH2
 rw[←e2]at x2 g5 n2
 clear hH2 e2
 have ey2:=ey1.trans x2
 have W2:=ey2.wf hr.wf
 have hL2:=ey2.log.trans hr.log
 have g02:=(x2.old _ (by omega)).trans g01
 have q2:=q1.ext x2
 refine eY (E0:=[(2, .pointer (some ⟨h.next,0,none⟩)),(5, .pointer (some ⟨H1.next,0,none⟩)),(16, .int .i64 (l.length:Nat)),(17, .int .i64 (l.length:Nat)),(18, .bool false)]) (P:=fun h'=>WF h'∧h'.log=[]∧H2.next≤h'.next∧(∀z,z<H.next→h'.get z=H2.get z)∧h'.get H1.next=some (.cells [.slice a l.length c] true 1)∧OwS H.next h' (.slice a l.length c) (l.map fun p=>dS p w.1)) ?_ ?_
 ·rcases q2 with⟨hv,rfl⟩|⟨b,c',tl,hb1,hb2,hb3,hv,hcl,hcu⟩
  ·cases hv
   refine y4 ?_;refine yL ?_;refine yD ?_;refine yM ?_;refine y3 ?_;refine au ?_
   refine cG (fun mm e ds h'=>0=mm∧e=[(2, .pointer (some ⟨h.next,0,none⟩)),(5, .pointer (some ⟨H1.next,0,none⟩)),(16, .int .i64 0),(17, .int .i64 0)]∧ds=[]∧H2=h') ⟨rfl,rfl,rfl,rfl⟩ ?_
   rintro mm e ds _ ⟨rfl,rfl,rfl,rfl⟩
   refine y4 ?_;refine yf ?_;refine y3 ?_;refine af ?_;refine yX ?_;refine cA ?_;refine dy ?_;refine dy ?_;refine fV ?_
   exact⟨rfl,rfl,rfl,W2,hL2,Nat.le_refl _,fun _ _=>rfl,g5, .inl ⟨rfl,rfl⟩⟩
  ·cases hv
   have hb0:b<H1.next:=(q1.vb ⟨_,_,rfl⟩).2
   refine y4 ?_;refine yL ?_;refine yD ?_;refine yM ?_;refine y3 ?_;refine au ?_
   refine cG (fun mm e ds h'=>∃i:Nat,i≤l.length∧l.length-i=mm∧e=[(2, .pointer (some ⟨h.next,0,none⟩)),(5, .pointer (some ⟨H1.next,0,none⟩)),(16, .int .i64 (l.length:Nat)),(17, .int .i64 (i:Nat))]∧ds=[]∧WF h'∧h'.log=[]∧H2.next=h'.next∧(∀z,z≠b→h'.get z=H2.get z)∧h'.get b=some (.cells (ssL ((l.take i).map (fun p=>dS p w.1)++l.drop i)++tl) true 8))
    ⟨0,Nat.zero_le _,rfl,rfl,rfl,W2,hL2,rfl,fun _ _=>rfl,hb3⟩ ?_
   rintro mm e ds H3 ⟨i,hi,rfl,rfl,rfl,w3,l3,n3,o3,gb⟩
   have g53:=(o3 H1.next (by omega)).trans g5
   have g03:=(o3 h.next (by omega)).trans g02
   by_cases hlt:i<l.length
   ·obtain⟨x,hx⟩:∃x,l[i]? =some x:=⟨l[i],List.getElem?_eq_getElem hlt⟩
    have hxs:=hok0 x (List.mem_of_getElem? hx)
    have hokm:∀y∈(l.take i).map (fun p=>dS p w.1)++l.drop i,IsS y:=fun y hy=>by
     rcases List.mem_append.1 hy with hy|hy
     ·obtain⟨p,hp,rfl⟩:=List.mem_map.1 hy
      exact(hok0 p (List.mem_of_mem_take hp)).less hw.a
     ·exact hok0 y (List.mem_of_mem_drop hy)
    have hml:((l.take i).map (fun p=>dS p w.1)++l.drop i).length=l.length:=by
     rw[List.length_append,List.length_map,List.length_take,List.length_drop];omega
    have rx:=mV (t:=tl) hokm (ze _ hx)
    have hset:=uV (fun p=>dS p w.1) hx
    have hls:=hxs.less hw.a
    have C:=Jl hp F.f124 (h:={H3 with log:=[]}) (.of w3) hxs hw.a
    have kc:=wv (t:=tl) hokm hls (i:=i) (by omega)
    have kw:cU (ssL ((l.take i).map (fun p=>dS p w.1)++l.drop i)++tl) (0+i*8) (cellsOf (sv (dS x w.1)))=ssL ((l.take (i+1)).map (fun p=>dS p w.1)++l.drop (i+1))++tl:=by
     have e:cellsOf (sv (dS x w.1))=us (dS x w.1):=by show(us (dS x w.1)).toArray.toList=_;simp
     rw[e,xN hokm hls (by omega),hset]
    have kx:=aP hxs.len
    have mlt:aq .lss (.int .i64 (i:Nat)) (.int .i64 (l.length:Nat))=some (.bool true):=fm (by omega)
    generalize dS x w.1=lx at*
    generalize(l.take i).map (fun p=>dS p w.1)++l.drop i=m at*
    obtain rfl:=hcu (fun q=>by rw[q]at hlt;simp at hlt)
    refine y4 ?_;refine yW ?_;refine y3 ?_;refine af ?_;refine yY ?_;refine aB ?_;refine aN ?_;refine af ?_;refine au ?_
    refine y4 ?_;refine yM ?_;refine yM ?_;refine y3 ?_;refine bQ ?_
    refine qL ?_;refine qM ?_;refine qL ?_
    refine qM ?_;refine qI ?_;refine qV ?_
    refine qF ?_;refine qV ?_
    refine qC ?_
    refine FW.puD C (by(repeat apply aW rfl);apply bL rfl (aU rfl (mY (by exact rfl)) (by exact iN _ _)) rfl;apply bL rfl (aU rfl (ek (by exact rfl) (by assumption) (by exact rfl)) (by exact pS _ _ _)) rfl;exact cM) ?_
    clear C
    refine qI ?_
    refine ij rfl rfl rfl (by exact rfl) (by exact rfl) (by exact rfl) gb kc kw (by omega) (by(repeat apply aW rfl);exact cM) ?_
    refine cK ?_;refine y1 ?_;refine eD ?_;refine aN ?_;refine aA ?_;refine fE ?_;refine yM ?_;refine y3 ?_
    exact⟨l.length-(i+1),by omega,i+1,by omega,rfl,rfl,rfl,w3.as (AS.wr h.next _ _ _),(Heap.aC (by omega)).trans l3,n3,fun z hz=>(z5 hz).trans (o3 z hz),by rw[z6,gb];rfl⟩
   ·obtain rfl:i=l.length:=by omega
    have mlt:aq .lss (.int .i64 (l.length:Nat)) (.int .i64 (l.length:Nat))=some (.bool false):=fF (by omega)
    rw[List.take_length,List.drop_length,List.append_nil]at gb
    refine y4 ?_;refine yW ?_;refine y3 ?_;refine af ?_;refine yX ?_;refine cA ?_;refine dy ?_;refine dy ?_;refine fV ?_
    refine⟨rfl,rfl,rfl,w3,l3,by omega,fun z hz=>o3 z (by omega),g53, .inr ⟨b,c,tl,hb1,by omega,gb,by rw[List.length_map],by rw[List.length_map];exact hcl,fun q=>hcu fun q2=>q (by rw[q2];rfl)⟩⟩
 have hvb:∀z,vB (.slice a l.length c) z→H.next≤z∧z<H1.next:=fun z hz=>q1.vb hz
 rintro H3 ⟨w3,l3,n3,o3,g53,q3⟩
 clear q2 q1 g5 g01
 have g03:=(o3 _ (by omega)).trans g02
 have hokm:∀y∈l.map (fun p=>dS p w.1),IsS y:=fun y hy=>by
  obtain⟨p,hp,rfl⟩:=List.mem_map.1 hy
  exact(hok0 p hp).less hw.a
 have hlm:(l.map fun p=>dS p w.1).length=l.length:=List.length_map _
 generalize hll:l.map (fun p=>dS p w.1)=lm at*
 have hlm2:lm.length<1000000:=by omega
 have C2:=BY F.pl.f189 (.inr rfl) (h:={H3 with log:=[]}) (q3.log []) hokm hlm2
 refine y4 ?_;refine yL ?_
 refine yC ?_
 refine FW.gs0 C2 (fun v h' m q=>q.log m) (fun z hz=>by have:=(q3.vb hz).1;omega) ?_
 rintro v4 H4 n4 l4 o4 w4 q4
 clear C2
 have W4:=w4 w3
 have g54:=(o4 H1.next (by omega) (fun q=>by have:=(hvb _ q).2;omega)).trans g53
 have hok4:∀x∈eG lm,IsS x:=fun x hx=>hokm x (fW.1 hx)
 have C3:=tA hp F.pl.f192 (h:={H4 with log:=[]}) (.of W4) (q4.log []) hok4 (by rw[jy];exact hlm2)
 rw[←hA]at C3
 refine y3 ?_;refine y4 ?_;refine yL ?_
 refine yC ?_
 refine FW.gs0 C3 (fun v h' m q=>q.log m) (fun z hz=>by have:=(q4.vb hz).1;omega) ?_
 rintro v5 H5 n5 l5 o5 w5 q5
 clear C3
 have W5:=w5 W4
 have hL5:=l5.trans (l4.trans l3)
 have g55:=(o5 H1.next (by omega) (fun q=>by have:=(hvb _ q).2;omega)).trans g54
 have ne5:=q5.ne g55
 obtain⟨a5,c5,rfl⟩:=q5.form
 have hn1:H1.next<H5.next:=by omega
 have q6:=q5.wr (base:=h.next) (ob:= .cells [.slice a5 r.length c5] true 1) ne5
 have g56:(H5.wr h.next H1.next (.cells [.slice a5 r.length c5] true 1)).get H1.next=some (.cells [.slice a5 r.length c5] true 1):=by rw[z6,g55];rfl
 have W6:WF (H5.wr h.next H1.next (.cells [.slice a5 r.length c5] true 1)):=W5.as (AS.wr h.next _ _ _)
 have hL6:(H5.wr h.next H1.next (.cells [.slice a5 r.length c5] true 1)).log=[]:=(Heap.aC (by omega)).trans hL5
 have n6:(H5.wr h.next H1.next (.cells [.slice a5 r.length c5] true 1)).next=H5.next:=rfl
 clear q5 q4 q3 g54 g53
 refine yS ?_;refine y3 ?_
 clear g55
 refine WE.Hr ?_
 intro H6 hH6
 have e6:H6=H5.wr h.next H1.next (.cells [.slice a5 r.length c5] true 1):=hH6
 rw[←e6]at q6 g56 W6 hL6 n6
 clear hH6 e6
 have hrl:r.length<1000000:=by omega
 have C4:=Gt hp F.f194 (h:={H6 with log:=[]}) (.of W6) ((q6.ss hAok).log []) hrl
 refine y4 ?_;refine yL ?_
 refine yC ?_
 refine FW.al C4 (fun v h' m q=>q.log m) ?_
 rintro v7 H7 x7 q7
 have q7:OwS H6.next H7 v7 r:=q7
 clear C4
 have W7:=x7.wf W6
 have hL7:=x7.log.trans hL6
 have n7:=x7.next
 have C5:=DY hp F.f193 F.f257 (h:={H7 with log:=[]}) (.of W7) (lo:=H6.next) (q7.log []) hAok hrl (g:=195) (cap:=[.pointer (some ⟨H1.next,0,none⟩)]) (lF r) fun h' w hnn hold x hx=>
  Iz F (h:={h' with log:=[]}) (.of w) (q:=H1.next) (v:= .slice a5 r.length c5) ((OwS.ss (q6.keep (h':=h') (by have:H7.next≤h'.next:=hnn;omega) fun z _ hz=>(hold z hz).trans (x7.old z hz)) hAok).log []) hrl hx ((hold _ (by omega)).trans ((x7.old _ (by omega)).trans g56))
 refine ak (ic (by exact rfl) (by exact rfl)) ?_
 refine yC ?_
 refine FW.gs0 C5 (fun v h' m q=>q.log m) (fun z hz=>by have:=(q7.vb hz).1;omega) ?_
 rintro v8 H8 n8 l8 o8 w8 q8
 clear C5
 refine yM ?_;refine y3 ?_;refine aJ ?_
 exact dN (l8.trans hL7) rfl (q8.low (by omega))
end Go.A.Pk
end
section
namespace Go.Proofs
open Go.Shelf
def Tryz.pG:Go.Shelf.Ren:=⟨fun|6=>189|15=>241|14=>255|28=>290|29=>291|20=>307|21=>308|22=>309|23=>310|24=>311|25=>312|26=>313|27=>314|46=>344|47=>325|48=>326|49=>345|50=>346|57=>362|n=>n,fun|22=>29|24=>24|25=>215|3=>3|39=>90|0=>0|53=>338|55=>22|4=>4|46=>331|45=>330|50=>196|5=>5|9=>9|66=>372|70=>376|76=>403|77=>404|n=>n,fun|n=>n⟩
theorem Tryz.oy:Go.Proofs.SlLaysF0.n6 Tryz.prog Tryz.pG:={
 mixed:=by kernel_rfl
 f6:=⟨Tryz.f189.name,by decide,Tryz.func189.trans (congrArg some (by kernel_rfl))⟩
 f14:=⟨Tryz.f255.name,by decide,Tryz.func255.trans (congrArg some (by kernel_rfl))⟩
 f15:=Tryz.func241.trans (congrArg some (by kernel_rfl))
 f20:=⟨Tryz.f307.name,by decide,Tryz.func307.trans (congrArg some (by kernel_rfl))⟩
 f21:=⟨Tryz.f308.name,by decide,Tryz.func308.trans (congrArg some (by kernel_rfl))⟩
 f22:=⟨Tryz.f309.name,by decide,Tryz.func309.trans (congrArg some (by kernel_rfl))⟩
 f23:=⟨Tryz.f310.name,by decide,Tryz.func310.trans (congrArg some (by kernel_rfl))⟩
 f24:=⟨Tryz.f311.name,by decide,Tryz.func311.trans (congrArg some (by kernel_rfl))⟩
 f25:=⟨Tryz.f312.name,by decide,Tryz.func312.trans (congrArg some (by kernel_rfl))⟩
 f26:=⟨Tryz.f313.name,by decide,Tryz.func313.trans (congrArg some (by kernel_rfl))⟩
 f27:=⟨Tryz.f314.name,by decide,Tryz.func314.trans (congrArg some (by kernel_rfl))⟩
 f28:=Tryz.func290.trans (congrArg some (by kernel_rfl))
 f29:=Tryz.func291.trans (congrArg some (by kernel_rfl))
 f46:=⟨Tryz.f344.name,by decide,Tryz.func344.trans (congrArg some (by kernel_rfl))⟩
 f47:=Tryz.func325.trans (congrArg some (by kernel_rfl))
 f48:=Tryz.func326.trans (congrArg some (by kernel_rfl))
 f49:=⟨Tryz.f345.name,by decide,Tryz.func345.trans (congrArg some (by kernel_rfl))⟩
 f50:=⟨Tryz.f346.name,by decide,Tryz.func346.trans (congrArg some (by kernel_rfl))⟩
 f57:=⟨Tryz.f362.name,by decide,Tryz.func362.trans (congrArg some (by kernel_rfl))⟩
 t0:=Tryz.underlying0
 a0:=Tryz.isAgg0
 z0:=Tryz.sizeOf0
 v0:=Tryz.zeroValue0
 t3:=Tryz.underlying3
 a3:=Tryz.isAgg3
 z3:=Tryz.sizeOf3
 v3:=Tryz.zeroValue3
 t4:=Tryz.underlying4
 a4:=Tryz.isAgg4
 z4:=Tryz.sizeOf4
 v4:=Tryz.zeroValue4
 t5:=Tryz.underlying5
 a5:=Tryz.isAgg5
 z5:=Tryz.sizeOf5
 v5:=Tryz.zeroValue5
 t9:=Tryz.underlying9
 a9:=Tryz.isAgg9
 z9:=Tryz.sizeOf9
 v9:=Tryz.zeroValue9
 t22:=Tryz.underlying29
 a22:=Tryz.isAgg29
 z22:=Tryz.sizeOf29
 v22:=Tryz.zeroValue29
 t25:=Tryz.underlying215
 a25:=Tryz.isAgg215
 z25:=Tryz.sizeOf215
 v25:=Tryz.zeroValue215
 t39:=Tryz.underlying90
 a39:=Tryz.isAgg90
 z39:=Tryz.sizeOf90
 v39:=Tryz.zeroValue90
 t45:=Tryz.underlying330
 a45:=Tryz.isAgg330
 z45:=Tryz.sizeOf330
 v45:=Tryz.zeroValue330
 t46:=Tryz.underlying331
 a46:=Tryz.isAgg331
 z46:=Tryz.sizeOf331
 v46:=Tryz.zeroValue331
 t50:=Tryz.underlying196
 a50:=Tryz.isAgg196
 z50:=Tryz.sizeOf196
 v50:=Tryz.zeroValue196
 t53:=Tryz.underlying338
 a53:=Tryz.isAgg338
 z53:=Tryz.sizeOf338
 v53:=Tryz.zeroValue338
 t55:=Tryz.underlying22
 a55:=Tryz.isAgg22
 z55:=Tryz.sizeOf22
 v55:=Tryz.zeroValue22
 t66:=Tryz.underlying372
 a66:=Tryz.isAgg372
 z66:=Tryz.sizeOf372
 v66:=Tryz.zeroValue372
 t70:=Tryz.underlying376
 a70:=Tryz.isAgg376
 z70:=Tryz.sizeOf376
 v70:=Tryz.zeroValue376
 t76:=Tryz.underlying403
 a76:=Tryz.isAgg403
 z76:=Tryz.sizeOf403
 v76:=Tryz.zeroValue403
 t77:=Tryz.underlying404
 a77:=Tryz.isAgg404
 z77:=Tryz.sizeOf404
 v77:=Tryz.zeroValue404}
open Go.RowKit Go.Lib Go.Sort in
theorem Tryz.slices_SortFunc_none(p:Option Addr)(cap:Nat)(fv:Value)(w:World):
 Calls Tryz.prog 189 #[.slice p 0 cap,fv] w fun e w'=>e= .returned (.tuple #[])∧w'=w:=AnyF.slices_SortFunc_none Tryz.oy p cap fv w
end Go.Proofs
end
section
set_option maxRecDepth 100000
namespace Go.A.Pk
open Go Go.Proofs Go.Sort
theorem ig:∀{a b:List Nat},a.length=b.length→cmpL b a= -cmpL a b
 |[],[],_=>rfl
 |[],_::_,h=>by cases h
 |_::_,[],h=>by cases h
 |x::a,y::b,h=>by
  unfold cmpL
  by_cases h1:x<y
  ·rw[if_neg (by omega),if_pos h1,if_pos h1];rfl
  ·by_cases h2:y<x
   ·rw[if_pos h2,if_neg h1,if_pos h2]
   ·rw[if_neg h2,if_neg h1,if_neg h1,if_neg h2];exact ig (by simpa using h)
theorem jl:∀{a b:List Nat},a.length=b.length→cmpL a b=0→a=b
 |[],[],_,_=>rfl
 |[],_::_,h,_=>by cases h
 |_::_,[],h,_=>by cases h
 |x::a,y::b,h,h0=>by
  unfold cmpL at h0
  by_cases h1:x<y
  ·rw[if_pos h1]at h0;cases h0
  ·by_cases h2:y<x
   ·rw[if_neg h1,if_pos h2]at h0;cases h0
   ·rw[if_neg h1,if_neg h2]at h0
    rw[show x=y by omega,jl (by simpa using h) h0]
theorem mW:∀{a b c:List Nat},a.length=b.length→b.length=c.length→cmpL a b<0→cmpL b c<0→cmpL a c<0
 |[],[],_,_,_,h,_=>by unfold cmpL at h;omega
 |[],_::_,_,h,_,_,_=>by cases h
 |_::_,[],_,h,_,_,_=>by cases h
 |_::_,_::_,[],_,h,_,_=>by cases h
 |x::a,y::b,z::c,h1,h2,q1,q2=>by
  unfold cmpL at q1 q2⊢
  by_cases a1:x<y
  ·by_cases b1:y<z
   ·rw[if_pos (show x<z by omega)];omega
   ·rw[if_neg b1]at q2
    by_cases b2:z<y
    ·rw[if_pos b2]at q2;omega
    ·rw[if_pos (show x<z by omega)];omega
  ·rw[if_neg a1]at q1
   by_cases a2:y<x
   ·rw[if_pos a2]at q1;omega
   ·rw[if_neg a2]at q1
    by_cases b1:y<z
    ·rw[if_pos (show x<z by omega)];omega
    ·rw[if_neg b1]at q2
     by_cases b2:z<y
     ·rw[if_pos b2]at q2;omega
     ·rw[if_neg b2]at q2
      rw[if_neg (show¬x<z by omega),if_neg (show¬z<x by omega)]
      exact mW (by simpa using h1) (by simpa using h2) q1 q2
abbrev Sol:={l:List Nat // IsS l}
instance:Inhabited Sol:=⟨⟨s0,vr⟩⟩
def tv(x:Sol):List Value:=us x.1
def cfS(x y:Sol):Int:=cmpL x.1 y.1
theorem iV(x y:Sol):x.1.length=y.1.length:=x.2.len.trans y.2.len.symm
theorem Cq:SWO (ltOf cfS):=by
 refine⟨fun x=> ?_,fun x y z h1 h2=> ?_,fun x y z h1 h2=> ?_⟩
 ·unfold ltOf cfS;rw[mc];rfl
 ·unfold ltOf cfS at*
  rw[decide_eq_true_eq]at*
  exact mW (iV x y) (iV y z) h1 h2
 ·unfold ltOf cfS at*
  rw[decide_eq_false_iff_not]at*
  have a1:=ig (iV x y)
  have a2:=ig (iV y z)
  have a3:=ig (iV x z)
  rcases Int.lt_or_eq_of_le (show cmpL y.1 x.1≤0 by omega)with q|q
  ·rcases Int.lt_or_eq_of_le (show cmpL z.1 y.1≤0 by omega)with p|p
   ·have:=mW (iV z y) (iV y x) p q
    omega
   ·have e:=jl (iV z y) p
    rw[e];omega
  ·have e:=jl (iV y x) q
   rw[←e];omega
theorem HQ(x y:Sol)(h1:ltOf cfS x y=false)(h2:ltOf cfS y x=false):x=y:=by
 unfold ltOf cfS at*
 rw[decide_eq_false_iff_not]at*
 have a1:=ig (iV x y)
 exact Subtype.ext (jl (iV x y) (by omega))
theorem zK(x:Sol):(tv x).length=8:=by unfold tv;rw[aH,x.2.len]
theorem B2(d:Array Sol):flatK tv 8 d=(ssL (d.toList.map (·.1))).toArray:=by
 have hok:∀s∈d.toList.map (·.1),IsS s:=fun s hs=>by
  obtain⟨x,_,rfl⟩:=List.mem_map.1 hs
  exact x.2
 have hl:(ssL (d.toList.map (·.1))).length=d.size*8:=by rw[eS hok];simp
 apply ext_get! ((size_flatK tv 8 d).trans hl.symm)
 intro t ht
 have ht':t<d.size*8:=by simpa using ht
 rw[get_flatK _ _ _ t ht']
 have hd:t / 8<d.size:=by omega
 have hx:(d.toList.map (·.1))[t / 8]? =some (d[t / 8]!).1:=by
  rw[List.getElem?_map,Array.getElem?_toList,Array.getElem?_eq_getElem hd,getElem!_pos d (t / 8) hd];rfl
 have h8:=Cn hok hx
 have e:((ssL (d.toList.map (·.1))).drop (t / 8*8))[t % 8]? =(us (d[t / 8]!).1)[t % 8]? :=by
  rw[←h8,List.getElem?_take_of_lt (by omega)]
 rw[List.getElem?_drop,show t / 8*8+t % 8=t by omega]at e
 have e1:(us (d[t / 8]!).1).length=8:=zK _
 rw[List.getElem?_eq_getElem (by omega),List.getElem?_eq_getElem (by omega),Option.some.injEq]at e
 show(us (d[t / 8]!).1)[t % 8]! =(ssL (d.toList.map (·.1))).toArray[t]!
 rw[getElem!_pos _ (t % 8) (by omega),getElem!_pos _ t (show t<(ssL (d.toList.map (·.1))).length by rw[hl];exact ht'),←e];rfl
theorem zL:Rdy (⟨[],1000,[]⟩:Heap):=⟨⟨by simp,by intro b hb;simp at hb⟩,rfl⟩
theorem LR.flat{μ:Mu}:∀{l:List Value},(∀a∈l,cw a=true)→LR μ l l
 |[],_=> .nil
 |a::l,h=> .cons (VR.cw (h a List.mem_cons_self)).1 (LR.flat fun x hx=>h x (List.mem_cons_of_mem _ hx))
theorem sn{P:Program}{T:Nat→Option ah}(S:dW P T)(hg:P.globals.size≤1000){f:Nat}{args:List Value}{v:Value}(hnc:gp (T f)=false)(H:Pu T f args ⟨[],1000,[]⟩ v)(ha:∀a∈args,cw a=true)(hv:cw v=true)(w:World):
 Calls P f args.toArray w fun e w'=>e= .returned v∧∃q os',w'=Sort.grow (w.drewN q) os':=by
 obtain⟨r',h',⟨m,hm⟩,rfl,rfl⟩:=H
 have hrun:=hm m (Nat.le_refl _)
 refine(kW S hrun rfl hnc (R.none (P:=P) (w:=w) hg) (LR.flat ha)).mono fun e w' hq=> ?_
 obtain⟨μ',q1,q2,q3⟩:=hq
 cases e with
 |returned v'=>
  have hv':VR μ' v v':=q1
  rw[(VR.cw hv).2 _ hv']
  have hk:∀r,r<w.heap.size→w'.heap[r]? =w.heap[r]? :=fun r hr=>q3.keep r hr fun⟨b,o,k,g,_⟩=>by cases g
  refine⟨rfl,w'.drawn-w.drawn,w'.heap.extract w.heap.size w'.heap.size,?_⟩
  have hle:=q3.le
  have hh:w'.heap=w.heap++w'.heap.extract w.heap.size w'.heap.size:=by
   apply Array.ext_getElem?
   intro i
   by_cases hi:i<w.heap.size
   ·rw[hk i hi,Array.getElem?_append_left hi]
   ·rw[Array.getElem?_append_right (by omega),Array.getElem?_extract]
    by_cases h2:i<w'.heap.size
    ·rw[if_pos (by omega)];congr 1;omega
    ·rw[if_neg (by omega),Array.getElem?_eq_none (by omega)]
  obtain⟨s1,s2,s3,s4⟩:=q3.same
  cases w with
  |mk a1 a2 a3 a4 a5=>
   cases w' with
   |mk b1 b2 b3 b4 b5=>
    dsimp only at s1 s2 s3 s4 hh
    subst s1;subst s2;subst s3
    show World.mk b1 _ b3 _ _=World.mk (a1++_) _ (a3+(b3-a3)) _ _
    rw[show a3+(b3-a3)=b3 by omega]
    congr 1
 |panicked _=>exact q1.elim
 |outgrown=>exact q1.elim
theorem Qo:aK Tryz.prog Tryz.f168 [[2,3],[4]]=some f168:=by kernel_rfl
theorem QK:aK Tryz.prog Tryz.f190 [[2,3],[4]]=some f190:=by kernel_rfl
theorem PA:aK Tryz.prog Tryz.f191 [[0,1],[0,1,9,10,11],[0,1,9,10,11,12],[0,1,5,6,9,10,11],[0,1,5,6,9,10,11,19],[4],[0,1,6,7,9,10,11],[0,1,8,9,10,11],[0,1,8,9,10,11,28],[4],[0,1,9,10,11],[35],[4],[4]]=some f191:=by kernel_rfl
theorem Pn:aK Tryz.prog Tryz.f256 [[0,1],[0,1,5],[0,1,5,6],[0,1,6,11],[12],[4],[4],[0,1,13],[4],[0,1,16],[4],[19],[4],[4]]=some f256:=by kernel_rfl
theorem Qd:aK Tryz.prog Tryz.f315 [[0],[2]]=some f315:=by kernel_rfl
def FH:Tr:=(.node (.node (.node .nil 168 f168 .nil) 190 f190 .nil) 191 f191 (.node (.node .nil 256 f256 .nil) 315 f315 .nil))
def TC:Nat→Option ah:=FH.get
theorem PN:FH.all (Entry Tryz.prog):=by
 unfold FH
 exact(Tr.aa (Tr.aa (Tr.aa Tr.all_nil (.of Tryz.func168 Qo) Tr.all_nil) (.of Tryz.func190 QK) Tr.all_nil) (.of Tryz.func191 PA) (Tr.aa (Tr.aa Tr.all_nil (.of Tryz.func256 Pn) Tr.all_nil) (.of Tryz.func315 Qd) Tr.all_nil))
theorem Bz:dW Tryz.prog TC:=oB (by kernel_rfl) PN
theorem OF:vt TC:={p:=Bz.bg,f191:=by kernel_rfl,f256:=by kernel_rfl,f315:=by kernel_rfl}
theorem Dv(k:Nat)(hk:k=168∨k=190)(x y:Sol)(w:World):Calls Tryz.prog k #[.agg (tv x).toArray, .agg (tv y).toArray] w fun e w'=>e= .returned (.int .i64 (cfS x y))∧∃q os',w'=Sort.grow (w.drewN q) os':=by
 have hn:∀a∈[sv x.1,sv y.1],cw a=true:=fun a ha=>by
  rcases List.mem_cons.1 ha with rfl|ha
  ·exact gX _
  ·rw[List.mem_singleton.1 ha];exact gX _
 rcases hk with rfl|rfl
 ·exact sn Bz mh (by kernel_rfl) (Kh OF (by kernel_rfl) zL x.2 y.2) hn rfl w
 ·exact sn Bz mh (by kernel_rfl) (Jo OF (by kernel_rfl) zL x.2 y.2) hn rfl w
theorem BU(l:List (List Nat))(h:∀s∈l,IsS s):∃d:List Sol,d.map (·.1)=l:=⟨l.attach.map fun x=>⟨x.1,h _ x.2⟩,by simp⟩
theorem zC(d:List Sol):(d.mergeSort fun x y=> !(ltOf cfS) y x).map (·.1)=eG (d.map (·.1)):=by
 unfold eG
 exact List.map_mergeSort fun a _ b _=>rfl
theorem AP(k:Nat)(hk:k=168∨k=190):∀args w,(callFunc k args).run Tryz.prog w= .ok (.enter k args) w:=by
 rcases hk with rfl|rfl
 ·exact enters_of Tryz.func168 (by kernel_rfl) rfl
 ·exact enters_of Tryz.func190 (by kernel_rfl) rfl
theorem Oy:Entry Tryz.prog 189 (.jV (nj 168 190)):=by
 refine .jV (DG Tryz.func189 (of_decide_eq_true (by kernel_rfl)) (by kernel_rfl) (fun k p cap w=>Tryz.slices_SortFunc_none p cap _ w) ?_)
 intro k hk blk off cap l w hok hH hblk hl
 obtain⟨d,hd⟩:=BU l hok
 have hfl:flatK tv 8 d.toArray=(ssL l).toArray:=by rw[B2];simp[hd]
 have hdl:d.length=l.length:=by rw[←hd];simp
 have h:=AnyQ.slices_SortFunc_total Tryz.oy 8 (Tryz.isAgg24) (Tryz.sizeOf24) tv zK (fun x v hv=>by
  obtain⟨n,_,rfl⟩:=List.mem_map.1 hv
  rfl) cfS Cq k #[] blk off cap d.toArray w (AP k hk) (fun m os dk hs x y=>by
   have:=Dv k hk x y (sortWorldK tv 8 w blk off m dk os)
   simpa using this) (by
   show Holds id w blk off (flatK tv 8 d.toArray)
   rw[hfl];exact hH) hblk (by simpa[hdl]using hl) HQ
 have hs:d.toArray.size=l.length:=by simpa using hdl
 rw[hs]at h
 refine h.mono fun e w' ⟨he,n,os,hw⟩=>⟨he,n,os,?_⟩
 rw[hw]
 show Sort.grow (putRow id (Sort.ahead w n) blk off (flatK tv 8 _)) os=_
 rw[B2]
 congr 2
 have:=zC d
 rw[hd]at this
 simpa using congrArg ssL this
end Go.A.Pk
end
section
set_option maxRecDepth 100000
namespace Go.A.Pk
open Go.Sort Go.Proofs
def SLt(a b:List Nat):Prop:=cmpL a b<0
theorem BO{l:List (List Nat)}(h:∀s∈l,IsS s):(eG l).Pairwise fun a b=>¬cmpL b a<0:=by
 obtain⟨d,rfl⟩:=BU l h
 rw[←zC]
 have hs:=Cq
 have hp:=List.pairwise_mergeSort (le:=fun x y:Sol=> !(ltOf cfS) y x) (fun a b c h1 h2=>by
  rw[Bool.not_eq_true']at*
  exact hs.ntrans _ _ _ h2 h1) (fun a b=>by
  rw[Bool.or_eq_true,Bool.not_eq_true',Bool.not_eq_true']
  cases hab:ltOf cfS b a with
  |false=>exact .inl rfl
  |true=>
   right
   cases hba:ltOf cfS a b with
   |false=>rfl
   |true=>
    have:=hs.trans _ _ _ hab hba
    rw[hs.irrefl]at this;cases this) d
 rw[List.pairwise_map]
 refine hp.imp fun {a b} q=> ?_
 rw[Bool.not_eq_true']at q
 unfold ltOf cfS at q
 exact of_decide_eq_false q
theorem Fk:∀{l:List (List Nat)},(∀s∈l,IsS s)→(l.Pairwise fun a b=>¬cmpL b a<0)→(ddS l).Pairwise SLt
 |[],_,_=>List.Pairwise.nil
 |[a],_,_=>List.pairwise_singleton _ _
 |a::b::l,h,hp=>by
  obtain⟨h1,h2⟩:=List.pairwise_cons.1 hp
  have ih:=Fk (fun s hs=>h s (List.mem_cons_of_mem _ hs)) h2
  unfold ddS
  by_cases e:a=b
  ·rw[if_pos e];exact ih
  ·rw[if_neg e]
   refine List.pairwise_cons.2 ⟨fun x hx=> ?_,ih⟩
   have hx':=mT hx
   have ha:=h a List.mem_cons_self
   have hb:=h b (List.mem_cons_of_mem _ List.mem_cons_self)
   have hxs:=h x (List.mem_cons_of_mem _ hx')
   have la:a.length=x.length:=ha.len.trans hxs.len.symm
   have q1:=h1 x hx'
   have a1:=ig la
   rcases Int.lt_or_eq_of_le (show cmpL a x≤0 by omega)with q|q
   ·exact q
   ·have hax:=jl la q
    have q2:=h1 b List.mem_cons_self
    have a2:=ig (ha.len.trans hb.len.symm)
    have q3:¬cmpL a b<0:=by
     rcases List.mem_cons.1 hx' with rfl|hx'
     ·exact absurd hax e
     ·have:=(List.pairwise_cons.1 h2).1 x hx'
      rw[←hax]at this
      exact this
    exact absurd (jl (ha.len.trans hb.len.symm) (by omega)) e
theorem kF(a:List Nat):¬SLt a a:=by unfold SLt;rw[mc];omega
theorem DN{l:List (List Nat)}(h:l.Pairwise SLt):l.Nodup:=by
 unfold List.Nodup
 exact h.imp fun {a b} q (e:a=b)=>kF a (by rw[←e]at q;exact q)
theorem tG:∀{l k:List (List Nat)},(∀s∈l,IsS s)→(∀s∈k,IsS s)→l.Pairwise SLt→k.Pairwise SLt→(∀x,x∈l↔x∈k)→l=k
 |[],[],_,_,_,_,_=>rfl
 |[],b::k,_,_,_,_,h=>by have:=(h b).2 List.mem_cons_self;cases this
 |a::l,[],_,_,_,_,h=>by have:=(h a).1 List.mem_cons_self;cases this
 |a::l,b::k,hl,hk,p1,p2,h=>by
  obtain⟨a1,a2⟩:=List.pairwise_cons.1 p1
  obtain⟨b1,b2⟩:=List.pairwise_cons.1 p2
  have hab:a=b:=by
   rcases List.mem_cons.1 ((h a).1 List.mem_cons_self)with q|q
   ·exact q
   ·rcases List.mem_cons.1 ((h b).2 List.mem_cons_self)with q2|q2
    ·exact q2.symm
    ·have q3:=b1 a q
     have q4:=a1 b q2
     have ha:=hl a List.mem_cons_self
     have hb:=hk b List.mem_cons_self
     unfold SLt at q3 q4
     have:=ig (ha.len.trans hb.len.symm)
     omega
  subst hab
  congr 1
  refine tG (fun s hs=>hl s (List.mem_cons_of_mem _ hs)) (fun s hs=>hk s (List.mem_cons_of_mem _ hs)) a2 b2 fun x=>⟨fun hx=> ?_,fun hx=> ?_⟩
  ·rcases List.mem_cons.1 ((h x).1 (List.mem_cons_of_mem _ hx))with rfl|q
   ·exact absurd (a1 _ hx) (kF _)
   ·exact q
  ·rcases List.mem_cons.1 ((h x).2 (List.mem_cons_of_mem _ hx))with rfl|q
   ·exact absurd (b1 _ hx) (kF _)
   ·exact q
theorem Ai{w:List Nat×List Nat}(hw:IsW w)(o:List Nat):(kX w o).Pairwise SLt:=by
 unfold kX
 have h:∀s∈(jX w.2 o).map fun p=>dS p w.1,IsS s:=fun s hs=>by
  obtain⟨p,hp,rfl⟩:=List.mem_map.1 hs
  exact(oJ hp).less hw.a
 exact Fk (fun s hs=>h s (fW.1 hs)) (BO h)
theorem DI{w:List Nat×List Nat}{o q:List Nat}:q∈kX w o↔ ∃p∈jX w.2 o,dS p w.1=q:=by
 unfold kX
 constructor
 ·intro h;exact List.mem_map.1 (fW.1 (mT h))
 ·intro h;exact p8 (fW.2 (List.mem_map.2 h))
theorem EZ{a b p:List Nat}(hb:¬b=s0):p∈jX a b↔ ∃f∈iz a b,f.s=p:=by
 unfold jX
 rw[if_neg hb]
 constructor
 ·intro h;exact List.mem_map.1 (fW.1 (mT h))
 ·intro h;exact p8 (fW.2 (List.mem_map.2 h))
theorem tW{α:Type}[DecidableEq α]:∀{l k:List α},l.Nodup→(∀x∈l,x∈k)→l.length≤k.length
 |[],_,_,_=>Nat.zero_le _
 |a::l,k,hn,h=>by
  obtain⟨h1,h2⟩:=List.nodup_cons.1 hn
  have ha:=h a List.mem_cons_self
  have ih:=tW (k:=k.erase a) h2 fun x hx=>(List.mem_erase_of_ne (fun(e:x=a)=>h1 (by rw[←e];exact hx))).2 (h x (List.mem_cons_of_mem _ hx))
  rw[List.length_erase_of_mem ha]at ih
  have:=List.length_pos_of_mem ha
  rw[List.length_cons];omega
theorem Iw{n m:Nat}(h:ceN n=ceN m):n=m:=by
 unfold ceN at h
 injection h with h1 h2 h3
 omega
theorem zw(s:List Nat)(n:Nat):(aR s n).Nodup:=by
 unfold aR
 refine List.Pairwise.filter _ ?_
 rw[List.pairwise_map]
 exact List.nodup_range.imp fun {a b} h e=>h (Iw e)
theorem vH{f:Ce→Ce}{s:List Nat}(hin:∀c∈aR s 512,inG (f c)=true)(hf:∀c d,f c=f d→c=d):ei s≤ei (fZ f s):=by
 unfold ei
 rw[←List.length_map (f:=f)]
 refine tW ?_ fun x hx=> ?_
 ·unfold List.Nodup
  rw[List.pairwise_map]
  exact(zw s 512).imp fun {a b} h e=>h (hf a b e)
 ·obtain⟨c,hc,rfl⟩:=List.mem_map.1 hx
  exact dB.2 ((iG hin _).2 ⟨c,dB.1 hc,rfl⟩)
theorem EN(k:Nat)(c d:Ce)(h:dJ k c=dJ k d):c=d:=by
 obtain⟨c1,c2,c3⟩:=c
 obtain⟨d1,d2,d3⟩:=d
 unfold dJ at h
 split at h<;>(injection h with h1 h2 h3;(try dsimp only at h1 h2 h3);congr 1<;>omega)
theorem zo:∀(n:Nat) (c d:Ce),mX n c=mX n d→c=d
 |0,_,_,h=>h
 |n+1,c,d,h=>by
  refine zo n c d ?_
  unfold mX AN at h
  injection h with h1 h2 h3
  generalize mX n c=x at*
  generalize mX n d=y at*
  obtain⟨x1,x2,x3⟩:=x
  obtain⟨q1,q2,q3⟩:=y
  dsimp only at h1 h2 h3
  congr 1;omega
theorem FY(t:Nat)(c d:Ce)(h:fC t c=fC t d):c=d:=EN _ _ _ (zo _ _ _ h)
theorem Md(x y z:Int)(c d:Ce)(h:shC x y z c=shC x y z d):c=d:=by
 obtain⟨c1,c2,c3⟩:=c
 obtain⟨d1,d2,d3⟩:=d
 unfold shC at h
 injection h with h1 h2 h3
 dsimp only at h1 h2 h3
 congr 1<;>omega
theorem xF{b:List Nat}{t:Nat}{x y z:Int}(r:Rng (bD (dz b t)).1 x y z):ei b≤ei (fZ (shC x y z) (dz b t)):=
 Nat.le_trans (vH (fun c hc=>kZ c (iw hc)) (FY t)) (vH (fun c hc=>r.all (dB.1 hc)) (Md x y z))
def Mg(a b p:List Nat):Prop:=∃t,t<24∧∃x y z,Rng (bD (dz b t)).1 x y z∧fZ (shC x y z) (dz b t)=p∧sIn p a=true
theorem Kb{a b:List Nat}(ha:IsS a)(hb:IsS b)(h0:¬b=s0){p:List Nat}:(∃f∈iz a b,f.s=p)↔Mg a b p:=by
 have hsp:=fun t=>kG b t
 constructor
 ·rintro⟨f,hf,rfl⟩
  unfold iz at hf
  split at hf
  ·cases hf
  ·obtain⟨t,ht,hf⟩:=List.mem_flatMap.1 hf
   have bi:=gr (dz b t)
   have bia:=gr a
   unfold nF DB tf ru sH at hf
   obtain⟨z,hz,hf⟩:=List.mem_flatMap.1 hf
   obtain⟨y,hy,hf⟩:=List.mem_flatMap.1 hf
   obtain⟨x,hx,hf⟩:=List.mem_flatMap.1 hf
   rw[wh]at hx hy hz
   obtain⟨⟨bl1,bl2,bl3⟩,⟨bh1,bh2,bh3⟩⟩:=bia
   have r:Rng (bD (dz b t)).1 x y z:=⟨by omega,by omega,by omega⟩
   split at hf
   ·rename_i hin
    rw[List.mem_singleton.1 hf]
    refine⟨t,List.mem_range.1 ht,x,y,z,r,?_,hin⟩
    exact(B6 (hsp t) r).symm
   ·cases hf
 ·rintro⟨t,ht,x,y,z,r,rfl,hin⟩
  have hsub:=(Cu (kL r) ha).1 hin
  have hcell:∀c,dY (dz b t) c=true→dY a (shC x y z c)=true:=fun c hc=>hsub _ ((iG (fun d hd=>r.all (dB.1 hd)) _).2 ⟨c,hc,rfl⟩)
  have hall:∀x∈aR b 512,inG (fC t x)=true:=fun c hc=>kZ c (iw hc)
  have hs0:¬dz b t=s0:=by
   intro q
   obtain⟨c,hc⟩:=l7 hb h0
   have:=(iG hall (fC t c)).2 ⟨c,hc,rfl⟩
   rw[show fZ (fC t) b=s0 from q,lp]at this;cases this
  obtain⟨c1,hc1⟩:=l7 (hsp t) hs0
  have k1:=lE (hcell c1 hc1)
  obtain⟨k2x,k2y,k2z⟩:=jB.1 (GQ hc1)
  unfold shC at k1
  dsimp only at k1
  have lo:=KW hs0 (x:=(bD a).1.lo.x-x) (y:=(bD a).1.lo.y-y) (z:=(bD a).1.lo.z-z) (by omega) (by omega) (by omega) fun c hc=>by
   have:=lE (hcell c hc)
   unfold shC at this
   dsimp only at this
   omega
  have hi:=Bm hs0 (x:=(bD a).1.hi.x-x) (y:=(bD a).1.hi.y-y) (z:=(bD a).1.hi.z-z) (by omega) (by omega) (by omega) fun c hc=>by
   have:=lE (hcell c hc)
   unfold shC at this
   dsimp only at this
   omega
  have hcnt:¬ei a<ei b:=by
   have h1:=xF r
   have h2:=Sub.cnt hsub
   omega
  have h0a:¬a=s0:=by
   intro q
   have:=hcell c1 hc1
   rw[q,lp]at this;cases this
  have hle:=B6 (hsp t) r
  refine⟨⟨t,x,y,z,j7 (dz b t) (bD (dz b t)).1 x y z⟩,?_,hle⟩
  unfold iz
  rw[if_neg (fun q=>q.elim h0a hcnt)]
  refine List.mem_flatMap.2 ⟨t,List.mem_range.2 ht,?_⟩
  unfold nF DB tf ru sH
  refine List.mem_flatMap.2 ⟨z,wh.2 (by omega),List.mem_flatMap.2 ⟨y,wh.2 (by omega),List.mem_flatMap.2 ⟨x,wh.2 (by omega),?_⟩⟩⟩
  rw[if_pos (by rw[hle];exact hin)]
  exact List.mem_singleton.2 rfl
theorem wG{a b p:List Nat}(ha:IsS a)(hb:IsS b)(h0:¬b=s0):p∈jX a b↔Mg a b p:=by
 rw[EZ h0,Kb ha hb h0]
end Go.A.Pk
end
section
set_option maxRecDepth 100000
namespace Go.A.Pk
variable {T:Nat→Option ah}
set_option maxHeartbeats 4000000 in
theorem Mf(hp:bg T)(hf:T 259=some f259){h:Heap}(hr:Rdy h){a b:List Nat}(ha:IsS a)(hb:IsS b):Pu T 259 [sv a,sv b] h (.int .i64 (cmpL a b)):=by
 refine .of hp hf hr rfl ?_
 have x0:Ext h ((h.push (.cells (cellsOf (sv a)) true 1)).push (.cells (cellsOf (sv b)) true 1)):=((Ext.refl h).push _).push _
 have g0:((h.push (.cells (cellsOf (sv a)) true 1)).push (.cells (cellsOf (sv b)) true 1)).get h.next=some (.cells (us a) true 1):=by(simp(disch:=first|omega|(simp only[z1,z2];omega))only[z3,z4,z5,z6,z7,z1,z2];exact rfl)
 have g1:((h.push (.cells (cellsOf (sv a)) true 1)).push (.cells (cellsOf (sv b)) true 1)).get (h.next+1)=some (.cells (us b) true 1):=by(simp(disch:=first|omega|(simp only[z1,z2];omega)|(simp only[z1,z2];done)|fail)only[z8,z4,z5,z9,z7,z1,z2,g0];exact rfl)
 refine y4 ?_;refine yB ?_;refine yB ?_;refine yM ?_;refine y3 ?_
 generalize((h.push (.cells (cellsOf (sv a)) true 1)).push (.cells (cellsOf (sv b)) true 1))=H at*
 have hL:=x0.log.trans hr.log
 refine af ?_;refine y4 ?_;refine yM ?_;refine y3 ?_;refine au ?_
 refine cG (fun m e ds h'=>∃j:Nat,j≤8∧8-j=m∧e=[(2, .pointer (some ⟨h.next,0,none⟩)),(3, .pointer (some ⟨h.next+1,0,none⟩)),(5, .int .i64 (j:Nat))]∧ds=[]∧H=h'∧a.take j=b.take j)
  ⟨0,Nat.zero_le _,rfl,rfl,rfl,rfl,rfl⟩ ?_
 rintro m e ds h' ⟨j,hj,rfl,rfl,rfl,rfl,heq⟩
 by_cases hlt:j<8
 ·obtain⟨x,hx⟩:∃x,a[j]? =some x:=⟨a[j]'(by rw[ha.len];exact hlt),List.getElem?_eq_getElem _⟩
  obtain⟨y,hy⟩:∃x,b[j]? =some x:=⟨b[j]'(by rw[hb.len];exact hlt),List.getElem?_eq_getElem _⟩
  have e1:=jw hx
  have e2:=jw hy
  have m1:aq .lss (.int .i64 (j:Nat)) (.int .i64 8)=some (.bool true):=fm (by omega)
  by_cases hxy:x=y
  ·subst hxy
   have m3:aq .lss (.int .u64 (x:Nat)) (.int .u64 (x:Nat))=some (.bool false):=fF (by omega)
   have m4:aq .gtr (.int .u64 (x:Nat)) (.int .u64 (x:Nat))=some (.bool false):=jA (by omega)
   refine af ?_;refine y4 ?_;refine yM ?_;refine yW ?_;refine y3 ?_;refine yY ?_;refine aB ?_;refine aN ?_
   refine af ?_;refine au ?_;refine af ?_;refine af ?_;refine bQ ?_;refine qM ?_;refine qJ ?_
   refine qK ?_;refine qM ?_;refine qJ ?_
   refine qK ?_;refine qW ?_;refine cK ?_;refine y1 ?_
   refine aN ?_;refine yX ?_;refine aB ?_;refine aN ?_;refine af ?_;refine bQ ?_;refine qM ?_;refine qJ ?_
   refine qK ?_;refine qM ?_;refine qJ ?_
   refine qK ?_;refine qW ?_;refine cK ?_;refine y1 ?_
   refine aN ?_;refine yX ?_;refine aB ?_;refine eD ?_;refine aN ?_;refine aA ?_;refine yM ?_;refine fE ?_;refine yM ?_;refine y3 ?_
   refine⟨8-(j+1),by omega,j+1,by omega,rfl,rfl,rfl,rfl,?_⟩
   rw[List.take_add_one,List.take_add_one,heq,hx,hy]
  ·have e4:=xZ heq hx hy hxy
   rw[e4]
   unfold uS
   by_cases hl:x<y
   ·rw[if_pos hl]
    have m3:aq .lss (.int .u64 (x:Nat)) (.int .u64 (y:Nat))=some (.bool true):=fm (by omega)
    refine af ?_;refine y4 ?_;refine yM ?_;refine yW ?_;refine y3 ?_;refine yY ?_;refine aB ?_;refine aN ?_
    refine af ?_;refine au ?_;refine af ?_;refine af ?_;refine bQ ?_;refine qM ?_;refine qJ ?_
    refine qK ?_;refine qM ?_;refine qJ ?_
    refine qK ?_;refine qW ?_;refine cK ?_;refine y1 ?_
    refine aN ?_;refine yY ?_;refine y4 ?_;refine yM ?_;refine y3 ?_;refine aJ ?_;refine eC ?_;refine jT ?_;refine eC ?_;refine eC ?_;refine jT ?_;refine eC ?_
    exact aF hL rfl rfl
   ·rw[if_neg hl,if_pos (by omega)]
    have m3:aq .lss (.int .u64 (x:Nat)) (.int .u64 (y:Nat))=some (.bool false):=fF (by omega)
    have m4:aq .gtr (.int .u64 (x:Nat)) (.int .u64 (y:Nat))=some (.bool true):=jj (by omega)
    refine af ?_;refine y4 ?_;refine yM ?_;refine yW ?_;refine y3 ?_;refine yY ?_;refine aB ?_;refine aN ?_
    refine af ?_;refine au ?_;refine af ?_;refine af ?_;refine bQ ?_;refine qM ?_;refine qJ ?_
    refine qK ?_;refine qM ?_;refine qJ ?_
    refine qK ?_;refine qW ?_;refine cK ?_;refine y1 ?_
    refine aN ?_;refine yX ?_;refine aB ?_;refine aN ?_;refine af ?_;refine bQ ?_;refine qM ?_;refine qJ ?_
    refine qK ?_;refine qM ?_;refine qJ ?_
    refine qK ?_;refine qW ?_;refine cK ?_;refine y1 ?_
    refine aN ?_;refine yY ?_;refine y4 ?_;refine yM ?_;refine y3 ?_;refine aJ ?_;refine jT ?_;refine eC ?_;refine eC ?_;refine jT ?_;refine eC ?_
    exact aF hL rfl rfl
 ·obtain rfl:j=8:=by omega
  have hab:a=b:=by
   rw[List.take_of_length_le (by rw[ha.len];omega),List.take_of_length_le (by rw[hb.len];omega)]at heq
   exact heq
  rw[hab,mc]
  have m1:aq .lss (.int .i64 ((8:Nat):Int)) (.int .i64 8)=some (.bool false):=rfl
  refine af ?_;refine y4 ?_;refine yM ?_;refine yW ?_;refine y3 ?_;refine yX ?_;refine cA ?_;refine dy ?_
  refine dy ?_;refine fV ?_;refine aN ?_;refine y4 ?_;refine yM ?_;refine y3 ?_;refine aJ ?_
  exact aF hL rfl rfl
def atS(x:List Nat)(l:List (List Nat)):Nat→Nat
 |0=>0
 |k+1=>if cmpL x (l.getD k [])<0 then atS x l k else k+1
theorem ug(x:List Nat)(l:List (List Nat)):∀k,atS x l k≤k
 |0=>Nat.le_refl _
 |k+1=>by
  unfold atS
  split
  ·exact Nat.le_succ_of_le (ug x l k)
  ·exact Nat.le_refl _
def CH(l:List (List Nat))(x:List Nat)(k:Nat):Bool:=decide (0<k)&&decide (l.getD (k-1) []=x)
def wq(l:List (List Nat))(x:List Nat)(k:Nat):List (List Nat):=if CH l x k=true then l else l.take k++[x]++l.drop k
def mR(l:List (List Nat))(x:List Nat):List (List Nat):=wq l x (atS x l l.length)
theorem zi(x:List Nat)(l:List (List Nat)):∀k,k≤l.length→(∀i,atS x l k≤i→i<k→cmpL x (l.getD i [])<0)∧(0<atS x l k→¬cmpL x (l.getD (atS x l k-1) [])<0)
 |0,_=>⟨fun i _ h=>by omega,fun h=>by unfold atS at h;omega⟩
 |k+1,hk=>by
  obtain⟨h1,h2⟩:=zi x l k (by omega)
  unfold atS
  split
  ·rename_i hc
   refine⟨fun i hi hl=> ?_,h2⟩
   rcases Nat.lt_or_ge i k with q|q
   ·exact h1 i hi q
   ·obtain rfl:i=k:=by omega
    exact hc
  ·rename_i hc
   refine⟨fun i hi hl=>by omega,fun _=> ?_⟩
   rw[Nat.add_sub_cancel];exact hc
theorem ot{l:List (List Nat)}{i:Nat}(h:i<l.length):l.getD i []∈l:=by
 rw[List.getD_eq_getElem?_getD,List.getElem?_eq_getElem h];exact List.getElem_mem h
theorem sX{l:List (List Nat)}{x p:List Nat}(h:p∈mR l x):p=x∨p∈l:=by
 unfold mR wq at h
 split at h
 ·exact .inr h
 ·rcases List.mem_append.1 h with h|h
  ·rcases List.mem_append.1 h with h|h
   ·exact .inr (List.mem_of_mem_take h)
   ·exact .inl (List.mem_singleton.1 h)
  ·exact .inr (List.mem_of_mem_drop h)
theorem tJ{l:List (List Nat)}{x p:List Nat}(h:p=x∨p∈l):p∈mR l x:=by
 unfold mR wq
 split
 ·rename_i hc
  unfold CH at hc
  rw[Bool.and_eq_true,decide_eq_true_eq,decide_eq_true_eq]at hc
  rcases h with rfl|h
  ·have hm:=ot (l:=l) (i:=atS p l l.length-1) (by have:=ug p l l.length;omega)
   rw[hc.2]at hm;exact hm
  ·exact h
 ·rcases h with rfl|h
  ·exact List.mem_append_left _ (List.mem_append_right _ (List.mem_singleton.2 rfl))
  ·rw[←List.take_append_drop (atS x l l.length) l]at h
   rcases List.mem_append.1 h with h|h
   ·exact List.mem_append_left _ (List.mem_append_left _ h)
   ·exact List.mem_append_right _ h
theorem zm{l:List (List Nat)}{x p:List Nat}:p∈mR l x↔p=x∨p∈l:=⟨sX,tJ⟩
theorem Dj{a b c:List Nat}(h1:SLt a b)(h2:SLt b c)(ha:IsS a)(hb:IsS b)(hc:IsS c):SLt a c:=by
 have hp:[a,b,c].Pairwise SLt∨True:= .inr trivial
 unfold SLt at*
 exact mW (ha.len.trans hb.len.symm) (hb.len.trans hc.len.symm) h1 h2
theorem BP{l:List (List Nat)}{x:List Nat}(hl:∀s∈l,IsS s)(hx:IsS x)(hp:l.Pairwise SLt):(mR l x).Pairwise SLt:=by
 have hk:=ug x l l.length
 obtain⟨s1,s2⟩:=zi x l l.length (Nat.le_refl _)
 unfold mR wq
 split
 ·exact hp
 ·rename_i hc
  generalize atS x l l.length=k at*
  have hlow:∀i,i<k→SLt (l.getD i []) x:=by
   intro i hi
   have hk0:0<k:=by omega
   have hlt:=s2 hk0
   have hm:=hl _ (ot (l:=l) (i:=k-1) (by omega))
   have hne:l.getD (k-1) []≠x:=by
    intro e
    apply hc
    unfold CH
    rw[decide_eq_true hk0,decide_eq_true e];rfl
   have a1:=ig (hx.len.trans hm.len.symm)
   have hlast:SLt (l.getD (k-1) []) x:=by
    unfold SLt
    rcases Int.lt_or_le (cmpL (l.getD (k-1) []) x) 0 with q|q
    ·exact q
    ·exact absurd (jl (hm.len.trans hx.len.symm) (by omega)) hne
   rcases Nat.lt_or_ge i (k-1)with q|q
   ·have e1:l.getD i []=l[i]'(by omega):=by rw[List.getD_eq_getElem?_getD,List.getElem?_eq_getElem];rfl
    have e2:l.getD (k-1) []=l[k-1]'(by omega):=by rw[List.getD_eq_getElem?_getD,List.getElem?_eq_getElem];rfl
    have h3:=List.pairwise_iff_getElem.1 hp i (k-1) (by omega) (by omega) q
    rw[←e1,←e2]at h3
    exact Dj h3 hlast (hl _ (ot (by omega))) hm hx
   ·obtain rfl:i=k-1:=by omega
    exact hlast
  have ht:=hp.take (i:=k)
  have hd:=hp.drop (i:=k)
  have htd:∀a∈l.take k,∀b∈l.drop k,SLt a b:=by
   rw[←List.take_append_drop k l]at hp
   exact(List.pairwise_append.1 hp).2.2
  rw[List.append_assoc]
  refine List.pairwise_append.2 ⟨ht,List.pairwise_cons.2 ⟨fun b hb=> ?_,hd⟩,fun a ha b hb=> ?_⟩
  ·change b∈l.drop k at hb
   obtain⟨i,hi,rfl⟩:=List.getElem_of_mem hb
   rw[List.length_drop]at hi
   rw[List.getElem_drop]
   have:=s1 (k+i) (by omega) (by omega)
   rw[List.getD_eq_getElem?_getD,List.getElem?_eq_getElem (by omega)]at this
   exact this
  ·change b∈x::l.drop k at hb
   have hax:SLt a x:=by
    obtain⟨i,hi,rfl⟩:=List.getElem_of_mem ha
    rw[List.length_take]at hi
    rw[List.getElem_take]
    have:=hlow i (by omega)
    rw[List.getD_eq_getElem?_getD,List.getElem?_eq_getElem (by omega)]at this
    exact this
   rcases List.mem_cons.1 hb with rfl|hb
   ·exact hax
   ·exact htd a ha b hb
theorem wW{l:List (List Nat)}{x:List Nat}(hl:∀s∈l,IsS s)(hx:IsS x):∀s∈mR l x,IsS s:=fun s hs=>by
 rcases sX hs with rfl|hs
 ·exact hx
 ·exact hl s hs
theorem zg(l:List (List Nat))(x:List Nat):(mR l x).length≤l.length+1:=by
 have:=ug x l l.length
 unfold mR wq
 split
 ·omega
 ·simp only[List.length_append,List.length_take,List.length_drop,List.length_singleton];omega
theorem Own.F9{lo lo' sz n:Nat}{h h':Heap}{v:Value}{cs:List Value}(hv:cw v=true)(q:Own lo h sz v n cs):Own lo' h' sz v n cs:=by
 cases q with
 |nil=>exact .nil
 |full=>cases hv
theorem Own.Mq{lo:Nat}{h:Heap}{v:Value}{l:List (List Nat)}(hl:∀s∈l,IsS s)(s:Own lo h 8 v l.length (ssL l)){k:Nat}(hk:k<l.length):
 ∃q,v= .slice (some ⟨q,0,none⟩) l.length UNK∧q<h.next∧h.get q=some (.cells (ssL l) true 8)∧bV 8 (bE (0+k*8) (ssL l))=us (l.getD k []):=by
 have e:bV 8 (bE (0+k*8) (ssL l))=us (l.getD k []):=by
  have:=mV (t:=[]) hl (List.getElem?_eq_getElem hk)
  rw[List.append_nil]at this
  rw[this,List.getD_eq_getElem?_getD,List.getElem?_eq_getElem hk];rfl
 generalize hn:l.length=n at s
 generalize hc:ssL l=cs at s
 cases s with
 |nil=>omega
 |full h1 h2 h3 h4 h5=>subst hn;subst hc;exact⟨_,rfl,h2,h3,e⟩
theorem Ah:∀l:List (List Nat),eM (ssL l)=true
 |[]=>rfl
 |s::l=>by rw[zf];exact qQ (cW s) (Ah l)
structure Km (T:Nat→Option ah):Prop where
 p:bg T
 f200:T 200=some f200
 f259:T 259=some f259
set_option maxHeartbeats 16000000 in
theorem AE(F:Km T){h:Heap}(hr:Rdy h){lo:Nat}(hlo:lo≤h.next){v:Value}{l:List (List Nat)}(hl:∀s∈l,IsS s)(ow:Own lo h 8 v l.length (ssL l))(hn:l.length<900000){x:List Nat}(hx:IsS x):
 Al T 200 [v,sv x] h fun v' h'=>Own lo h' 8 v' (mR l x).length (ssL (mR l x)):=by
 refine .of F.p F.f200 hr (fun v h1 hv q=>Own.F9 hv q) ?_
 obtain⟨a,c,rfl⟩:∃a c,v= .slice a l.length c:=(ow.slice (by omega)).form
 have x0:Ext h (h.push (.cells (cellsOf (sv x)) true 1)):=(Ext.refl h).push _
 have g0:(h.push (.cells (cellsOf (sv x)) true 1)).get h.next=some (.cells (us x) true 1):=by(simp(disch:=first|omega|(simp only[z1,z2];omega))only[z3,z4,z5,z6,z7,z1,z2];exact rfl)
 have n0:(h.push (.cells (cellsOf (sv x)) true 1)).next=h.next+1:=rfl
 have kx8:=aP hx.len
 have kx9:=bq hx.len
 refine y4 ?_;refine yB ?_;refine yM ?_;refine y3 ?_
 generalize(h.push (.cells (cellsOf (sv x)) true 1))=H at*
 have W:=x0.wf hr.wf
 have hL:=x0.log.trans hr.log
 have ow1:=ow.ext x0
 have hat0:=ug x l l.length
 unfold mR
 refine y4 ?_;refine yM ?_;refine yD ?_;refine yM ?_;refine y3 ?_
 refine BK (E:=[(0, .slice a l.length c),(3, .pointer (some ⟨h.next,0,none⟩)),(5, .int .i64 ((atS x l l.length:Nat):Int)),(20, .bool false)]) (H:=H) ?_ ?_
 ·refine au ?_
  refine cG (fun m e ds h'=>∃k:Nat,k≤l.length∧atS x l k=atS x l l.length∧k=m∧e=[(0, .slice a l.length c),(3, .pointer (some ⟨h.next,0,none⟩)),(5, .int .i64 (k:Nat))]∧ds=[]∧H=h')
   ⟨l.length,Nat.le_refl _,rfl,rfl,rfl,rfl,rfl⟩ ?_
  rintro m e ds h' ⟨k,hk,hat,rfl,rfl,rfl,rfl⟩
  cases k with
  |zero=>
   have hat:0=atS x l l.length:=hat
   rw[←hat]
   refine af ?_;refine af ?_;refine bQ ?_;refine qM ?_;refine aI rfl rfl rfl (by exact rfl) (by exact rfl) (by exact rfl) (vA (by exact rfl) (by exact rfl) (by exact jA (by omega))) ?_;refine qM ?_
   refine qO ?_;refine qO ?_;refine qO ?_;refine qO ?_;refine qO ?_;refine qO ?_;refine qO ?_;refine qO ?_
   refine aI rfl rfl rfl (by exact rfl) (by exact rfl) (by exact rfl) (mP (by exact rfl) (by exact rfl)) ?_;refine cK ?_;refine y1 ?_;refine aN ?_;refine yX ?_;refine cA ?_;refine dy ?_;refine dy ?_;refine fV ?_
   exact⟨rfl,rfl,rfl,rfl⟩
  |succ k=>
   have hys:=hl _ (ot (l:=l) (i:=k) (by omega))
   obtain⟨q,hv,hq1,hq2,hq3⟩:=Own.Mq hl ow1 (k:=k) (by omega)
   cases hv
   have ky:=aP hys.len
   have m0:aq .gtr (.int .i64 ((k+1:Nat):Int)) (.int .i64 0)=some (.bool true):=jj (by omega)
   have ms:aq .sub (.int .i64 ((k+1:Nat):Int)) (.int .i64 1)=some (.int .i64 ((k:Nat):Int)):=lB (by rw[bT (by omega) (by omega)];omega)
   have hstep:atS x l (k+1)=if cmpL x (l.getD k [])<0 then atS x l k else k+1:=rfl
   have C:=Mf F.p F.f259 (h:={H with log:=[]}) (.of W) hx hys
   generalize l.getD k []=y at*
   by_cases hc:cmpL x y<0
   ·rw[if_pos hc]at hstep
    have m3:aq .lss (.int .i64 (cmpL x y)) (.int .i64 0)=some (.bool true):=fm hc
    refine af ?_;refine af ?_;refine bQ ?_;refine qM ?_;refine qW ?_;refine qM ?_
    refine qV ?_;refine qM ?_;refine qM ?_
    refine qW ?_;refine qI ?_
    refine qV ?_
    refine qC ?_
    refine FW.puD C (by(repeat apply aW rfl);exact cM) ?_
    clear C
    refine qW ?_;refine aI rfl rfl rfl (by exact rfl) (by exact rfl) (by exact rfl) (j9 (by exact rfl) (by exact rfl)) ?_;refine cK ?_;refine y1 ?_;refine aN ?_
    refine yY ?_;refine aB ?_;refine aN ?_;refine au ?_;refine aA ?_;refine yM ?_;refine yW ?_;refine yM ?_;refine dK ?_;refine y1 ?_
    refine eD ?_;refine aN ?_
    exact⟨k,by omega,k,by omega,hstep▸hat,rfl,rfl,rfl,rfl⟩
   ·rw[if_neg hc]at hstep
    have m3:aq .lss (.int .i64 (cmpL x y)) (.int .i64 0)=some (.bool false):=fF (by omega)
    have hat2:k+1=atS x l l.length:=hstep▸hat
    rw[←hat2]
    refine af ?_;refine af ?_;refine bQ ?_;refine qM ?_;refine qW ?_;refine qM ?_
    refine qV ?_;refine qM ?_;refine qM ?_
    refine qW ?_;refine qI ?_
    refine qV ?_
    refine qC ?_
    refine FW.puD C (by(repeat apply aW rfl);exact cM) ?_
    clear C
    refine qW ?_;refine aI rfl rfl rfl (by exact rfl) (by exact rfl) (by exact rfl) (j9 (by exact rfl) (by exact rfl)) ?_;refine cK ?_;refine y1 ?_;refine aN ?_
    refine yX ?_;refine cA ?_;refine dy ?_;refine dy ?_;refine fV ?_
    exact⟨rfl,rfl,rfl,rfl⟩
 generalize atS x l l.length=k at*
 cases hq:CH l x k with
 |true=>
  have hpe:wq l x k=l:=by unfold wq;rw[if_pos hq]
  rw[hpe]
  unfold CH at hq
  rw[Bool.and_eq_true,decide_eq_true_eq,decide_eq_true_eq]at hq
  obtain⟨hq0,hqx⟩:=hq
  obtain⟨k',rfl⟩:∃k',k=k'+1:=⟨k-1,by omega⟩
  rw[Nat.add_sub_cancel]at hqx
  obtain⟨q,hv,hq1,hq2,hq3⟩:=Own.Mq hl ow1 (k:=k') (by omega)
  cases hv
  rw[hqx]at hq3
  have m0:aq .gtr (.int .i64 ((k'+1:Nat):Int)) (.int .i64 0)=some (.bool true):=jj (by omega)
  have ms:aq .sub (.int .i64 ((k'+1:Nat):Int)) (.int .i64 1)=some (.int .i64 ((k':Nat):Int)):=lB (by rw[bT (by omega) (by omega)];omega)
  refine af ?_;refine af ?_;refine bQ ?_;refine qM ?_;refine qW ?_;refine qM ?_
  refine qM ?_;refine qM ?_;refine qW ?_
  refine qI ?_;refine qV ?_
  refine qV ?_
  refine aI rfl rfl rfl (by exact rfl) (by exact rfl) (by exact rfl) (iZ (b:=x) (by exact rfl) (by exact rfl) hx.len hx.len) ?_
  rw[decide_eq_true (rfl:x=x)]
  refine aI rfl rfl rfl (by exact rfl) (by exact rfl) (by exact rfl) (j9 (by exact rfl) (by exact rfl)) ?_;refine cK ?_;refine y1 ?_;refine aN ?_;refine yY ?_;refine y4 ?_;refine yM ?_
  refine yM ?_;refine y3 ?_;refine aJ ?_;refine eC ?_
  exact dN hL rfl ow1
 |false=>
  have hpe:wq l x k=l.take k++[x]++l.drop k:=by unfold wq;rw[hq];rfl
  rw[hpe]
  refine BK (E:=[(0, .slice a l.length c),(3, .pointer (some ⟨h.next,0,none⟩)),(5, .int .i64 (k:Nat)),(33, .bool false)]) (H:=H) ?_ ?_
  ·cases k with
   |zero=>
    have m0:aq .gtr (.int .i64 ((0:Nat):Int)) (.int .i64 0)=some (.bool false):=rfl
    refine af ?_;refine bQ ?_;refine qM ?_;refine qW ?_;refine qM ?_
    refine qO ?_;refine qO ?_;refine qO ?_;refine qO ?_;refine qO ?_;refine qO ?_;refine qO ?_
    refine aI rfl rfl rfl (by exact rfl) (by exact rfl) (by exact rfl) (mP (by exact rfl) (by exact rfl)) ?_;refine cK ?_;refine y1 ?_;refine aN ?_;refine yX ?_;refine aB ?_
    exact⟨rfl,rfl,rfl,rfl⟩
   |succ k'=>
    have hys:=hl _ (ot (l:=l) (i:=k') (by omega))
    have ky:=aP hys.len
    have hne:¬l.getD k' []=x:=by
     intro e
     unfold CH at hq
     rw[Nat.add_sub_cancel,decide_eq_true e,decide_eq_true (Nat.succ_pos k')]at hq
     cases hq
    obtain⟨q,hv,hq1,hq2,hq3⟩:=Own.Mq hl ow1 (k:=k') (by omega)
    cases hv
    generalize l.getD k' []=y at*
    have m0:aq .gtr (.int .i64 ((k'+1:Nat):Int)) (.int .i64 0)=some (.bool true):=jj (by omega)
    have ms:aq .sub (.int .i64 ((k'+1:Nat):Int)) (.int .i64 1)=some (.int .i64 ((k':Nat):Int)):=lB (by rw[bT (by omega) (by omega)];omega)
    refine af ?_;refine bQ ?_;refine qM ?_;refine qW ?_;refine qM ?_
    refine qM ?_;refine qM ?_;refine qW ?_
    refine qI ?_;refine qV ?_
    refine qV ?_
    refine aI rfl rfl rfl (by exact rfl) (by exact rfl) (by exact rfl) (iZ (b:=x) (by exact rfl) (by exact rfl) hys.len hx.len) ?_
    rw[decide_eq_false hne]
    refine aI rfl rfl rfl (by exact rfl) (by exact rfl) (by exact rfl) (j9 (by exact rfl) (by exact rfl)) ?_;refine cK ?_;refine y1 ?_;refine aN ?_;refine yX ?_;refine aB ?_
    exact⟨rfl,rfl,rfl,rfl⟩
  have x7:Ext H (H.push (.cells [] true 8)):=(Ext.refl H).push _
  have g7b:(H.push (.cells [] true 8)).get H.next=some (.cells [] true 8):=z3 _ _
  have n7:(H.push (.cells [] true 8)).next=H.next+1:=rfl
  have g07:=(x7.old _ (by omega)).trans g0
  have ow7:=ow1.ext x7
  have hl2:(l.take k++[x]++l.drop k).length=k+1+(l.length-k):=by simp only[List.length_append,List.length_take,List.length_drop,List.length_singleton];omega
  have hs1x:ssL [x]=us x:=by simp[ssL]
  rw[hl2,mQ,mQ,hs1x]
  refine y4 ?_;refine ak (iH (by exact rfl) (by exact rfl)) ?_;refine yM ?_;refine yM ?_
  refine Fh (i:=k) ow7 hat0 (by exact rfl) (by exact rfl) ?_
  intro u1 hs1
  rw[sV hl]at hs1
  skip
  refine CC (lo:=H.next) (b:=H.next) g7b (Nat.lt_succ_self _) (Nat.le_refl _) (by omega) (by omega) (by exact rfl) (by exact rfl) hs1 (by rw[eS (fun r hr=>hl r (List.mem_of_mem_take hr)),List.length_take,Nat.min_eq_left hat0]) ?_
  intro v1 h8 o8 x8
  have x8:Ext (H.push (.cells [] true 8)) h8:=x8
  have ey8:=x7.trans x8
  have g08:=(x8.old _ (by omega)).trans g07
  have n8:=x8.next
  clear g7b hs1 ow7
  refine yM ?_;refine y3 ?_;refine y4 ?_;refine yM ?_;refine yV ?_
  refine ak (iH (oK hx (by exact rfl)) (show bR (aM 8 (Value.int IntKind.u64 0))=8 from rfl)) ?_
  skip
  refine D9 (lo:=H.next) (c1:=us x) (o8.ext ((Ext.refl h8).push _)) (by omega) (by omega) (by omega) (by show H.next≤h8.next+1;omega) (by omega) (by exact rfl) (by exact rfl) (iR (cs:=us x) (z3 h8 _) kx9 (by rw[aH,hx.len])) (by rw[aH,hx.len]) (cW _) ?_
  intro v2 h9 o9 x9
  have n9:h8.next+1≤h9.next:=x9.next
  have ow9:Own lo h9 8 (.slice a l.length c) l.length (ssL l):=ow1.keep (by omega) fun z _ hz=>(x9.old z hz).trans ((z4 (by omega)).trans (ey8.old z hz))
  refine yM ?_;refine y3 ?_;refine y4 ?_;refine yM ?_;refine yM ?_;refine yM ?_
  refine G7 (i:=k) ow9 hat0 (by exact rfl) (by exact rfl) ?_
  intro u3 h10 hs3 x10
  have n10:=x10.next
  rw[zM hl]at hs3
  skip
  refine JT (lo:=H.next) (o9.ext x10) (by omega) (by omega) (by omega) (by omega) (by omega) (by omega) (by exact rfl) (by exact rfl) hs3 (by rw[eS (fun r hr=>hl r (List.mem_of_mem_drop hr)),List.length_drop]) (Ah _) ?_
  intro v4 h11 o11 x11
  refine yM ?_;refine y3 ?_;refine aJ ?_
  exact dN (x11.log.trans (x10.log.trans (x9.log.trans (x8.log.trans hL)))) rfl (o11.low (by omega))
structure EX (T:Nat→Option ah):Prop where
 rf:KP T
 pt:Km T
 f258:T 258=some f258
 f316:T 316=some f316
def jM(s:List Nat):List Nat:=fZ (shC (-(bD s).1.lo.x) (-(bD s).1.lo.y) (-(bD s).1.lo.z)) s
theorem nI(s:List Nat):Rng (bD s).1 (-(bD s).1.lo.x) (-(bD s).1.lo.y) (-(bD s).1.lo.z):=by
 obtain⟨⟨l1,l2,l3⟩,⟨h1,h2,h3⟩⟩:=gr s
 exact⟨by omega,by omega,by omega⟩
theorem tS(s:List Nat):IsS (jM s):=kL (nI s)
set_option maxHeartbeats 4000000 in
theorem J9(F:EX T){h:Heap}(hr:Rdy h){s:List Nat}(hs:IsS s)(h0:¬s=s0):Pu T 316 [sv s] h (sv (jM s)):=by
 have hp:=F.pt.p
 refine .of hp F.f316 hr (oQ _) ?_
 have k8:=aP hs.len
 have k9:=bq hs.len
 have x0:Ext h ((h.push (.cells (cellsOf (sv s)) true 1)).push (.cells (aM 8 (.int .u64 0)) true 1)):=((Ext.refl h).push _).push _
 have g0:((h.push (.cells (cellsOf (sv s)) true 1)).push (.cells (aM 8 (.int .u64 0)) true 1)).get h.next=some (.cells (us s) true 1):=by(simp(disch:=first|omega|(simp only[z1,z2];omega))only[z3,z4,z5,z6,z7,z1,z2];exact rfl)
 have g1:((h.push (.cells (cellsOf (sv s)) true 1)).push (.cells (aM 8 (.int .u64 0)) true 1)).get (h.next+1)=some (.cells (us s0) true 1):=by(simp(disch:=first|omega|(simp only[z1,z2];omega)|(simp only[z1,z2];done)|fail)only[z8,z4,z5,z9,z7,z1,z2,g0];exact rfl)
 have n0:((h.push (.cells (cellsOf (sv s)) true 1)).push (.cells (aM 8 (.int .u64 0)) true 1)).next=h.next+2:=rfl
 refine y4 ?_;refine yB ?_;refine ak (cQ) ?_;refine y3 ?_
 generalize((h.push (.cells (cellsOf (sv s)) true 1)).push (.cells (aM 8 (.int .u64 0)) true 1))=H at*
 have W:=x0.wf hr.wf
 have hL:=x0.log.trans hr.log
 have hbp:=gr s
 have hok:=tS s
 have hrg:=nI s
 have hall:∀c∈aR s 512,inG (shC (-(bD s).1.lo.x) (-(bD s).1.lo.y) (-(bD s).1.lo.z) c)=true:=fun c hc=>hrg.all (dB.1 hc)
 have D2:=vT F.rf.tr F.rf.f138 (h:={H with log:=[]}) (.of W) hs
 have hb2:(bD s).2=true:=by unfold bD;rw[if_neg h0]
 have hce:jM s=fZ (shC (-(bD s).1.lo.x) (-(bD s).1.lo.y) (-(bD s).1.lo.z)) s:=rfl
 generalize jM s=o at*
 generalize bD s=bb at*
 obtain⟨bp,some'⟩:=bb
 dsimp only at hbp hrg hall hb2 hce
 subst hb2
 unfold CK at D2
 dsimp only at D2
 have px1:=hbp.lo.x
 have py1:=hbp.lo.y
 have pz1:=hbp.lo.z
 have nx:=AF px1
 have ny:=AF py1
 have nz:=AF pz1
 refine eY (E0:=[(1, .pointer (some ⟨h.next,0,none⟩)),(2, .pointer (some ⟨h.next+1,0,none⟩)),(3, .pointer (some ⟨H.next,0,none⟩)),(4, .bool true)]) (P:=fun h'=>Ext H h'∧h'.next=H.next+1∧h'.get H.next=some (.cells (bxL bp) true 1)) ?_ ?_
 ·refine aA ?_;refine yV ?_
  refine yC ?_
  refine FW.pu D2 ?_
  refine yM ?_;refine yE ?_;refine yE ?_;refine ak (cQ) ?_
  refine yS ?_;refine yM ?_;refine dK ?_
  refine y1 ?_
  exact⟨rfl,rfl,rfl,iB (by omega) _ _,rfl,jx _ _⟩
 clear D2
 rintro H1 ⟨x1,n1,q1⟩
 have W1:=x1.wf W
 have hL1:=x1.log.trans hL
 have g01:=(x1.old _ (by omega)).trans g0
 have g11:=(x1.old _ (by omega)).trans g1
 clear g0 g1
 have D3:=yJ F.rf.tr F.rf.f225 (h:={H1 with log:=[]}) (.of W1) hs (x:= -bp.lo.x) (y:= -bp.lo.y) (z:= -bp.lo.z) ⟨by omega,by omega⟩ ⟨by omega,by omega⟩ ⟨by omega,by omega⟩ hall
 rw[←hce]at D3
 have ko8:=aP hok.len
 have ko9:=bq hok.len
 have kol:=hok.len
 refine af ?_;refine y4 ?_;refine yM ?_;refine yA ?_;refine y3 ?_;refine yX ?_;refine aB ?_;refine aN ?_
 refine eY (E0:=[(2, .pointer (some ⟨h.next+1,0,none⟩)),(5, .pointer (some ⟨H1.next,0,none⟩))]) (P:=fun h'=>Ext H1 h'∧h'.next=H1.next+1∧h'.get H1.next=some (.cells (us o) true 1)) ?_ ?_
 ·refine aA ?_;refine yV ?_;refine yF ?_;refine yF ?_;refine yL ?_;refine ak (Ee (by exact rfl) (by assumption)) ?_;refine yF ?_
  refine yF ?_;refine yL ?_;refine ak (Ee (by exact rfl) (by assumption)) ?_;refine yF ?_;refine yF ?_;refine yL ?_;refine ak (Ee (by exact rfl) (by assumption)) ?_
  refine yC ?_
  refine FW.pu D3 ?_
  refine yM ?_;refine yE ?_;refine yE ?_;refine ak (cQ) ?_
  refine ak (cO (by exact rfl) (by exact rfl) (by(simp(disch:=first|omega|(simp only[z1,z2];omega))only[z3,z4,z5,z6,z7,z1,z2,q1,g01,g11];exact rfl)) (by(simp only[aH];assumption)) (by exact rfl) (by exact cW _)) ?_
  refine yM ?_;refine dK ?_;refine y1 ?_
  refine⟨rfl,rfl,rfl,(by first|exact iB (by omega) _ _|skip),rfl,?_⟩
  (simp(disch:=first|omega|(simp only[z1,z2];omega))only[z3,z4,z5,z6,z7,z1,z2,q1,g01,g11];done)
 clear D3
 rintro H2 ⟨x2,n2,q2⟩
 have hL2:=x2.log.trans hL1
 have g12:=(x2.old _ (by omega)).trans g11
 clear g01 g11 q1
 refine y4 ?_;refine yV ?_;refine ak (cO (by exact rfl) (by exact rfl) (by assumption) (by(simp only[aH];assumption)) (by exact rfl) (by exact cW _)) ?_;refine y3 ?_;refine aJ ?_
 refine aF ?_ (bY (own:=true) (s:=1) rfl ?_ ko9 ko8 rfl) rfl
 ·rw[Heap.aC (by omega)];exact hL2
 ·(simp(disch:=first|omega|(simp only[z1,z2];omega))only[z3,z4,z5,z6,z7,z1,z2,q2,g12];done)
def nq(b:List Nat)(n:Nat):List (List Nat):=((List.range n).map fun t=>jM (dz b t)).foldl mR []
theorem oA(b:List Nat)(n:Nat):nq b (n+1)=mR (nq b n) (jM (dz b n)):=by
 unfold nq;rw[List.range_succ,List.map_append,List.foldl_append];rfl
theorem xV(b:List Nat):∀n,∀s∈nq b n,IsS s
 |0=>fun s hs=>by cases hs
 |n+1=>by rw[oA];exact wW (xV b n) (tS _)
theorem tH(b:List Nat):∀n,(nq b n).length≤n
 |0=>Nat.le_refl _
 |n+1=>by rw[oA];exact Nat.le_trans (zg _ _) (Nat.succ_le_succ (tH b n))
theorem uv(b p:List Nat):∀n,p∈nq b n↔ ∃t,t<n∧jM (dz b t)=p
 |0=>⟨fun h=>(by cases h),fun⟨t,h,_⟩=>by omega⟩
 |n+1=>by
  rw[oA,zm,uv b p n]
  constructor
  ·rintro(rfl|⟨t,h1,h2⟩)
   ·exact⟨n,Nat.lt_succ_self n,rfl⟩
   ·exact⟨t,by omega,h2⟩
  ·rintro⟨t,h1,h2⟩
   rcases Nat.lt_or_ge t n with q|q
   ·exact .inr ⟨t,q,h2⟩
   ·obtain rfl:t=n:=by omega
    exact .inl h2.symm
theorem wC{b:List Nat}(hb:IsS b)(h0:¬b=s0)(t:Nat):¬dz b t=s0:=by
 intro q
 have hall:∀x∈aR b 512,inG (fC t x)=true:=fun c hc=>kZ c (iw hc)
 obtain⟨c,hc⟩:=l7 hb h0
 have:=(iG hall (fC t c)).2 ⟨c,hc,rfl⟩
 rw[show fZ (fC t) b=s0 from q,lp]at this;cases this
set_option maxHeartbeats 8000000 in
theorem Cx(F:EX T){h:Heap}(hr:Rdy h){b:List Nat}(hb:IsS b)(h0:¬b=s0):Al T 258 [sv b] h fun v h'=>Own h.next h' 8 v (nq b 24).length (ssL (nq b 24)):=by
 have hp:=F.pt.p
 refine .of hp F.f258 hr (fun v h1 hv q=>Own.F9 hv q) ?_
 have k8:=aP hb.len
 have k9:=bq hb.len
 have x0:Ext h (h.push (.cells (cellsOf (sv b)) true 1)):=(Ext.refl h).push _
 have g0:(h.push (.cells (cellsOf (sv b)) true 1)).get h.next=some (.cells (us b) true 1):=by(simp(disch:=first|omega|(simp only[z1,z2];omega))only[z3,z4,z5,z6,z7,z1,z2];exact rfl)
 have n0:(h.push (.cells (cellsOf (sv b)) true 1)).next=h.next+1:=rfl
 refine y4 ?_;refine yB ?_;refine yM ?_;refine y3 ?_
 generalize(h.push (.cells (cellsOf (sv b)) true 1))=H at*
 have W:=x0.wf hr.wf
 have hL:=x0.log.trans hr.log
 refine y4 ?_;refine yM ?_;refine y3 ?_;refine af ?_;refine y4 ?_;refine yM ?_;refine y3 ?_;refine au ?_
 refine cG (fun m e ds h'=>∃(t:Nat) (v:Value),t≤24∧24-t=m∧e=[(1, .pointer (some ⟨h.next,0,none⟩)),(3,v),(4, .int .i64 (t:Nat))]∧ds=[]∧Ext H h'∧Own H.next h' 8 v (nq b t).length (ssL (nq b t)))
  ⟨0,_,Nat.zero_le _,rfl,rfl,rfl, .refl H, .nil⟩ ?_
 rintro m e ds G ⟨t,v,ht24,rfl,rfl,rfl,xG,ow⟩
 have WG:=xG.wf W
 have hLG:=xG.log.trans hL
 have gG:=(xG.old _ (by omega)).trans g0
 have nG:=xG.next
 by_cases ht:t<24
 ·have mlt:aq .lss (.int .i64 (t:Nat)) (.int .i64 24)=some (.bool true):=fm (by omega)
  have hps:=kG b t
  have hpn:=wC hb h0 t
  have D1:=C9 F.rf.tr (h:={G with log:=[]}) (.of WG) hb ht
  have hsc:=oA b t
  have hok:=xV b t
  have hlen:=tH b t
  generalize dz b t=p at*
  have hcs:=tS p
  generalize nq b t=l at*
  have kp8:=aP hps.len
  have kp9:=bq hps.len
  have kpl:=hps.len
  refine af ?_;refine y4 ?_;refine yM ?_;refine yW ?_;refine y3 ?_;refine yY ?_;refine aB ?_;refine aN ?_
  refine af ?_;refine au ?_
  refine eY (E0:=[(1, .pointer (some ⟨h.next,0,none⟩)),(3,v),(4, .int .i64 (t:Nat)),(5, .pointer (some ⟨G.next,0,none⟩))]) (P:=fun h'=>Ext G h'∧h'.next=G.next+1∧h'.get G.next=some (.cells (us p) true 1)) ?_ ?_
  ·refine aA ?_;refine yV ?_;refine yM ?_
   refine yC ?_
   refine FW.pu D1 ?_
   refine yM ?_;refine yE ?_;refine yE ?_;refine ak (cQ) ?_
   refine ak (cO (by exact rfl) (by exact rfl) (by(simp(disch:=first|omega|(simp only[z1,z2];omega))only[z3,z4,z5,z6,z7,z1,z2,g0,gG];exact rfl)) (by(simp only[aH];assumption)) (by exact rfl) (by exact cW _)) ?_
   refine yM ?_;refine dK ?_;refine y1 ?_
   refine⟨rfl,rfl,rfl,(by first|exact iB (by omega) _ _|skip),rfl,?_⟩
   (simp(disch:=first|omega|(simp only[z1,z2];omega))only[z3,z4,z5,z6,z7,z1,z2,g0,gG];done)
  clear D1
  rintro G1 ⟨x1,n1,q1⟩
  have WG1:=x1.wf WG
  have hLG1:=x1.log.trans hLG
  have D2:=J9 F (h:={G1 with log:=[]}) (.of WG1) hps hpn
  have D3:=AE F.pt (h:={G1 with log:=[]}) (.of WG1) (lo:=H.next) (by show H.next≤G1.next;omega) hok ((ow.ext x1).log []) (by omega) hcs
  clear gG
  refine aA ?_;refine yM ?_;refine yV ?_
  refine yC ?_
  refine FW.pu D2 ?_
  clear D2
  skip
  refine yC ?_
  refine FW.al D3 (fun v h' m q=>q.log m) ?_
  rintro v2 G2 x2 q2
  clear D3
  refine yM ?_;refine dK ?_;refine y1 ?_;refine eD ?_;refine aN ?_;refine aA ?_;refine yM ?_;refine fE ?_;refine yM ?_;refine y3 ?_
  exact⟨24-(t+1),by omega,t+1,v2,by omega,rfl,rfl,rfl,(xG.trans x1).trans x2,by rw[hsc];exact q2⟩
 ·obtain rfl:t=24:=by omega
  have mlt:aq .lss (.int .i64 ((24:Nat):Int)) (.int .i64 24)=some (.bool false):=rfl
  generalize nq b 24=l at*
  refine af ?_;refine y4 ?_;refine yM ?_;refine yW ?_;refine y3 ?_;refine yX ?_;refine cA ?_;refine dy ?_
  refine dy ?_;refine fV ?_;refine aN ?_;refine y4 ?_;refine yM ?_;refine yM ?_;refine y3 ?_;refine aJ ?_
  exact dN hLG rfl (ow.low (by omega))
end Go.A.Pk
end
section
set_option maxRecDepth 100000
namespace Go.A.Pk
theorem Kt{s:List Nat}{x y z x' y' z':Int}(r:Rng (bD s).1 x y z)(r2:Rng (bD (fZ (shC x y z) s)).1 x' y' z')(r3:Rng (bD s).1 (x+x') (y+y') (z+z')):
 fZ (shC x' y' z') (fZ (shC x y z) s)=fZ (shC (x+x') (y+y') (z+z')) s:=by
 have h1:∀c∈aR s 512,inG (shC x y z c)=true:=fun c hc=>r.all (dB.1 hc)
 have h2:∀c∈aR (fZ (shC x y z) s) 512,inG (shC x' y' z' c)=true:=fun c hc=>r2.all (dB.1 hc)
 have h3:∀c∈aR s 512,inG (shC (x+x') (y+y') (z+z') c)=true:=fun c hc=>r3.all (dB.1 hc)
 refine sU (kL r2) (kL r3) fun m i hm hi=> ?_
 have e:dY (fZ (shC x' y' z') (fZ (shC x y z) s)) (dX m i)=true↔dY (fZ (shC (x+x') (y+y') (z+z')) s) (dX m i)=true:=by
  rw[iG h2,iG h3]
  constructor
  ·rintro⟨c,hc,hc2⟩
   obtain⟨d,hd,rfl⟩:=(iG h1 c).1 hc
   refine⟨d,hd,?_⟩
   rw[←hc2]
   unfold shC
   dsimp only
   congr 1<;>omega
  ·rintro⟨d,hd,hd2⟩
   refine⟨shC x y z d,(iG h1 _).2 ⟨d,hd,rfl⟩,?_⟩
   rw[←hd2]
   unfold shC
   dsimp only
   congr 1<;>omega
 cases h1:dY (fZ (shC x' y' z') (fZ (shC x y z) s)) (dX m i)with
 |true=>rw[e.1 h1]
 |false=>
  cases h2:dY (fZ (shC (x+x') (y+y') (z+z')) s) (dX m i)with
  |false=>rfl
  |true=>rw[e.2 h2]at h1;cases h1
theorem uy{s:List Nat}(c:Ce):dY (jM s) c=true↔ ∃d,dY s d=true∧shC (-(bD s).1.lo.x) (-(bD s).1.lo.y) (-(bD s).1.lo.z) d=c:=
 iG (fun c hc=>(nI s).all (dB.1 hc)) c
theorem Js{s:List Nat}(hs:IsS s)(h0:¬s=s0):¬jM s=s0:=by
 intro q
 obtain⟨c,hc⟩:=l7 hs h0
 have:=(uy (s:=s) _).2 ⟨c,hc,rfl⟩
 rw[q,lp]at this;cases this
theorem BH{s:List Nat}(hs:IsS s)(h0:¬s=s0):(bD (jM s)).1.hi.x=(bD s).1.hi.x-(bD s).1.lo.x∧(bD (jM s)).1.hi.y=(bD s).1.hi.y-(bD s).1.lo.y∧(bD (jM s)).1.hi.z=(bD s).1.hi.z-(bD s).1.lo.z:=by
 obtain⟨⟨l1,l2,l3⟩,⟨k1,k2,k3⟩⟩:=gr s
 obtain⟨⟨cl1,cl2,cl3⟩,⟨ck1,ck2,ck3⟩⟩:=gr (jM s)
 obtain⟨c0,hc0⟩:=l7 hs h0
 have b0:=lE hc0
 have up:=Bm (Js hs h0) (x:=(bD s).1.hi.x-(bD s).1.lo.x) (y:=(bD s).1.hi.y-(bD s).1.lo.y) (z:=(bD s).1.hi.z-(bD s).1.lo.z) (by omega) (by omega) (by omega) fun c hc=>by
  obtain⟨d,hd,rfl⟩:=(uy c).1 hc
  have:=lE hd
  unfold shC
  dsimp only
  omega
 have dn:=Bm h0 (x:=(bD (jM s)).1.hi.x+(bD s).1.lo.x) (y:=(bD (jM s)).1.hi.y+(bD s).1.lo.y) (z:=(bD (jM s)).1.hi.z+(bD s).1.lo.z) (by omega) (by omega) (by omega) fun c hc=>by
  have:=lE ((uy _).2 ⟨c,hc,rfl⟩)
  unfold shC at this
  dsimp only at this
  omega
 omega
def InC(s:List Nat)(x y z:Nat):Prop:=(x:Int)≤7-(bD s).1.hi.x∧(y:Int)≤7-(bD s).1.hi.y∧(z:Int)≤7-(bD s).1.hi.z
theorem InC.rng{s:List Nat}{x y z:Nat}(h:InC s x y z):Rng (bD s).1 x y z:=by
 obtain⟨⟨l1,l2,l3⟩,⟨k1,k2,k3⟩⟩:=gr s
 obtain⟨h1,h2,h3⟩:=h
 exact⟨by omega,by omega,by omega⟩
def LZ(a:List Nat)(im:List (List Nat))(p:List Nat):Prop:=∃s∈im,∃x y z:Nat,InC s x y z∧fZ (shC x y z) s=p∧sIn p a=true
theorem Bg{a b p:List Nat}(hb:IsS b)(h0:¬b=s0):LZ a (nq b 24) p↔Mg a b p:=by
 constructor
 ·rintro⟨s,hs,x,y,z,hin,rfl,hp⟩
  obtain⟨t,ht,rfl⟩:=(uv b s 24).1 hs
  have hk:=BH (kG b t) (wC hb h0 t)
  have r1:=nI (dz b t)
  have r2:=hin.rng
  obtain⟨i1,i2,i3⟩:=hin
  obtain⟨⟨l1,l2,l3⟩,⟨k1,k2,k3⟩⟩:=gr (dz b t)
  have r3:Rng (bD (dz b t)).1 (-(bD (dz b t)).1.lo.x+x) (-(bD (dz b t)).1.lo.y+y) (-(bD (dz b t)).1.lo.z+z):=⟨by omega,by omega,by omega⟩
  exact⟨t,ht,_,_,_,r3,(Kt r1 r2 r3).symm,hp⟩
 ·rintro⟨t,ht,x,y,z,r,rfl,hp⟩
  have hk:=BH (kG b t) (wC hb h0 t)
  have r1:=nI (dz b t)
  obtain⟨⟨l1,l2,l3⟩,⟨k1,k2,k3⟩⟩:=gr (dz b t)
  obtain⟨c1,c2,c3⟩:=r
  have hin:InC (jM (dz b t)) ((bD (dz b t)).1.lo.x+x).toNat ((bD (dz b t)).1.lo.y+y).toNat ((bD (dz b t)).1.lo.z+z).toNat:=⟨by omega,by omega,by omega⟩
  have r2:=hin.rng
  have e1: -(bD (dz b t)).1.lo.x+(((bD (dz b t)).1.lo.x+x).toNat:Int)=x:=by omega
  have e2: -(bD (dz b t)).1.lo.y+(((bD (dz b t)).1.lo.y+y).toNat:Int)=y:=by omega
  have e3: -(bD (dz b t)).1.lo.z+(((bD (dz b t)).1.lo.z+z).toNat:Int)=z:=by omega
  have he:=Kt r1 r2 (by rw[e1,e2,e3];exact⟨c1,c2,c3⟩)
  rw[e1,e2,e3]at he
  exact⟨_,(uv b _ 24).2 ⟨t,ht,rfl⟩,_,_,_,hin,he,hp⟩
structure PlI (a:List Nat) (im:List (List Nat)) (i z y x:Nat) (l:List (List Nat)):Prop where
 ok:∀p∈l,IsS p
 pw:l.Pairwise SLt
 sound:∀p∈l,LZ a im p
 comp:∀j s,im[j]? =some s→∀x' y' z':Nat,InC s x' y' z'→(j<i∨j=i∧(z'<z∨z'=z∧(y'<y∨y'=y∧x'<x)))→sIn (fZ (shC x' y' z') s) a=true→fZ (shC x' y' z') s∈l
theorem PlI.nil{a:List Nat}{im:List (List Nat)}:PlI a im 0 0 0 0 []:=
 ⟨fun p hp=>(by cases hp), .nil,(fun p hp=>by cases hp),fun j s _ x' y' z' _ h _=>by omega⟩
theorem PlI.skip{a s:List Nat}{im l:List (List Nat)}{i z y x:Nat}(q:PlI a im i z y x l)(hi:im[i]? =some s)(hn:sIn (fZ (shC x y z) s) a=false):PlI a im i z y (x+1) l:=by
 obtain⟨q1,q2,q3,q4⟩:=q
 refine⟨q1,q2,q3,fun j s' hj x' y' z' hin hlt hs=> ?_⟩
 by_cases he:j=i∧z'=z∧y'=y∧x'=x
 ·obtain⟨rfl,rfl,rfl,rfl⟩:=he
  rw[hi]at hj;cases hj
  rw[hn]at hs;cases hs
 ·exact q4 j s' hj x' y' z' hin (by omega) hs
theorem PlI.put{a s:List Nat}{im l:List (List Nat)}{i z y x:Nat}(q:PlI a im i z y x l)(hi:im[i]? =some s)(hc:InC s x y z)(hn:sIn (fZ (shC x y z) s) a=true):PlI a im i z y (x+1) (mR l (fZ (shC x y z) s)):=by
 obtain⟨q1,q2,q3,q4⟩:=q
 have hok:=kL hc.rng
 refine⟨wW q1 hok,BP q1 hok q2,fun p hp=> ?_,fun j s' hj x' y' z' hin hlt hs=> ?_⟩
 ·rcases sX hp with rfl|hp
  ·exact⟨s,List.mem_of_getElem? hi,x,y,z,hc,rfl,hn⟩
  ·exact q3 p hp
 ·by_cases he:j=i∧z'=z∧y'=y∧x'=x
  ·obtain⟨rfl,rfl,rfl,rfl⟩:=he
   rw[hi]at hj;cases hj
   exact tJ (.inl rfl)
  ·exact tJ (.inr (q4 j s' hj x' y' z' hin (by omega) hs))
theorem PlI.Hx{a s:List Nat}{im l:List (List Nat)}{i z y x:Nat}(q:PlI a im i z y x l)(hi:im[i]? =some s)(hx:¬ (x:Int)≤7-(bD s).1.hi.x):PlI a im i z (y+1) 0 l:=by
 obtain⟨q1,q2,q3,q4⟩:=q
 refine⟨q1,q2,q3,fun j s' hj x' y' z' hin hlt hs=>q4 j s' hj x' y' z' hin ?_ hs⟩
 by_cases he:j=i
 ·subst he
  rw[hi]at hj;cases hj
  obtain⟨i1,i2,i3⟩:=hin
  omega
 ·omega
theorem PlI.Ql{a s:List Nat}{im l:List (List Nat)}{i z y:Nat}(q:PlI a im i z y 0 l)(hi:im[i]? =some s)(hx:¬ (y:Int)≤7-(bD s).1.hi.y):PlI a im i (z+1) 0 0 l:=by
 obtain⟨q1,q2,q3,q4⟩:=q
 refine⟨q1,q2,q3,fun j s' hj x' y' z' hin hlt hs=>q4 j s' hj x' y' z' hin ?_ hs⟩
 by_cases he:j=i
 ·subst he
  rw[hi]at hj;cases hj
  obtain⟨i1,i2,i3⟩:=hin
  omega
 ·omega
theorem PlI.Pq{a s:List Nat}{im l:List (List Nat)}{i z:Nat}(q:PlI a im i z 0 0 l)(hi:im[i]? =some s)(hx:¬ (z:Int)≤7-(bD s).1.hi.z):PlI a im (i+1) 0 0 0 l:=by
 obtain⟨q1,q2,q3,q4⟩:=q
 refine⟨q1,q2,q3,fun j s' hj x' y' z' hin hlt hs=>q4 j s' hj x' y' z' hin ?_ hs⟩
 by_cases he:j=i
 ·subst he
  rw[hi]at hj;cases hj
  obtain⟨i1,i2,i3⟩:=hin
  omega
 ·omega
theorem JG(a b:List Nat):(jX a b).Pairwise SLt:=by
 unfold jX
 split
 ·exact .nil
 ·have h:∀s∈(iz a b).map (·.s),IsS s:=fun s hs=>by
   obtain⟨f,hf,rfl⟩:=List.mem_map.1 hs
   exact(sQ hf).1
  exact Fk (fun s hs=>h s (fW.1 hs)) (BO h)
theorem Mk{a b:List Nat}(ha:IsS a)(hb:IsS b)(h0:¬b=s0){l:List (List Nat)}(hp:l.Pairwise SLt)(hs:∀p∈l,LZ a (nq b 24) p):l.length≤98304:=
 Nat.le_trans (tW (DN hp) fun p hq=>(wG ha hb h0).2 ((Bg hb h0).1 (hs p hq))) (qn a b)
theorem LM{a b:List Nat}(ha:IsS a)(hb:IsS b)(h0:¬b=s0){l:List (List Nat)}(q:PlI a (nq b 24) (nq b 24).length 0 0 0 l):l=jX a b:=by
 obtain⟨q1,q2,q3,q4⟩:=q
 refine tG q1 (fun s hs=>oJ hs) q2 (JG a b) fun x=>⟨fun hx=>(wG ha hb h0).2 ((Bg hb h0).1 (q3 x hx)),fun hx=> ?_⟩
 obtain⟨s,hs,x',y',z',hin,rfl,hp⟩:=(Bg hb h0).2 ((wG ha hb h0).1 hx)
 obtain⟨j,hj⟩:=List.getElem?_of_mem hs
 have hlt:=(List.getElem?_eq_some_iff.1 hj).1
 exact q4 j s hj x' y' z' hin (.inl hlt) hp
end Go.A.Pk
end
section
set_option maxRecDepth 100000
namespace Go.A.Pk
variable {T:Nat→Option ah}
structure KL (T:Nat→Option ah):Prop where
 im:EX T
 f199:T 199=some f199
theorem Own.KA{lo lo' sz n:Nat}{h h':Heap}{u:Value}{k:Int}{cs:List Value}(hv:cw (.tuple #[u, .int .i64 k])=true)(q:Own lo h sz u n cs):Own lo' h' sz u n cs:=by
 cases q with
 |nil=>exact .nil
 |full h1 h2 h3 h4 h5=>
  simp[cw,gZ,cS,flat,nc,ji]at hv
  try cases hv.1
set_option maxHeartbeats 16000000 in
theorem A8(F:KL T){h:Heap}(hr:Rdy h){a b:List Nat}(ha:IsS a)(hb:IsS b)(hb0:¬b=s0):
 Al T 199 [sv a,sv b] h fun v h'=>∃u,v= .tuple #[u, .int .i64 0]∧Own h.next h' 8 u (jX a b).length (ssL (jX a b)):=by
 have hp:=F.im.pt.p
 refine .of hp F.f199 hr (fun v h1 hv ⟨u,e,q⟩=>⟨u,e,by subst e;exact Own.KA hv q⟩) ?_
 have ka8:=aP ha.len
 have ka9:=bq ha.len
 have kb8:=aP hb.len
 have kb9:=bq hb.len
 have x0:Ext h ((h.push (.cells (cellsOf (sv a)) true 1)).push (.cells (cellsOf (sv b)) true 1)):=((Ext.refl h).push _).push _
 have gA:((h.push (.cells (cellsOf (sv a)) true 1)).push (.cells (cellsOf (sv b)) true 1)).get h.next=some (.cells (us a) true 1):=by(simp(disch:=first|omega|(simp only[z1,z2];omega))only[z3,z4,z5,z6,z7,z1,z2];exact rfl)
 have gB:((h.push (.cells (cellsOf (sv a)) true 1)).push (.cells (cellsOf (sv b)) true 1)).get (h.next+1)=some (.cells (us b) true 1):=by(simp(disch:=first|omega|(simp only[z1,z2];omega)|(simp only[z1,z2];done)|fail)only[z8,z4,z5,z9,z7,z1,z2,gA];exact rfl)
 have n0:((h.push (.cells (cellsOf (sv a)) true 1)).push (.cells (cellsOf (sv b)) true 1)).next=h.next+2:=rfl
 refine y4 ?_;refine yB ?_;refine yB ?_;refine yM ?_;refine yM ?_;refine y3 ?_
 generalize((h.push (.cells (cellsOf (sv a)) true 1)).push (.cells (cellsOf (sv b)) true 1))=H at*
 have W:=x0.wf hr.wf
 have hL:=x0.log.trans hr.log
 have hlen:=fun(l:List (List Nat))=>Mk ha hb hb0 (l:=l)
 have hall:=fun(l:List (List Nat))=>LM ha hb hb0 (l:=l)
 have hiok:=xV b 24
 have hil:=tH b 24
 have C:=Cx F.im (h:={H with log:=[]}) (.of W) hb hb0
 generalize nq b 24=im at*
 generalize jX a b=res at*
 refine af ?_;refine y4 ?_;refine yV ?_;refine ak (cZ (by exact rfl)) ?_
 refine ak (iZ (b:=s0) (by exact rfl) (by exact rfl) hb.len rfl) ?_
 rw[decide_eq_false hb0]
 refine y3 ?_;refine yX ?_;refine aB ?_;refine aN ?_;refine y4 ?_;refine yM ?_;refine y3 ?_;refine y4 ?_;refine yV ?_
 refine yC ?_
 refine FW.al C (fun v h' m q=>q.log m) ?_
 rintro v H2 x2 qi
 clear C
 have qi:Own H.next H2 8 v im.length (ssL im):=qi
 have ey2:=x0.trans x2
 have W2:=ey2.wf hr.wf
 have hL2:=x2.log.trans hL
 have n2:=x2.next
 have gA2:=(x2.old _ (by omega)).trans gA
 have si:SsQ H2 v im:=⟨qi.slice (by omega),hiok⟩
 obtain⟨ai,ci,rfl⟩:=si.sl.form
 clear gA gB qi
 refine yM ?_;refine y3 ?_;refine af ?_;refine y4 ?_;refine yM ?_;refine y3 ?_;refine au ?_
 refine cG (fun m e ds h'=>∃(i:Nat) (v:Value) (l:List (List Nat)),i≤im.length∧im.length-i=m∧e=[(2, .pointer (some ⟨h.next,0,none⟩)),(6,v),(7, .slice ai im.length ci),(8, .int .i64 (i:Nat))]∧ds=[]∧Ext H2 h'∧Own H2.next h' 8 v l.length (ssL l)∧PlI a im i 0 0 0 l)
  ⟨0,_,[],Nat.zero_le _,rfl,rfl,rfl, .refl H2, .nil, .nil⟩ ?_
 rintro m e ds G ⟨i,v,l,hi,rfl,rfl,rfl,xG,ow,pl⟩
 have WG:=xG.wf W2
 have hLG:=xG.log.trans hL2
 have nG:=xG.next
 by_cases hlt:i<im.length
 ·obtain⟨s,hsi⟩:∃s,im[i]? =some s:=⟨im[i],List.getElem?_eq_getElem hlt⟩
  have hs:=hiok s (List.mem_of_getElem? hsi)
  have ks8:=aP hs.len
  have ks9:=bq hs.len
  obtain⟨bi,oi,c2,vs,own,tt,hv,gl,hbl,el⟩:=(si.ext xG).elem hsi
  cases hv
  have mlt:aq .lss (.int .i64 (i:Nat)) (.int .i64 (im.length:Nat))=some (.bool true):=fm (by omega)
  have D2:=vT F.im.rf.tr F.im.rf.f138 (h:={G with log:=[]}) (.of WG) hs
  have hbp:=gr s
  have hsk:=fun(x y z:Nat) (l:List (List Nat)) (q:PlI a im i z y x l)=>q.skip hsi
  have hput:=fun(x y z:Nat) (l:List (List Nat)) (q:PlI a im i z y x l)=>q.put hsi
  have hex:=fun(x y z:Nat) (l:List (List Nat)) (q:PlI a im i z y x l)=>q.Hx hsi
  have hey:=fun(y z:Nat) (l:List (List Nat)) (q:PlI a im i z y 0 l)=>q.Ql hsi
  have hez:=fun(z:Nat) (l:List (List Nat)) (q:PlI a im i z 0 0 l)=>q.Pq hsi
  have hmv:=fun(x y z:Nat) (hc:InC s x y z)=>kL hc.rng
  have hcells:=fun(x y z:Nat) (hc:InC s x y z) (c:Ce) (h:c∈aR s 512)=>hc.rng.all (dB.1 h)
  unfold InC at hput hmv hcells
  generalize hbb:bD s=bb at*
  obtain⟨bp,some'⟩:=bb
  dsimp only at hbp hput hex hey hez hmv hcells
  unfold CK at D2
  dsimp only at D2
  have px1:=hbp.lo.x
  have px2:=hbp.hi.x
  have py1:=hbp.lo.y
  have py2:=hbp.hi.y
  have pz1:=hbp.lo.z
  have pz2:=hbp.hi.z
  have sx:=di px2
  have sy:=di py2
  have sz:=di pz2
  refine af ?_;refine y4 ?_;refine yM ?_;refine yM ?_;refine yD ?_;refine yW ?_;refine y3 ?_
  refine yY ?_;refine aB ?_;refine aN ?_;refine af ?_;refine au ?_
  refine eY (E0:=[(2, .pointer (some ⟨h.next,0,none⟩)),(6,v),(7, .slice (some ⟨bi,oi,none⟩) im.length ci),(8, .int .i64 (i:Nat)),(9, .pointer (some ⟨G.next,0,none⟩))]) (P:=fun h'=>Ext G h'∧h'.next=G.next+1∧h'.get G.next=some (.cells (bxL bp) true 1)) ?_ ?_
  ·refine aA ?_;refine yM ?_;refine yM ?_;refine yI ?_;refine yV ?_
   refine yC ?_
   refine FW.pu D2 ?_
   refine yM ?_;refine yE ?_;refine yE ?_;refine ak (cQ) ?_
   refine yS ?_;refine yM ?_;refine dK ?_
   refine y1 ?_
   exact⟨rfl,rfl,rfl,iB (by omega) _ _,rfl,jx _ _⟩
  clear D2
  rintro G2 ⟨x3,n3,q3⟩
  have ow3:=ow.ext x3
  have xH:=xG.trans x3
  have gl3:=(x3.old _ hbl).trans gl
  have kq:G.next<G2.next:=by omega
  generalize G.next=q at*
  clear ow gl x3 n3
  refine y4 ?_;refine yM ?_;refine y3 ?_;refine au ?_
  refine cG (fun k e ds h'=>∃(z:Nat) (v:Value) (l:List (List Nat)),z≤8∧8-z=k∧e=[(2, .pointer (some ⟨h.next,0,none⟩)),(6,v),(7, .slice (some ⟨bi,oi,none⟩) im.length ci),(8, .int .i64 (i:Nat)),(9, .pointer (some ⟨q,0,none⟩)),(11, .int .i64 (z:Nat))]∧ds=[]∧Ext G2 h'∧Own H2.next h' 8 v l.length (ssL l)∧PlI a im i z 0 0 l)
   ⟨0,_,l,by omega,rfl,rfl,rfl, .refl G2,ow3,pl⟩ ?_
  clear ow3 pl
  rintro k e ds G3 ⟨z,v,l,hz8,rfl,rfl,rfl,x3,ow,pl⟩
  have q4:=(x3.old _ kq).trans q3
  by_cases hle:(z:Int)≤7-bp.hi.z
  ·have lz:aq .leq (.int .i64 (z:Nat)) (.int .i64 (7-bp.hi.z))=some (.bool true):=kJ hle
   refine af ?_;refine y4 ?_;refine yM ?_;refine yF ?_;refine yF ?_;refine yL ?_;refine yW ?_
   refine yW ?_;refine y3 ?_;refine yY ?_;refine aB ?_;refine aN ?_;refine af ?_;refine au ?_;refine y4 ?_
   refine yM ?_;refine y3 ?_;refine au ?_
   refine cG (fun k e ds h'=>∃(y:Nat) (v:Value) (l:List (List Nat)),y≤8∧8-y=k∧e=[(2, .pointer (some ⟨h.next,0,none⟩)),(6,v),(7, .slice (some ⟨bi,oi,none⟩) im.length ci),(8, .int .i64 (i:Nat)),(9, .pointer (some ⟨q,0,none⟩)),(11, .int .i64 (z:Nat)),(12, .int .i64 (y:Nat))]∧ds=[]∧Ext G2 h'∧Own H2.next h' 8 v l.length (ssL l)∧PlI a im i z y 0 l)
    ⟨0,_,l,by omega,rfl,rfl,rfl,x3,ow,pl⟩ ?_
   clear ow pl x3 q4
   rintro k e ds G3 ⟨y,v,l,hy8,rfl,rfl,rfl,x3,ow,pl⟩
   have q4:=(x3.old _ kq).trans q3
   by_cases hley:(y:Int)≤7-bp.hi.y
   ·have ly:aq .leq (.int .i64 (y:Nat)) (.int .i64 (7-bp.hi.y))=some (.bool true):=kJ hley
    refine af ?_;refine y4 ?_;refine yM ?_;refine yF ?_;refine yF ?_;refine yL ?_;refine yW ?_
    refine yW ?_;refine y3 ?_;refine yY ?_;refine aB ?_;refine aN ?_;refine af ?_;refine au ?_;refine y4 ?_
    refine yM ?_;refine y3 ?_;refine au ?_
    refine cG (fun k e ds h'=>∃(x:Nat) (v:Value) (l:List (List Nat)),x≤8∧8-x=k∧e=[(2, .pointer (some ⟨h.next,0,none⟩)),(6,v),(7, .slice (some ⟨bi,oi,none⟩) im.length ci),(8, .int .i64 (i:Nat)),(9, .pointer (some ⟨q,0,none⟩)),(11, .int .i64 (z:Nat)),(12, .int .i64 (y:Nat)),(13, .int .i64 (x:Nat))]∧ds=[]∧Ext G2 h'∧Own H2.next h' 8 v l.length (ssL l)∧PlI a im i z y x l)
     ⟨0,_,l,by omega,rfl,rfl,rfl,x3,ow,pl⟩ ?_
    clear ow pl x3 q4
    rintro k e ds G3 ⟨x,v,l,hx8,rfl,rfl,rfl,x3,ow,pl⟩
    have q4:=(x3.old _ kq).trans q3
    have WG3:=(xH.trans x3).wf W2
    have hL3:=(xH.trans x3).log.trans hL2
    by_cases hlex:(x:Int)≤7-bp.hi.x
    ·have lx:aq .leq (.int .i64 (x:Nat)) (.int .i64 (7-bp.hi.x))=some (.bool true):=kJ hlex
     have hls:=hmv x y z ⟨hlex,hley,hle⟩
     have gl4:=(x3.old _ (show bi<G2.next by omega)).trans gl3
     have n3:=x3.next
     have D3:=yJ F.im.rf.tr F.im.rf.f225 (h:={G3 with log:=[]}) (.of WG3) hs (x:=(x:Nat)) (y:=(y:Nat)) (z:=(z:Nat)) ⟨by omega,by omega⟩ ⟨by omega,by omega⟩ ⟨by omega,by omega⟩ (hcells x y z ⟨hlex,hley,hle⟩)
     have hsk1:=hsk x y z l pl
     have hput1:=fun q=>hput x y z l pl ⟨hlex,hley,hle⟩ q
     generalize fZ (shC x y z) s=ls at*
     have kls:=bq hls.len
     have kll:=aP hls.len
     have klen:=hls.len
     have hll:=hlen l pl.pw pl.sound
     have hlok:=pl.ok
     refine af ?_;refine y4 ?_;refine yM ?_;refine yF ?_;refine yF ?_;refine yL ?_;refine yW ?_
     refine yW ?_;refine y3 ?_;refine yY ?_;refine aB ?_;refine aN ?_;refine af ?_;refine au ?_
     refine eY (E0:=[(2, .pointer (some ⟨h.next,0,none⟩)),(6,v),(7, .slice (some ⟨bi,oi,none⟩) im.length ci),(8, .int .i64 (i:Nat)),(9, .pointer (some ⟨q,0,none⟩)),(11, .int .i64 (z:Nat)),(12, .int .i64 (y:Nat)),(13, .int .i64 (x:Nat)),(14, .pointer (some ⟨G3.next,0,none⟩))]) (P:=fun h'=>Ext G3 h'∧h'.next=G3.next+1∧h'.get G3.next=some (.cells (us ls) true 1)) ?_ ?_
     ·refine aA ?_;refine yM ?_;refine yM ?_;refine yI ?_;refine yV ?_;refine yM ?_;refine yM ?_;refine yM ?_
      refine yC ?_
      refine FW.pu D3 ?_
      refine yM ?_;refine yE ?_;refine yE ?_;refine ak (cQ) ?_
      refine ak (cO (by exact rfl) (by exact rfl) (by(simp(disch:=first|omega|(simp only[z1,z2];omega))only[z3,z4,z5,z6,z7,z1,z2,gA2,gl3,q3,q4,gl4];exact rfl)) (by(simp only[aH];assumption)) (by exact rfl) (by exact cW _)) ?_
      refine yM ?_;refine dK ?_;refine y1 ?_
      refine⟨rfl,rfl,rfl,(by first|exact iB (by omega) _ _|skip),rfl,?_⟩
      (simp(disch:=first|omega|(simp only[z1,z2];omega))only[z3,z4,z5,z6,z7,z1,z2,gA2,gl3,q3,q4,gl4];done)
     clear D3 q4 gl4
     rintro G4 ⟨x4,n4,q4⟩
     have WG4:=x4.wf WG3
     have hL4:=x4.log.trans hL3
     have x34:=x3.trans x4
     have gA4:=((xH.trans x34).old _ (by omega)).trans gA2
     have D4:=Fl hp F.im.rf.f52 F.im.rf.f140 (h:={G4 with log:=[]}) (.of WG4) hls ha
     have D5:=AE F.im.pt (h:={G4 with log:=[]}) (.of WG4) (lo:=H2.next) (by show H2.next≤G4.next;have:=(xH.trans x34).next;omega) hlok ((ow.ext x4).log []) (by omega) hls
     clear hbb
     cases hin:sIn ls a with
     |false=>
      rw[hin]at D4
      refine y4 ?_;refine yV ?_;refine yV ?_
      refine yC ?_
      refine FW.pu D4 ?_
      clear D4 D5
      refine yM ?_;refine y3 ?_;refine y4 ?_;refine yM ?_;refine y3 ?_
      refine yX ?_;refine aB ?_;refine eD ?_;refine aN ?_;refine aA ?_;refine yM ?_;refine fE ?_;refine yM ?_;refine y3 ?_
      exact⟨8-(x+1),by omega,x+1,v,l,by omega,rfl,rfl,rfl,x34,ow.ext x4,hsk1 hin⟩
     |true=>
      rw[hin]at D4
      refine y4 ?_;refine yV ?_;refine yV ?_
      refine yC ?_
      refine FW.pu D4 ?_
      clear D4
      refine yM ?_;refine y3 ?_;refine y4 ?_;refine yM ?_;refine y3 ?_
      refine yY ?_;refine aA ?_;refine yM ?_;refine yV ?_
      refine yC ?_
      refine FW.al D5 (fun v h' m q=>q.log m) ?_
      rintro v5 G5 x5 q5
      clear D5
      refine yM ?_;refine dK ?_;refine y1 ?_;refine eD ?_;refine aN ?_;refine aA ?_;refine yM ?_;refine fE ?_;refine yM ?_;refine y3 ?_
      exact⟨8-(x+1),by omega,x+1,v5,_,by omega,rfl,rfl,rfl,x34.trans x5,q5,hput1 hin⟩
    ·have lx:aq .leq (.int .i64 (x:Nat)) (.int .i64 (7-bp.hi.x))=some (.bool false):=lH (by omega)
     refine af ?_;refine y4 ?_;refine yM ?_;refine yF ?_;refine yF ?_;refine yL ?_;refine yW ?_
     refine yW ?_;refine y3 ?_;refine yX ?_;refine cA ?_;refine dy ?_;refine dy ?_;refine fV ?_;refine eD ?_;refine aN ?_;refine aA ?_
     refine yM ?_;refine fE ?_;refine yM ?_;refine y3 ?_
     exact⟨8-(y+1),by omega,y+1,v,l,by omega,rfl,rfl,rfl,x3,ow,hex x y z l pl hlex⟩
   ·have ly:aq .leq (.int .i64 (y:Nat)) (.int .i64 (7-bp.hi.y))=some (.bool false):=lH (by omega)
    refine af ?_;refine y4 ?_;refine yM ?_;refine yF ?_;refine yF ?_;refine yL ?_;refine yW ?_
    refine yW ?_;refine y3 ?_;refine yX ?_;refine cA ?_;refine dy ?_;refine dy ?_;refine fV ?_;refine eD ?_;refine aN ?_;refine aA ?_
    refine yM ?_;refine fE ?_;refine yM ?_;refine y3 ?_
    exact⟨8-(z+1),by omega,z+1,v,l,by omega,rfl,rfl,rfl,x3,ow,hey y z l pl hley⟩
  ·have lz:aq .leq (.int .i64 (z:Nat)) (.int .i64 (7-bp.hi.z))=some (.bool false):=lH (by omega)
   refine af ?_;refine y4 ?_;refine yM ?_;refine yF ?_;refine yF ?_;refine yL ?_;refine yW ?_
   refine yW ?_;refine y3 ?_;refine yX ?_;refine cA ?_;refine dy ?_;refine dy ?_;refine fV ?_;refine eD ?_;refine aN ?_;refine aA ?_
   refine yM ?_;refine fE ?_;refine yM ?_;refine y3 ?_
   exact⟨im.length-(i+1),by omega,i+1,v,l,by omega,rfl,rfl,rfl,xH.trans x3,ow,hez z l pl hle⟩
 ·obtain rfl:i=im.length:=by omega
  have mlt:aq .lss (.int .i64 (im.length:Nat)) (.int .i64 (im.length:Nat))=some (.bool false):=fF (by omega)
  have e:=hall l pl
  subst e
  refine af ?_;refine y4 ?_;refine yM ?_;refine yM ?_;refine yD ?_;refine yW ?_;refine y3 ?_
  refine yX ?_;refine cA ?_;refine dy ?_;refine dy ?_;refine fV ?_;refine aN ?_;refine y4 ?_;refine yM ?_;refine yM ?_;refine yM ?_;refine y3 ?_;refine aJ ?_
  exact dN hLG rfl ⟨_,rfl,ow.low (by omega)⟩
def qw(w:List Nat×List Nat):Bool:=decide (64<((ei w.2:Nat):Int)-((ei w.1:Nat):Int))
def jP(w:List Nat×List Nat)(o:List Nat):List (List Nat)×Int:=
 if sIn w.1 w.2=false∨o=s0 then([],1)else if qw w=true then([],82)else(nO w o,0)
theorem ER(s:List Nat):ei s≤512:=gY s 512
structure Ci (T:Nat→Option ah):Prop where
 nd:Cw T
 f22:T 22=some f22
 f89:T 89=some f89
 f90:T 90=some f90
 f91:T 91=some f91
theorem LA(F:Ci T){h:Heap}(hr:Rdy h){w:List Nat×List Nat}(hw:IsW w):Pu T 89 [wV w] h (.bool (sIn w.1 w.2)):=by
 have hp:=F.nd.pl.fi.ft.li.p
 refine .of hp F.f89 hr rfl ?_
 have hwc:cellsOf (wV w)=wL w:=by show(wL w).toArray.toList=_;simp
 have g0:(h.push (.cells (cellsOf (wV w)) true 1)).get h.next=some (.cells (wL w) true 1):=by rw[hwc];exact z3 h _
 have W:WF (h.push (.cells (cellsOf (wV w)) true 1)):=hr.wf.push _
 have hL:(h.push (.cells (cellsOf (wV w)) true 1)).log=[]:=hr.log
 refine y4 ?_;refine yB ?_;refine yM ?_;refine y3 ?_
 generalize(h.push (.cells (cellsOf (wV w)) true 1))=H at*
 have C:=Jn hp F.nd.f35 F.nd.f121 (h:={H with log:=[]}) (.of W) hw.a hw.b
 have wa:=DF hw
 have wb:=AV hw
 have wka:=aP hw.a.len
 have wkb:=aP hw.b.len
 refine y4 ?_;refine yF ?_;refine yV ?_;refine yF ?_;refine yV ?_
 refine yC ?_
 refine FW.pu C ?_
 refine yM ?_;refine y3 ?_;refine aJ ?_
 exact aF hL rfl rfl
theorem ML(F:Ci T){h:Heap}(hr:Rdy h){w:List Nat×List Nat}(hw:IsW w):Pu T 91 [wV w] h (.bool (qw w)):=by
 have hp:=F.nd.pl.fi.ft.li.p
 refine .of hp F.f91 hr rfl ?_
 have hwc:cellsOf (wV w)=wL w:=by show(wL w).toArray.toList=_;simp
 have g0:(h.push (.cells (cellsOf (wV w)) true 1)).get h.next=some (.cells (wL w) true 1):=by rw[hwc];exact z3 h _
 have W:WF (h.push (.cells (cellsOf (wV w)) true 1)):=hr.wf.push _
 have hL:(h.push (.cells (cellsOf (wV w)) true 1)).log=[]:=hr.log
 refine y4 ?_;refine yB ?_;refine yM ?_;refine y3 ?_
 generalize(h.push (.cells (cellsOf (wV w)) true 1))=H at*
 have C1:=pW F.nd.pl.fi.ft.co (h:={H with log:=[]}) (.of W) hw.b
 have C2:=pW F.nd.pl.fi.ft.co (h:={H with log:=[]}) (.of W) hw.a
 have wa:=DF hw
 have wb:=AV hw
 have wka:=aP hw.a.len
 have wkb:=aP hw.b.len
 have b1:=ER w.1
 have b2:=ER w.2
 have m1:aq .sub (.int .i64 ((ei w.2:Nat):Int)) (.int .i64 ((ei w.1:Nat):Int))=some (.int .i64 (((ei w.2:Nat):Int)-((ei w.1:Nat):Int))):=lB (bT (by omega) (by omega))
 have m2:aq .gtr (.int .i64 (((ei w.2:Nat):Int)-((ei w.1:Nat):Int))) (.int .i64 64)=some (.bool (qw w)):=by
  unfold qw
  by_cases q:64<((ei w.2:Nat):Int)-((ei w.1:Nat):Int)
  ·rw[decide_eq_true q];exact jj q
  ·rw[decide_eq_false q];exact jA (by omega)
 generalize((ei w.2:Nat):Int)-((ei w.1:Nat):Int)=d at*
 refine af ?_;refine bQ ?_;refine qF ?_;refine qV ?_;refine qF ?_
 refine qV ?_
 refine qC ?_
 refine FW.puD C1 (by apply bL rfl (aU rfl (dA (by exact rfl) (by assumption) (by assumption) (by assumption)) (by exact zH _)) rfl;apply bL rfl (aU rfl (eO (by exact rfl)) (by exact eF _)) rfl;(repeat apply aW rfl);exact cM) ?_
 clear C1
 skip
 refine qC ?_
 refine FW.puD C2 (by(repeat apply aW rfl);exact cM) ?_
 clear C2
 refine qW ?_;refine qW ?_;refine qM ?_
 refine cK ?_;refine y1 ?_;refine aN ?_;refine aJ ?_
 exact aF hL rfl rfl
set_option maxHeartbeats 4000000 in
theorem IE(F:Ci T){h:Heap}(hr:Rdy h)(hg:Tab h)(h2:2<h.next){w:List Nat×List Nat}(hw:IsW w){o:List Nat}(ho:IsS o):Al T 22 [wV w,sv o] h fun v h'=>∃u,v= .tuple #[u, .int .i64 (jP w o).2]∧OwS h.next h' u (jP w o).1:=by
 have hp:=F.nd.pl.fi.ft.li.p
 refine .of hp F.f22 hr ?_ ?_
 ·rintro v h1 hv ⟨u,rfl,q⟩
  have hu:cw u=true:=by
   have e:cw (.tuple #[u, .int .i64 (jP w o).2])=gZ [u, .int .i64 (jP w o).2]:=rfl
   rw[e]at hv
   simp only[gZ,cond_eq_ite,Bool.if_false_right,Bool.and_eq_true]at hv
   have hf:flat u=true:=of_decide_eq_true hv.1
   unfold cw
   split
   ·rename_i cs
    rcases q with⟨h1,_⟩|⟨_,_,_,_,_,_,h1,_⟩<;>cases h1
   ·exact hf
  exact⟨u,rfl,OwS.flat hu q⟩
 have hwc:cellsOf (wV w)=wL w:=by show(wL w).toArray.toList=_;simp
 have g0:((h.push (.cells (cellsOf (wV w)) true 1)).push (.cells (cellsOf (sv o)) true 1)).get h.next=some (.cells (wL w) true 1):=by rw[hwc];exact(z4 (Nat.lt_succ_self _)).trans (z3 h _)
 have g1:((h.push (.cells (cellsOf (wV w)) true 1)).push (.cells (cellsOf (sv o)) true 1)).get (h.next+1)=some (.cells (us o) true 1):=z3 _ _
 have n0:((h.push (.cells (cellsOf (wV w)) true 1)).push (.cells (cellsOf (sv o)) true 1)).next=h.next+2:=rfl
 have x0:Ext h ((h.push (.cells (cellsOf (wV w)) true 1)).push (.cells (cellsOf (sv o)) true 1)):=((Ext.refl h).push _).push _
 refine y4 ?_;refine yB ?_;refine yB ?_;refine yM ?_;refine yM ?_;refine y3 ?_
 generalize((h.push (.cells (cellsOf (wV w)) true 1)).push (.cells (cellsOf (sv o)) true 1))=H at*
 have W:=x0.wf hr.wf
 have hL:=x0.log.trans hr.log
 have wk:=rU hw
 have wkl:=oI hw
 have k8:=aP ho.len
 have k9:=bq ho.len
 have C1:=LA F (h:={H with log:=[]}) (.of W) hw
 have C2:=JI hp F.f90 (h:={H with log:=[]}) (.of W) ho
 have C3:=ML F (h:={H with log:=[]}) (.of W) hw
 have C4:=J1 F.nd (h:={H with log:=[]}) (.of W) (show Tab H from hg.ext x0 h2) (by show 2<H.next;omega) hw ho
 unfold jP
 cases hin:sIn w.1 w.2 with
 |false=>
  rw[hin]at C1
  rw[if_pos (.inl rfl)]
  refine af ?_;refine y4 ?_;refine yV ?_
  refine yC ?_
  refine FW.pu C1 ?_
  refine yA ?_;refine yM ?_;refine yP ?_;refine yP ?_;refine yT ?_;refine y3 ?_
  refine yY ?_;refine y4 ?_;refine yM ?_;refine yM ?_;refine y3 ?_;refine aJ ?_;refine eC ?_
  exact dN hL rfl ⟨_,rfl, .inl ⟨rfl,rfl⟩⟩
 |true=>
  rw[hin]at C1
  by_cases hz:o=s0
  ·rw[if_pos (.inr hz)]
   rw[decide_eq_true hz]at C2
   refine af ?_;refine y4 ?_;refine yV ?_
   refine yC ?_
   refine FW.pu C1 ?_
   refine yA ?_;refine yM ?_;refine yO ?_;refine yV ?_;refine yO ?_
   refine yC ?_
   refine FW.pu C2 ?_
   refine yU ?_;refine y3 ?_;refine yY ?_;refine y4 ?_;refine yM ?_;refine yM ?_;refine y3 ?_;refine aJ ?_;refine eC ?_
   exact dN hL rfl ⟨_,rfl, .inl ⟨rfl,rfl⟩⟩
  ·rw[if_neg (fun q=>q.elim (by simp) hz)]
   rw[decide_eq_false hz]at C2
   cases hm:qw w with
   |true=>
    rw[hm]at C3
    rw[if_pos rfl]
    refine af ?_;refine y4 ?_;refine yV ?_
    refine yC ?_
    refine FW.pu C1 ?_
    refine yA ?_;refine yM ?_;refine yO ?_;refine yV ?_;refine yO ?_
    refine yC ?_
    refine FW.pu C2 ?_
    refine yU ?_;refine y3 ?_;refine yX ?_;refine aB ?_;refine aN ?_;refine af ?_;refine y4 ?_
    refine yV ?_
    refine yC ?_
    refine FW.pu C3 ?_
    refine y3 ?_;refine yY ?_;refine y4 ?_;refine yM ?_;refine yM ?_;refine y3 ?_;refine aJ ?_;refine eC ?_
    exact dN hL rfl ⟨_,rfl, .inl ⟨rfl,rfl⟩⟩
   |false=>
    rw[hm]at C3
    rw[if_neg (by simp)]
    refine af ?_;refine y4 ?_;refine yV ?_
    refine yC ?_
    refine FW.pu C1 ?_
    refine yA ?_;refine yM ?_;refine yO ?_;refine yV ?_;refine yO ?_
    refine yC ?_
    refine FW.pu C2 ?_
    refine yU ?_;refine y3 ?_;refine yX ?_;refine aB ?_;refine aN ?_;refine af ?_;refine y4 ?_
    refine yV ?_
    refine yC ?_
    refine FW.pu C3 ?_
    clear C1 C2 C3
    refine y3 ?_;refine yX ?_;refine aB ?_;refine aN ?_;refine y4 ?_;refine yV ?_
    refine yV ?_
    refine yC ?_
    refine FW.al C4 (fun v h' m q=>q.log m) ?_
    rintro v H1 x1 q1
    have q1:OwS H.next H1 v (nO w o):=q1
    refine yM ?_;refine yM ?_;refine y3 ?_;refine aJ ?_
    exact dN (x1.log.trans hL) rfl ⟨_,rfl,q1.low (by omega)⟩
structure Kw (T:Nat→Option ah):Prop where
 cr:B1 T
 f20:T 20=some f20
 f84:T 84=some f84
def jU(s:List Nat):Bool:= !(decide (0<ei s∧ei s<40)||decide (60<ei s))
def Ap(w:List Nat×List Nat)(l:List (List Nat)):Bool:=if ei w.2≤60 then decide (l.length≤8)else l.all jU&&decide (l.length≤8)
set_option maxHeartbeats 4000000 in
theorem IM(F:Kw T){h:Heap}(hr:Rdy h){w:List Nat×List Nat}(hw:IsW w){a:Option Addr}{n c:Nat}{l:List (List Nat)}(s:SsQ h (.slice a n c) l)(hn:n<4611686018427387904):Pu T 20 [wV w, .slice a n c] h (.bool (Ap w l)):=by
 have hp:=F.cr.hr.p
 refine .of hp F.f20 hr rfl ?_
 obtain rfl:n=l.length:=by
  rcases ef.inv s.sl with⟨_,hv,h0,_⟩|⟨b,o,cap,hv,s1,hc⟩
  ·cases hv;exact h0.symm
  ·cases hv;rfl
 have hwc:cellsOf (wV w)=wL w:=by show(wL w).toArray.toList=_;simp
 have x0:Ext h (h.push (.cells (cellsOf (wV w)) true 1)):=(Ext.refl h).push _
 have g0:(h.push (.cells (cellsOf (wV w)) true 1)).get h.next=some (.cells (wL w) true 1):=by rw[hwc];exact z3 h _
 refine y4 ?_;refine yB ?_;refine yM ?_;refine y3 ?_
 generalize(h.push (.cells (cellsOf (wV w)) true 1))=H at*
 have W:=x0.wf hr.wf
 have hL:=x0.log.trans hr.log
 have wb:=AV hw
 have wkb:=aP hw.b.len
 have C:=xy F.cr F.f84 (h:={H with log:=[]}) (.of W) hw.b
 have m8:aq .leq (.int .i64 (l.length:Nat)) (.int .i64 8)=some (.bool (decide (l.length≤8))):=by
  by_cases q:l.length≤8
  ·rw[decide_eq_true q];exact kJ (by omega)
  ·rw[decide_eq_false q];exact lH (by omega)
 have s1:=s.ext x0
 unfold Ap
 by_cases h60:ei w.2≤60
 ·rw[if_pos h60]
  have m6:aq .leq (.int .i64 ((ei w.2:Nat):Int)) (.int .i64 60)=some (.bool true):=kJ (by omega)
  refine af ?_;refine y4 ?_;refine yF ?_;refine yV ?_
  refine yC ?_
  refine FW.pu C ?_
  refine yW ?_;refine y3 ?_;refine yY ?_;refine y4 ?_;refine yM ?_;refine yD ?_
  refine yW ?_;refine yM ?_;refine y3 ?_;refine aJ ?_;refine eC ?_
  exact aF hL rfl rfl
 rw[if_neg h60]
 have m6:aq .leq (.int .i64 ((ei w.2:Nat):Int)) (.int .i64 60)=some (.bool false):=lH (by omega)
 refine af ?_;refine y4 ?_;refine yF ?_;refine yV ?_
 refine yC ?_
 refine FW.pu C ?_
 clear C m6
 refine yf ?_;refine y3 ?_;refine yX ?_;refine aB ?_;refine aN ?_;refine af ?_;refine y4 ?_;refine yM ?_
 refine y3 ?_;refine au ?_
 refine cG (fun m e ds h'=>∃j:Nat,j≤l.length∧l.length-j=m∧e=[(1, .slice a l.length c),(5, .int .i64 (j:Nat))]∧ds=[]∧H=h'∧(l.take j).all jU=true)
  ⟨0,Nat.zero_le _,rfl,rfl,rfl,rfl,rfl⟩ ?_
 rintro m e ds _ ⟨j,hj,rfl,rfl,rfl,rfl,hall⟩
 by_cases hlt:j<l.length
 ·obtain⟨x,hx⟩:∃x,l[j]? =some x:=⟨l[j]'hlt,List.getElem?_eq_getElem _⟩
  have hxm:=List.mem_of_getElem? hx
  have hxs:=s.ok x hxm
  obtain⟨b,o,c2,vs,own,tt,hv,gl,hbl,el⟩:=s1.elem hx
  cases hv
  have k8:=aP hxs.len
  have C:=xy F.cr F.f84 (h:={H with log:=[]}) (.of W) hxs
  have mlt:aq .lss (.int .i64 (j:Nat)) (.int .i64 (l.length:Nat))=some (.bool true):=fm (by omega)
  have hnot:jU x=false→l.all jU=false:=fun q=>by
   rw[List.all_eq_false];exact⟨x,hxm,by rw[q];simp⟩
  by_cases p0:0<ei x
  ·have m1:aq .gtr (.int .i64 ((ei x:Nat):Int)) (.int .i64 0)=some (.bool true):=jj (by omega)
   by_cases p4:ei x<40
   ·have m2:aq .lss (.int .i64 ((ei x:Nat):Int)) (.int .i64 40)=some (.bool true):=fm (by omega)
    have e:jU x=false:=by unfold jU;rw[decide_eq_true ⟨p0,p4⟩];rfl
    rw[hnot e]
    refine af ?_;refine y4 ?_;refine yM ?_;refine yM ?_;refine yD ?_;refine yW ?_;refine y3 ?_
    refine yY ?_;refine aB ?_;refine aN ?_;refine af ?_;refine au ?_;refine y4 ?_;refine yM ?_;refine yM ?_;refine yI ?_;refine yV ?_
    refine yC ?_
    refine FW.pu C ?_
    refine yM ?_;refine y3 ?_;refine y4 ?_;refine yM ?_;refine yW ?_;refine yM ?_
    refine yO ?_;refine yM ?_;refine yO ?_;refine yW ?_;refine yT ?_;refine yM ?_;refine yP ?_;refine yP ?_
    refine yT ?_;refine y3 ?_;refine yY ?_;refine y4 ?_;refine yM ?_;refine y3 ?_;refine aJ ?_;refine jT ?_;refine eC ?_;refine eC ?_;refine jT ?_;refine eC ?_
    exact aF hL rfl rfl
   ·have m2:aq .lss (.int .i64 ((ei x:Nat):Int)) (.int .i64 40)=some (.bool false):=fF (by omega)
    by_cases p6:60<ei x
    ·have m3:aq .gtr (.int .i64 ((ei x:Nat):Int)) (.int .i64 60)=some (.bool true):=jj (by omega)
     have e:jU x=false:=by unfold jU;rw[decide_eq_true p6];simp
     rw[hnot e]
     refine af ?_;refine y4 ?_;refine yM ?_;refine yM ?_;refine yD ?_;refine yW ?_;refine y3 ?_
     refine yY ?_;refine aB ?_;refine aN ?_;refine af ?_;refine au ?_;refine y4 ?_;refine yM ?_;refine yM ?_;refine yI ?_;refine yV ?_
     refine yC ?_
     refine FW.pu C ?_
     refine yM ?_;refine y3 ?_;refine y4 ?_;refine yM ?_;refine yW ?_;refine yM ?_
     refine yO ?_;refine yM ?_;refine yO ?_;refine yW ?_;refine yT ?_;refine yM ?_;refine yO ?_;refine yM ?_;refine yO ?_
     refine yW ?_;refine yU ?_;refine y3 ?_;refine yY ?_;refine y4 ?_;refine yM ?_
     refine y3 ?_;refine aJ ?_;refine jT ?_;refine eC ?_;refine eC ?_;refine jT ?_;refine eC ?_
     exact aF hL rfl rfl
    ·have m3:aq .gtr (.int .i64 ((ei x:Nat):Int)) (.int .i64 60)=some (.bool false):=jA (by omega)
     have e:jU x=true:=by unfold jU;rw[decide_eq_false p6,decide_eq_false (fun q=>p4 q.2)];rfl
     refine af ?_;refine y4 ?_;refine yM ?_;refine yM ?_;refine yD ?_;refine yW ?_;refine y3 ?_
     refine yY ?_;refine aB ?_;refine aN ?_;refine af ?_;refine au ?_;refine y4 ?_;refine yM ?_;refine yM ?_;refine yI ?_;refine yV ?_
     refine yC ?_
     refine FW.pu C ?_
     refine yM ?_;refine y3 ?_;refine y4 ?_;refine yM ?_;refine yW ?_;refine yM ?_
     refine yO ?_;refine yM ?_;refine yO ?_;refine yW ?_;refine yT ?_;refine yM ?_;refine yO ?_;refine yM ?_;refine yO ?_
     refine yW ?_;refine yU ?_;refine y3 ?_;refine yX ?_;refine aB ?_;refine eD ?_;refine aN ?_;refine aA ?_
     refine yM ?_;refine fE ?_;refine yM ?_;refine y3 ?_
     refine⟨l.length-(j+1),by omega,j+1,by omega,rfl,rfl,rfl,rfl,?_⟩
     rw[fS hx,List.all_append,hall];simp[e]
  ·have m1:aq .gtr (.int .i64 ((ei x:Nat):Int)) (.int .i64 0)=some (.bool false):=jA (by omega)
   have m3:aq .gtr (.int .i64 ((ei x:Nat):Int)) (.int .i64 60)=some (.bool false):=jA (by omega)
   have e:jU x=true:=by unfold jU;rw[decide_eq_false (show¬60<ei x by omega),decide_eq_false (fun q=>p0 q.1)];rfl
   refine af ?_;refine y4 ?_;refine yM ?_;refine yM ?_;refine yD ?_;refine yW ?_;refine y3 ?_
   refine yY ?_;refine aB ?_;refine aN ?_;refine af ?_;refine au ?_;refine y4 ?_;refine yM ?_;refine yM ?_;refine yI ?_;refine yV ?_
   refine yC ?_
   refine FW.pu C ?_
   refine yM ?_;refine y3 ?_;refine y4 ?_;refine yM ?_;refine yW ?_;refine yM ?_
   refine yP ?_;refine yP ?_;refine yU ?_;refine yM ?_;refine yO ?_;refine yM ?_;refine yO ?_;refine yW ?_
   refine yU ?_;refine y3 ?_;refine yX ?_;refine aB ?_;refine eD ?_;refine aN ?_;refine aA ?_;refine yM ?_
   refine fE ?_;refine yM ?_;refine y3 ?_
   refine⟨l.length-(j+1),by omega,j+1,by omega,rfl,rfl,rfl,rfl,?_⟩
   rw[fS hx,List.all_append,hall];simp[e]
 ·obtain rfl:j=l.length:=by omega
  rw[List.take_length]at hall
  rw[hall,Bool.true_and]
  have mlt:aq .lss (.int .i64 (l.length:Nat)) (.int .i64 (l.length:Nat))=some (.bool false):=fF (by omega)
  refine af ?_;refine y4 ?_;refine yM ?_;refine yM ?_;refine yD ?_;refine yW ?_;refine y3 ?_
  refine yX ?_;refine cA ?_;refine dy ?_;refine dy ?_;refine fV ?_;refine aN ?_;refine y4 ?_;refine yM ?_;refine yD ?_;refine yW ?_;refine yM ?_;refine y3 ?_;refine aJ ?_
  exact aF hL rfl rfl
def lV(w:List Nat×List Nat)(ps:List (List Nat)):List (List Nat):=ps.foldl (fun l p=>mR l (dS p w.1)) []
theorem uQ(w:List Nat×List Nat)(ps:List (List Nat))(p:List Nat):lV w (ps++[p])=mR (lV w ps) (dS p w.1):=by
 unfold lV;rw[List.foldl_append];rfl
theorem rL{w:List Nat×List Nat}(hw:IsW w):∀n:Nat,∀ps:List (List Nat),ps.length=n→(∀p∈ps,IsS p)→(∀s∈lV w ps,IsS s)∧(lV w ps).Pairwise SLt∧(lV w ps).length≤n∧∀q,q∈lV w ps↔ ∃p∈ps,dS p w.1=q
 |0,ps,hn,_=>by
  obtain rfl:ps=[]:=List.length_eq_zero_iff.1 hn
  exact⟨fun s hs=>(by cases hs), .nil,Nat.le_refl _,fun q=>⟨fun h=>(by cases h),fun⟨p,h,_⟩=>(by cases h)⟩⟩
 |n+1,ps,hn,hok=>by
  have hne:ps≠[]:=fun e=>by rw[e]at hn;cases hn
  have e:=List.dropLast_concat_getLast hne
  have hl:ps.dropLast.length=n:=by rw[List.length_dropLast];omega
  have hx:=hok _ (List.getLast_mem hne)
  have hd:∀p∈ps.dropLast,IsS p:=fun p hp=>hok p ((List.dropLast_sublist ps).subset hp)
  generalize ps.getLast hne=x at*
  generalize ps.dropLast=d at*
  subst e
  obtain⟨h1,h2,h3,h4⟩:=rL hw n d hl hd
  rw[uQ]
  have hlx:=hx.less hw.a
  refine⟨wW h1 hlx,BP h1 hlx h2,Nat.le_trans (zg _ _) (by omega),fun q=> ?_⟩
  rw[zm,h4]
  constructor
  ·rintro(rfl|⟨p,hp,rfl⟩)
   ·exact⟨x,by simp,rfl⟩
   ·exact⟨p,List.mem_append_left _ hp,rfl⟩
  ·rintro⟨p,hp,rfl⟩
   rcases List.mem_append.1 hp with hp|hp
   ·exact .inr ⟨p,hp,rfl⟩
   ·exact .inl (by rw[List.mem_singleton.1 hp])
theorem Ic{w:List Nat×List Nat}(hw:IsW w)(o:List Nat):lV w (jX w.2 o)=kX w o:=by
 obtain⟨h1,h2,_,h4⟩:=rL hw _ (jX w.2 o) rfl fun p hp=>oJ hp
 exact tG h1 (fun s hs=>qB hw hs) h2 (Ai hw o) fun x=>by rw[h4,DI]
def lbS(l:List (List Nat))(i:Nat)(x:List Nat)(n:Nat):Bool:=(List.range n).all fun k=> !(!decide (k=i)&&sIn (l.getD k []) x)
theorem HH(l:List (List Nat))(i:Nat)(x:List Nat)(n:Nat):lbS l i x (n+1)=(lbS l i x n&& !(!decide (n=i)&&sIn (l.getD n []) x)):=by
 unfold lbS;rw[List.range_succ,List.all_append];simp
theorem tQ{l:List (List Nat)}{k:Nat}{y:List Nat}(h:l[k]? =some y):l.getD k []=y:=by rw[List.getD_eq_getElem?_getD,h];rfl
theorem I1{l:List (List Nat)}(hp:l.Pairwise SLt){i:Nat}{x:List Nat}(hi:l[i]? =some x):lbS l i x l.length= !lF l x:=by
 have key:∀k y,l[k]? =some y→(k=i↔y=x):=fun k y hk=>by
  constructor
  ·rintro rfl;rw[hi]at hk;cases hk;rfl
  ·rintro rfl
   obtain⟨a1,a2⟩:=List.getElem?_eq_some_iff.1 hi
   obtain⟨b1,b2⟩:=List.getElem?_eq_some_iff.1 hk
   rcases Nat.lt_trichotomy k i with q|q|q
   ·have:=List.pairwise_iff_getElem.1 hp k i b1 a1 q
    rw[a2,b2]at this;exact absurd this (kF _)
   ·exact q
   ·have:=List.pairwise_iff_getElem.1 hp i k a1 b1 q
    rw[a2,b2]at this;exact absurd this (kF _)
 cases hm:lF l x with
 |true=>
  unfold lF at hm
  obtain⟨y,hy,h2⟩:=List.any_eq_true.1 hm
  rw[Bool.and_eq_true,Bool.not_eq_true',decide_eq_false_iff_not]at h2
  obtain⟨k,hk⟩:=List.getElem?_of_mem hy
  have hlt:=(List.getElem?_eq_some_iff.1 hk).1
  unfold lbS
  rw[Bool.not_true,List.all_eq_false]
  refine⟨k,List.mem_range.2 hlt,?_⟩
  rw[tQ hk,h2.2,decide_eq_false (fun q=>h2.1 ((key k y hk).1 q))];simp
 |false=>
  unfold lF at hm
  unfold lbS
  rw[Bool.not_false,List.all_eq_true]
  intro k hk
  obtain⟨y,hy⟩:∃y,l[k]? =some y:=⟨l[k]'(List.mem_range.1 hk),List.getElem?_eq_getElem _⟩
  rw[tQ hy]
  have:=List.any_eq_false.1 hm y (List.mem_of_getElem? hy)
  by_cases e:k=i
  ·rw[decide_eq_true e];rfl
  ·rw[decide_eq_false e]
   rw[decide_eq_false (fun q=>e ((key k y hy).2 q))]at this
   cases hs:sIn y x with
   |false=>rfl
   |true=>rw[hs]at this;exact absurd rfl this
structure Ko (T:Nat→Option ah):Prop where
 rp:KL T
 f95:T 95=some f95
set_option maxHeartbeats 16000000 in
theorem Ie(F:Ko T){h:Heap}(hr:Rdy h){w:List Nat×List Nat}(hw:IsW w){o:List Nat}(ho:IsS o)(ho0:¬o=s0):Al T 95 [wV w,sv o] h fun v h'=>Own h.next h' 8 v (nO w o).length (ssL (nO w o)):=by
 have hp:=F.rp.im.pt.p
 refine .of hp F.f95 hr (fun v h1 hv q=>Own.F9 hv q) ?_
 have hwc:cellsOf (wV w)=wL w:=by show(wL w).toArray.toList=_;simp
 have g0:((h.push (.cells (cellsOf (wV w)) true 1)).push (.cells (cellsOf (sv o)) true 1)).get h.next=some (.cells (wL w) true 1):=by rw[hwc];exact(z4 (Nat.lt_succ_self _)).trans (z3 h _)
 have g1:((h.push (.cells (cellsOf (wV w)) true 1)).push (.cells (cellsOf (sv o)) true 1)).get (h.next+1)=some (.cells (us o) true 1):=z3 _ _
 have n0:((h.push (.cells (cellsOf (wV w)) true 1)).push (.cells (cellsOf (sv o)) true 1)).next=h.next+2:=rfl
 have x0:Ext h ((h.push (.cells (cellsOf (wV w)) true 1)).push (.cells (cellsOf (sv o)) true 1)):=((Ext.refl h).push _).push _
 refine y4 ?_;refine yB ?_;refine yB ?_;refine yM ?_;refine y3 ?_
 generalize((h.push (.cells (cellsOf (wV w)) true 1)).push (.cells (cellsOf (sv o)) true 1))=H at*
 have W:=x0.wf hr.wf
 have hL:=x0.log.trans hr.log
 have wk:=rU hw
 have wkl:=oI hw
 have wa:=DF hw
 have wb:=AV hw
 have wka:=aP hw.a.len
 have wkb:=aP hw.b.len
 have k8:=aP ho.len
 have k9:=bq ho.len
 have C1:=A8 F.rp (h:={H with log:=[]}) (.of W) hw.b ho ho0
 have hpok:∀x∈jX w.2 o,IsS x:=fun x hx=>oJ hx
 have hpl:=qn w.2 o
 have hAeq:=Ic hw o
 have hApw:=Ai hw o
 have hAok:∀x∈kX w o,IsS x:=fun x hx=>qB hw hx
 have hAl:=rj w o
 unfold nO
 generalize kX w o=r at*
 generalize jX w.2 o=ps at*
 refine y4 ?_;refine yF ?_;refine yV ?_;refine yV ?_
 refine yC ?_
 refine FW.al C1 (fun v h' m ⟨u,e,q⟩=>⟨u,e,q.log m⟩) ?_
 rintro _ H2 x2 ⟨u,rfl,q2⟩
 have q2:Own H.next H2 8 u ps.length (ssL ps):=q2
 clear C1 g1
 have ey2:=x0.trans x2
 have W2:=ey2.wf hr.wf
 have hL2:=x2.log.trans hL
 have n2:=x2.next
 have g02:=(x2.old _ (by omega)).trans g0
 have sp:SsQ H2 u ps:=⟨q2.slice (by omega),hpok⟩
 obtain⟨a,c,rfl⟩:=sp.sl.form
 clear g0 q2
 refine yM ?_;refine yE ?_;refine yE ?_;refine yM ?_;refine yM ?_;refine y3 ?_;refine y4 ?_;refine yM ?_;refine y3 ?_;refine af ?_;refine y4 ?_;refine yM ?_;refine y3 ?_;refine au ?_
 refine cG (fun m e ds h'=>∃(i:Nat) (v:Value),i≤ps.length∧ps.length-i=m∧e=[(2, .pointer (some ⟨h.next,0,none⟩)),(5, .slice a ps.length c),(7,v),(8, .int .i64 (i:Nat))]∧ds=[]∧Ext H2 h'∧Own H2.next h' 8 v (lV w (ps.take i)).length (ssL (lV w (ps.take i))))
  ⟨0,_,Nat.zero_le _,rfl,rfl,rfl, .refl H2, .nil⟩ ?_
 rintro m e ds G ⟨i,v,hi,rfl,rfl,rfl,xG,ow⟩
 have WG:=xG.wf W2
 have hLG:=xG.log.trans hL2
 have nG:=xG.next
 have g0G:=(xG.old _ (by omega)).trans g02
 by_cases hlt:i<ps.length
 ·obtain⟨p,hpi⟩:∃s,ps[i]? =some s:=⟨ps[i],List.getElem?_eq_getElem hlt⟩
  have hps:=hpok p (List.mem_of_getElem? hpi)
  have hls:=hps.less hw.a
  have kp8:=aP hps.len
  obtain⟨bi,oi,c2,vs,own,tt,hv,gl,hbl,el⟩:=(sp.ext xG).elem hpi
  cases hv
  have mlt:aq .lss (.int .i64 (i:Nat)) (.int .i64 (ps.length:Nat))=some (.bool true):=fm (by omega)
  have hstep:lV w (ps.take (i+1))=mR (lV w (ps.take i)) (dS p w.1):=by rw[fS hpi,uQ]
  obtain⟨hlok,_,hll,_⟩:=rL hw _ (ps.take i) rfl fun x hx=>hpok x (List.mem_of_mem_take hx)
  rw[List.length_take]at hll
  generalize lV w (ps.take i)=l at*
  have D1:=th hp F.rp.im.rf.f140 (h:={G with log:=[]}) (.of WG) hps hw.a
  have D2:=AE F.rp.im.pt (h:={G with log:=[]}) (.of WG) (lo:=H2.next) (by show H2.next≤G.next;omega) hlok (ow.log []) (by omega) hls
  generalize dS p w.1=lx at*
  obtain⟨av,cv,rfl⟩:∃a c,v= .slice a l.length c:=(ow.slice (by omega)).form
  refine af ?_;refine y4 ?_;refine yM ?_;refine yM ?_;refine yD ?_;refine yW ?_;refine y3 ?_
  refine yY ?_;refine aB ?_;refine aN ?_;refine af ?_;refine au ?_;refine bQ ?_;refine qM ?_;refine qM ?_
  refine qM ?_;refine qI ?_;refine qV ?_
  refine qF ?_;refine qV ?_
  refine qC ?_
  refine FW.puD D1 (by(repeat apply aW rfl);apply bL rfl (aU rfl (mY (by exact rfl)) (by exact pS _ _ _)) rfl;exact cM) ?_
  clear D1
  skip
  refine qC ?_
  refine FW.alD D2 (fun v h' m q=>q.log m) ?_
  rintro v5 G5 x5 q5
  clear D2
  have gl5:=(x5.old _ hbl).trans gl
  have g05:=(x5.old _ (show h.next<G.next by omega)).trans g0G
  clear gl g0G g02
  refine⟨_,by apply aW rfl;exact cM,?_⟩
  refine qM ?_;refine cK ?_;refine y1 ?_;refine eD ?_;refine aN ?_;refine aA ?_;refine yM ?_;refine fE ?_
  refine yM ?_;refine y3 ?_
  exact⟨ps.length-(i+1),by omega,i+1,v5,by omega,rfl,rfl,rfl,xG.trans x5,by rw[hstep];exact q5⟩
 ·obtain rfl:i=ps.length:=by omega
  rw[List.take_length,hAeq]at ow
  have mlt:aq .lss (.int .i64 (ps.length:Nat)) (.int .i64 (ps.length:Nat))=some (.bool false):=fF (by omega)
  have sr:SsQ G v r:=⟨ow.slice (by omega),hAok⟩
  obtain⟨a2,c2,rfl⟩:=sr.sl.form
  clear hAeq sp ow g02 g0G
  refine af ?_;refine y4 ?_;refine yM ?_;refine yM ?_;refine yD ?_;refine yW ?_;refine y3 ?_
  refine yX ?_;refine cA ?_;refine dy ?_;refine dy ?_;refine fV ?_;refine aN ?_;refine y4 ?_;refine yM ?_;refine y3 ?_;refine af ?_;refine y4 ?_
  refine yM ?_;refine y3 ?_;refine au ?_
  refine cG (fun m e ds h'=>∃(i:Nat) (v:Value),i≤r.length∧r.length-i=m∧e=[(7, .slice a2 r.length c2),(9,v),(10, .int .i64 (i:Nat))]∧ds=[]∧Ext G h'∧Own G.next h' 8 v ((r.take i).filter fun x=> !lF r x).length (ssL ((r.take i).filter fun x=> !lF r x)))
   ⟨0,_,Nat.zero_le _,rfl,rfl,rfl, .refl G, .nil⟩ ?_
  rintro m e ds G3 ⟨i,v,hi2,rfl,rfl,rfl,x3,ow⟩
  have W3:=x3.wf WG
  have hL3:=x3.log.trans hLG
  have n3:=x3.next
  by_cases hlt:i<r.length
  ·obtain⟨x,hx⟩:∃s,r[i]? =some s:=⟨r[i],List.getElem?_eq_getElem hlt⟩
   have hxs:=hAok x (List.mem_of_getElem? hx)
   have hst:=qH hx (fun x=> !lF r x)
   have hlb:=I1 hApw hx
   have kx8:=aP hxs.len
   have kx9:=bq hxs.len
   obtain⟨b,o1,c3,vs,own,tt,hv,gl,hbl,el⟩:=(sr.ext x3).elem hx
   cases hv
   have hfl:((r.take i).filter fun x=> !lF r x).length≤r.length:=Nat.le_trans (List.length_filter_le ..) (by rw[List.length_take];omega)
   generalize((r.take i).filter fun x=> !lF r x)=out at*
   have mlt2:aq .lss (.int .i64 (i:Nat)) (.int .i64 (r.length:Nat))=some (.bool true):=fm (by omega)
   refine af ?_;refine y4 ?_;refine yM ?_;refine yM ?_;refine yD ?_;refine yW ?_;refine y3 ?_
   refine yY ?_;refine aB ?_;refine aN ?_;refine af ?_;refine au ?_;refine y4 ?_;refine yM ?_;refine y3 ?_;refine af ?_;refine y4 ?_
   refine yM ?_;refine y3 ?_;refine au ?_
   refine cG (fun m e ds h'=>∃k:Nat,k≤r.length∧r.length-k=m∧e=[(7, .slice (some ⟨b,o1,none⟩) r.length c2),(9,v),(10, .int .i64 (i:Nat)),(11, .bool (lbS r i x k)),(12, .int .i64 (k:Nat))]∧ds=[]∧G3=h')
    ⟨0,Nat.zero_le _,rfl,rfl,rfl,rfl⟩ ?_
   rintro m e ds h' ⟨k,hk,rfl,rfl,rfl,rfl⟩
   by_cases hkl:k<r.length
   ·obtain⟨y,hy⟩:∃s,r[k]? =some s:=⟨r[k],List.getElem?_eq_getElem hkl⟩
    have hys:=hAok y (List.mem_of_getElem? hy)
    have ky8:=aP hys.len
    have hsk:=HH r i x k
    rw[tQ hy]at hsk
    obtain⟨b2,o2,c3,vs2,own2,tt2,hv,gl2,hbl2,el2⟩:=(sr.ext x3).elem hy
    cases hv
    obtain⟨rfl,rfl,rfl⟩:vs2=vs∧own2=own∧tt2=tt:=by
     have e:=gl2.symm.trans gl
     injection e with e
     injection e with e1 e2 e3
     exact⟨e1,e2,e3⟩
    have mlk:aq .lss (.int .i64 (k:Nat)) (.int .i64 (r.length:Nat))=some (.bool true):=fm (by omega)
    by_cases hki:k=i
    ·have mn:aq .neq (.int .i64 (k:Nat)) (.int .i64 (i:Nat))=some (.bool false):=AM (by omega)
     rw[decide_eq_true hki,Bool.not_true,Bool.false_and,Bool.not_false,Bool.and_true]at hsk
     refine af ?_;refine y4 ?_;refine yM ?_;refine yM ?_;refine yD ?_;refine yW ?_;refine y3 ?_
     refine yY ?_;refine aB ?_;refine aN ?_;refine af ?_;refine au ?_;refine af ?_;refine bQ ?_;refine qM ?_;refine qM ?_
     refine qW ?_;refine qM ?_;refine qO ?_;refine qO ?_;refine qO ?_
     refine qO ?_;refine qO ?_;refine qO ?_;refine qO ?_;refine qO ?_;refine qO ?_;refine aI rfl rfl rfl (by exact rfl) (by exact rfl) (by exact rfl) (mP (by exact rfl) (by exact rfl)) ?_
     refine cK ?_;refine y1 ?_;refine aN ?_;refine yX ?_;refine aB ?_;refine eD ?_;refine aN ?_;refine aA ?_;refine yM ?_;refine fE ?_
     refine yM ?_;refine y3 ?_
     exact⟨r.length-(k+1),by omega,k+1,by omega,rfl,by rw[hsk],rfl,rfl⟩
    ·have mn:aq .neq (.int .i64 (k:Nat)) (.int .i64 (i:Nat))=some (.bool true):=xg (by omega)
     rw[decide_eq_false hki,Bool.not_false,Bool.true_and]at hsk
     have D:=Fl hp F.rp.im.rf.f52 F.rp.im.rf.f140 (h:={G3 with log:=[]}) (.of W3) hys hxs
     cases hin:sIn y x with
     |true=>
      rw[hin]at D hsk
      rw[Bool.not_true,Bool.and_false]at hsk
      refine af ?_;refine y4 ?_;refine yM ?_;refine yM ?_;refine yD ?_;refine yW ?_;refine y3 ?_
      refine yY ?_;refine aB ?_;refine aN ?_;refine af ?_;refine au ?_;refine af ?_;refine bQ ?_;refine qM ?_;refine qM ?_
      refine qW ?_;refine qM ?_;refine qM ?_
      refine qM ?_;refine qI ?_;refine qV ?_
      refine qM ?_;refine qM ?_;refine qI ?_
      refine qV ?_
      refine qC ?_
      refine FW.puD D (by(repeat apply aW rfl);exact cM) ?_
      clear D
      refine aI rfl rfl rfl (by exact rfl) (by exact rfl) (by exact rfl) (j9 (by exact rfl) (by exact rfl)) ?_;refine cK ?_;refine y1 ?_;refine aN ?_;refine yY ?_;refine aA ?_;refine yM ?_;refine dK ?_
      refine y1 ?_;refine eD ?_;refine aN ?_;refine aA ?_;refine yM ?_;refine fE ?_;refine yM ?_;refine y3 ?_
      exact⟨r.length-(k+1),by omega,k+1,by omega,rfl,by rw[hsk],rfl,rfl⟩
     |false=>
      rw[hin]at D hsk
      rw[Bool.not_false,Bool.and_true]at hsk
      refine af ?_;refine y4 ?_;refine yM ?_;refine yM ?_;refine yD ?_;refine yW ?_;refine y3 ?_
      refine yY ?_;refine aB ?_;refine aN ?_;refine af ?_;refine au ?_;refine af ?_;refine bQ ?_;refine qM ?_;refine qM ?_
      refine qW ?_;refine qM ?_;refine qM ?_
      refine qM ?_;refine qI ?_;refine qV ?_
      refine qM ?_;refine qM ?_;refine qI ?_
      refine qV ?_
      refine qC ?_
      refine FW.puD D (by(repeat apply aW rfl);exact cM) ?_
      clear D
      refine aI rfl rfl rfl (by exact rfl) (by exact rfl) (by exact rfl) (j9 (by exact rfl) (by exact rfl)) ?_;refine cK ?_;refine y1 ?_;refine aN ?_;refine yX ?_;refine aB ?_;refine eD ?_;refine aN ?_;refine aA ?_;refine yM ?_
      refine fE ?_;refine yM ?_;refine y3 ?_
      exact⟨r.length-(k+1),by omega,k+1,by omega,rfl,by rw[hsk],rfl,rfl⟩
   ·obtain rfl:k=r.length:=by omega
    have mlk:aq .lss (.int .i64 (r.length:Nat)) (.int .i64 (r.length:Nat))=some (.bool false):=fF (by omega)
    rw[hlb]
    cases hm:lF r x with
    |true=>
     rw[hm,Bool.not_true,if_neg (by simp),List.append_nil]at hst
     rw[Bool.not_true]
     refine af ?_;refine y4 ?_;refine yM ?_;refine yM ?_;refine yD ?_;refine yW ?_;refine y3 ?_
     refine yX ?_;refine cA ?_;refine dy ?_;refine dy ?_;refine fV ?_;refine aN ?_;refine y4 ?_;refine yM ?_;refine y3 ?_;refine yX ?_;refine aB ?_;refine eD ?_
     refine aN ?_;refine aA ?_;refine yM ?_;refine fE ?_;refine yM ?_;refine y3 ?_
     exact⟨r.length-(i+1),by omega,i+1,v,by omega,rfl,rfl,rfl,x3,by rw[hst];exact ow⟩
    |false=>
     rw[hm,Bool.not_false,if_pos rfl]at hst
     rw[Bool.not_false]
     have hs1x:ssL [x]=us x:=by simp[ssL]
     refine af ?_;refine y4 ?_;refine yM ?_;refine yM ?_;refine yD ?_;refine yW ?_;refine y3 ?_
     refine yX ?_;refine cA ?_;refine dy ?_;refine dy ?_;refine fV ?_;refine aN ?_;refine y4 ?_;refine yM ?_;refine y3 ?_;refine yY ?_;refine aA ?_
     refine yM ?_;refine yM ?_;refine yM ?_;refine yI ?_;refine yV ?_
     refine ak (iH (oK hxs (by exact rfl)) (show bR (aM 8 (Value.int IntKind.u64 0))=8 from rfl)) ?_
     skip
     refine xk (lo:=G.next) (c1:=us x) (ow.ext ((Ext.refl G3).push _)) (by omega) (by omega) (by omega) (by show G.next≤G3.next+1;omega) (by omega) (by exact rfl) (by exact rfl) (iR (cs:=us x) (z3 G3 _) kx9 (by rw[aH,hxs.len])) (by rw[aH,hxs.len]) (cW _) ?_
     intro v2 h9 o9 x9
     refine yM ?_;refine dK ?_;refine y1 ?_;refine eD ?_;refine aN ?_;refine aA ?_;refine yM ?_;refine fE ?_;refine yM ?_;refine y3 ?_
     refine⟨r.length-(i+1),by omega,i+1,v2,by omega,rfl,rfl,rfl,((x3.lx (Nat.le_refl _)).trans ((((Ext.refl G3).push _).lx (by omega)).trans x9)).ext,?_⟩
     rw[hst,mQ,hs1x,List.length_append];exact o9
  ·obtain rfl:i=r.length:=by omega
   have mlt2:aq .lss (.int .i64 (r.length:Nat)) (.int .i64 (r.length:Nat))=some (.bool false):=fF (by omega)
   rw[List.take_length]at ow
   refine af ?_;refine y4 ?_;refine yM ?_;refine yM ?_;refine yD ?_;refine yW ?_;refine y3 ?_
   refine yX ?_;refine cA ?_;refine dy ?_;refine dy ?_;refine fV ?_;refine aN ?_;refine y4 ?_;refine yM ?_;refine yM ?_;refine y3 ?_;refine aJ ?_
   exact dN hL3 rfl (ow.low (by omega))
theorem Gj{w:List Nat×List Nat}(hw:IsW w){o s:List Nat}(h:s∈nO w o):IsS s:=qB hw (List.mem_filter.1 h).1
theorem DS(w:List Nat×List Nat)(o:List Nat):(nO w o).length≤98304:=Nat.le_trans (List.length_filter_le ..) (rj w o)
end Go.A.Pk
end
