/- Walks of functions, plain laws, the table. -/
import Derived.Test.YtgffeapobcfigaaGreatDoorFU2
import Derived.Test.YtgffeapobcfigaaGreatDoorFU1
import Derived.Test.YtgffeapobcfigaaGreatDoorFF
import Derived.Shelf.SlSortCmp.NoneTotal
import Derived.Test.YtgffeapobcfigaaGreatDoorProg
import Derived.Test.YtgffeapobcfigaaGreatDoorFH
import Derived.KernelRfl
import Derived.Test.YtgffeapobcfigaaGreatDoorFD
set_option linter.all false
set_option maxHeartbeats 16000000
set_option maxRecDepth 100000
section
namespace Go.A.Pk
variable {T:Nat->Option af}
inductive OwE (lo:Nat) (h:Heap) (sz:Nat):Value->Nat->List Value->Prop
 |own {v n cs}:Own lo h sz v n cs->OwE lo h sz v n cs
 |lit {b}:lo<=b->b<h.next->h.get b=some (.cells [] true sz)->OwE lo h sz (.slice (some ⟨b,0,none⟩) 0 0) 0 []
theorem OwE.keep{lo sz n:Nat}{h h':Heap}{v:Value}{cs:List Value}(s:OwE lo h sz v n cs)(hn:h.next<=h'.next)(ha:∀z,lo<=z->z<h.next->h'.get z=h.get z):OwE lo h' sz v n cs:=by
 cases s with
 |own s=>exact .own (s.keep hn ha)
 |lit h1 h2 h3=>exact .lit h1 (by omega) ((ha _ h1 h2).trans h3)
theorem OwE.ext{lo sz n:Nat}{h h':Heap}{v:Value}{cs:List Value}(s:OwE lo h sz v n cs)(x:Ext h h'):OwE lo h' sz v n cs:=s.keep x.next λz _ hz=>x.old z hz
section
variable {base:Nat} {rnd:Option Nat} {Q:XQ} {e:Env} {ds:Dfs} {h:Heap} {dst:Option Nat} {os:List aW} {x y:Operand} {v u:Value} {lo sz n i:Nat} {cs:List Value} {k:IntKind}
theorem AA(hx:ev h e x=some (.slice none 0 0))(hy:ev h e y=some (.int k ((0:Nat):Int))):aop h base e (.slice (.sl sz) x (some y) none none)=some (.val (.slice none 0 0) h):=by
 simp only[aop,hx,fU,oR hy,pn];rfl
theorem Jn(s:Own lo h sz v n cs)(hi:i<=n)(hx:ev h e x=some v)(hy:ev h e y=some (.int k (i:Nat)))
 (hK:∀u,cM h sz u=some (cs.take (i*sz),i)->WO T base rnd Q os (bU e dst u) ds h):WO T base rnd Q (⟨dst, .slice (.sl sz) x none (some y) none,none⟩::os) e ds h:=by
 cases s with
 |nil=>
  obtain rfl:i=0:=by omega
  refine aB (Dt hx (oR hy)) (hK _ ?_);simp[cM]
 |full h1 h2 h3 h4 h5=>
  refine aB (qv hx hy h3 hi (by omega)) (hK _ ?_);exact fF h3 (by rw[bn,List.drop_zero,bS]) (by rw[List.length_take,h4,Nat.min_eq_left (Nat.mul_le_mul_right _ hi)])
theorem Jr(s:Own lo h sz v n cs)(hi:i<=n)(hx:ev h e x=some v)(hy:ev h e y=some (.int k (i:Nat)))
 (hK:∀u h',cM h' sz u=some (cs.drop (i*sz),n-i)->Ext h h'→WO T base rnd Q os (bU e dst u) ds h'):WO T base rnd Q (⟨dst, .slice (.sl sz) x (some y) none none,none⟩::os) e ds h:=by
 cases s with
 |nil=>
  obtain rfl:i=0:=by omega
  refine aB (AA hx hy) (hK _ _ ?_ (.refl h));simp[cM]
 |full h1 h2 h3 h4 h5=>
  rcases Nat.lt_or_ge i n with hlt|hge
  ·refine aB (ni hx hy h3 hlt) (hK _ _ ?_ (.refl h));have e1:(cs.drop (i*sz)).length=(n-i)*sz:=by rw[List.length_drop,h4,Nat.sub_mul]
   exact fF h3 (by rw[bn,Nat.zero_add,bS,List.take_of_length_le (by omega)]) e1
  ·obtain rfl:i=n:=by omega
   refine aB (BF hx hy h3 h5) (hK _ _ ?_ ((Ext.refl h).push _));rw[List.drop_of_length_le (by omega),Nat.sub_self];exact fF (z3 h _) (by simp[bS]) (by simp)
theorem Ga{bytes b:Nat}(hb:h.get b=some (.cells [] true sz))(hbn:b<h.next)(hlo:lo<=b)(hn:n<1000000)(hby:bytes<=100000)(hx:ev h e x=some (.slice (some ⟨b,0,none⟩) 0 0))(hy:ev h e y=some u)(hs:cM h sz u=some (cs,n))(hcs:cs.length=n*sz)
 (hK:∀v' h',OwE lo h' sz v' n cs->Ext h h'→WO T base rnd Q os (bU e dst v') ds h'):WO T base rnd Q (⟨dst, .append sz bytes x y,none⟩::os) e ds h:=by
 by_cases h0:n=0
 ·subst h0;obtain rfl:cs=[]:=List.length_eq_zero_iff.1 (by omega);exact aB (qB hx hy hs (Nat.le_refl _)) (hK _ _ (.lit hlo hbn hb) (.refl h))
 ·have hbd:(2*(0+n)+768)*bytes<=281474976710656:=by
   have:(2*(0+n)+768)*bytes<=2000768*100000:=Nat.mul_le_mul (by omega) hby;omega
  refine aB (qz (len:=0) (c:=0) (ws:=cs) hx hy hs h0 (by omega) (by decide) hb (by simp) hbd (by simp[bS,dy])) ?_;refine hK _ _ (.own ?_) ((Ext.refl h).push _);rw[Nat.zero_add];exact .full (by omega) (Nat.lt_succ_self _) (z3 _ _) hcs h0
theorem J1{bytes:Nat}{c1:List Value}(s:OwE lo h sz v n cs)(hn:n<1000000)(hsz:0<sz)(hby:bytes<=100000)(hlo:lo<=h.next)(hbase:base<=lo)
 (hx:ev h e x=some v)(hy:ev h e y=some u)(hs:cM h sz u=some (c1,1))(hl1:c1.length=sz)(h1:dP c1=true)
 (hK:∀v' h',Own lo h' sz v' (n+1) (cs++c1)->Lx lo h h'→WO T base rnd Q os (bU e dst v') ds h'):WO T base rnd Q (⟨dst, .append sz bytes x y,none⟩::os) e ds h:=by
 cases s with
 |own s=>exact sC s hn hsz hby hlo hbase hx hy hs hl1 h1 hK
 | @lit b q1 q2 q3=>
   have hbd:(2*(0+1)+768)*bytes<=281474976710656:=by
    have:(2*(0+1)+768)*bytes<=770*100000:=Nat.mul_le_mul (by omega) hby;omega
   refine aB (qz (len:=0) (c:=0) (n:=1) (ws:=c1) hx hy hs (by omega) (by omega) (by decide) q3 (by simp) hbd (by simp[bS,dy])) ?_;refine hK _ _ ?_ ((Lx.refl lo h).push hlo _);exact .full hlo (Nat.lt_succ_self _) (z3 _ _) (by simp[hl1]) (by omega)
theorem MN{bytes m:Nat}{c2:List Value}(s:Own lo h sz v n cs)(h0:n≠0)(hn:n+m<1000000)(hsz:0<sz)(hby:bytes<=100000)(hlo:lo<=h.next)(hbase:base<=lo)
 (hx:ev h e x=some v)(hy:ev h e y=some u)(hs:cM h sz u=some (c2,m))(hl1:c2.length=m*sz)(h1:dP c2=true)
 (hK:∀v' h',Own lo h' sz v' (n+m) (cs++c2)->Lx lo h h'→WO T base rnd Q os (bU e dst v') ds h'):WO T base rnd Q (⟨dst, .append sz bytes x y,none⟩::os) e ds h:=by
 have hbd:(2*(n+m)+768)*bytes<=281474976710656:=by
  have:(2*(n+m)+768)*bytes<=2000768*100000:=Nat.mul_le_mul (by omega) hby;omega
 cases s with
 |nil=>exact absurd rfl h0
 | @full q _ _ q1 q2 q3 q4 q5=>
   by_cases hm:m=0
   ·subst hm;obtain rfl:c2=[]:=List.length_eq_zero_iff.1 (by omega);refine aB (qB hx hy hs (by unfold UNK;omega)) (hK _ _ ?_ (.refl lo h));rw[List.append_nil];exact .full q1 q2 q3 q4 q5
   ·refine aB (lC (n:=m) (vs:=cs) (ws:=cs++c2) hx hy hs hm q3 q4 hsz h1 hbd (dy _ _)) ?_;refine hK _ _ ?_ (((Lx.refl lo h).wr q1 (by omega)).push hlo _);exact .full hlo (Nat.lt_succ_self _) (z3 _ _) (by rw[List.length_append,q4,hl1,Nat.add_mul]) (by omega)
end
end Go.A.Pk
end
section
namespace Go.A.Pk
variable {T:Nat->Option af}
theorem Lg{base:Nat}{rnd:Option Nat}{Q:XQ}{e:Env}{ds:Dfs}{h:Heap}{lo sz bytes n:Nat}{dst:Option Nat}{os:List aW}{x y:Operand}{v u:Value}{cs c1:List Value}(s:Own lo h sz v n cs)(hn:n<1000000)(hsz:0<sz)(hb:bytes<=100000)
 (hx:ev h e x=some v)(hy:ev h e y=some u)(hs:cM h sz u=some (c1,1))(hl1:c1.length=sz)(h1:dP c1=true)
 (hK:∀h',Own h.next h' sz (.slice (some ⟨h.next,0,none⟩) (n+1) UNK) (n+1) (cs++c1)->h'.next=h.next+1->(∀z∈h'.log,lo<=z∨z∈h.log)->(WF h->WF h')->(∀z,z<h.next->(∀m c,v≠ .slice (some ⟨z,0,none⟩) m c)->h'.get z=h.get z)->WO T base rnd Q os (bU e dst (.slice (some ⟨h.next,0,none⟩) (n+1) UNK)) ds h'):
 WO T base rnd Q (⟨dst, .append sz bytes x y,none⟩::os) e ds h:=by
 have hbd:(2*(n+1)+768)*bytes<=281474976710656:=by
  have:(2*(n+1)+768)*bytes<=2000768*100000:=Nat.mul_le_mul (by omega) hb;omega
 cases s with
 |nil=>
  refine aB (sZ (n:=1) hx hy hs (by omega) (by simpa using hbd) rfl) ?_;exact hK _ (Own.full (lo:=h.next) (h:=h.push (.cells c1 true sz)) (sz:=sz) (q:=h.next) (n:=1) (cs:=c1) (Nat.le_refl _) (Nat.lt_succ_self _) (z3 _ _) (by omega) (by omega)) rfl (λz hz=> .inr hz) (λw=>w.push _) (λz hz _=>z4 hz)
 | @full q _ _ q1 q2 q3 q4 q5=>
   refine aB (lC (n:=1) (vs:=cs) (ws:=cs++c1) hx hy hs (by omega) q3 q4 hsz h1 hbd (dy _ _)) ?_;exact hK _ (.full (Nat.le_refl _) (Nat.lt_succ_self _) (z3 _ _) (by rw[List.length_append,q4,hl1,Nat.add_mul,Nat.one_mul]) (by omega)) rfl (λz hz=>by
    rcases fu (b:=q) (o:= .dead) hz with rfl|hz
    ·exact .inl q1
    ·exact .inr hz) (λw=>(w.as (AS.wr base _ q .dead)).push _) (λz hz hne=>(z4 (by exact hz)).trans (z5 (λe=>hne n UNK (by subst e;rfl))))
section
open I
def yg:bh:=I.R [g 8 (.new (aD 8 (.int .u64 0))),S 8 8 16] [6,8]
def xW:bh:= .block 1 (I.R [L 17 6,N 18 8 8,g 19 (.cS (aD 8 (.int .u64 0)) 1 [(0,8,(t 18))]),g 20 (.append 8 64 (t 17) (t 19)),S 1 6 20] [])
end
theorem Bg(hp:aP T){H:Heap}(hr:Rdy H){q l lo lo2:Nat}{fv v:Value}{ss:List (List Nat)}{f:Fi}(hfs:IsS f.s)(hm:ss.length<1000000)(hlo:lo<=q)
 (gl:H.get l=some (.loop [(6, .pointer (some ⟨q,0,none⟩)),(14,fv)] [15,16] yg xW 0 .normal))
 (go:H.get q=some (.cells [v] true 1))(own:Own lo2 H 8 v ss.length (ssL ss))(hlo2:lo<=lo2)(hq2:q<lo2)(hl2:l<lo2)(h2n:lo2<=H.next):
 FW T (.yield l) (fiV f) H λr H'=>r= .ret (.bool true)/\(∀z∈H'.log,lo<=z)/\q∈H'.log/\∃p,H'.get q=some (.cells [.slice (some ⟨p,0,none⟩) (ss.length+1) UNK] true 1)/\H.next<=p/\Own lo2 H' 8 (.slice (some ⟨p,0,none⟩) (ss.length+1) UNK) (ss++[f.s]).length (ssL (ss++[f.s]))/\(∀z,z<H.next->z≠q->(∀m c,v≠ .slice (some ⟨z,0,none⟩) m c)->H'.get z=H.get z)/\WF H'∧H.next<=H'.next/\p<H'.next:=by
 have no:q≠l:=λe=>by subst e;rw[go]at gl;cases gl
 have ko:=hr.wf.hM go;have kl:=hr.wf.hM gl;have hvl:∀m c,v≠ .slice (some ⟨l,0,none⟩) m c:=λm c e=>by
  rw[e]at own;generalize hn:ss.length=n at own;generalize ssL ss=cs at own;cases own with
  |full h1=>omega
 have hvq:∀m c,v≠ .slice (some ⟨q,0,none⟩) m c:=λm c e=>by
  rw[e]at own;generalize hn:ss.length=n at own;generalize ssL ss=cs at own;cases own with
  |full h1=>omega
 refine FW.OZ hp (q:=q) (R:=λH'=>∃p,H'.get q=some (.cells [.slice (some ⟨p,0,none⟩) (ss.length+1) UNK] true 1)/\H.next<=p/\Own lo2 H' 8 (.slice (some ⟨p,0,none⟩) (ss.length+1) UNK) (ss++[f.s]).length (ssL (ss++[f.s]))/\(∀z,z<H.next->z≠q->(∀m c,v≠ .slice (some ⟨z,0,none⟩) m c)->H'.get z=H.get z)/\WF H'∧H.next<=H'.next/\p<H'.next) gl rfl kl ko no ?_;have k8:=aG hfs.len;have k9:=aN hfs.len;have kln:=hfs.len;unfold yg;refine Y2 ?_;refine aB (aO (by exact rfl) (by exact rfl) YG (by(simp only[aA];assumption)) (by exact rfl) (by exact bB _)) ?_;refine cN ?_;refine y1 ?_;refine⟨rfl,YG,?_⟩;unfold xW;refine pg ?_;refine WE.J2 ?_;intro hA hAe;have A1:∀z,z<H.next->z≠l->H.get z=hA.get z:=λz hz hne=>by rw[hAe];symm;simp(disch:=first|omega|(simp only[z1,z2];omega))only[z5,z4]
 have A3:hA.get H.next=some (.cells (us f.s) true 1):=by rw[hAe];(simp(disch:=first|omega|(simp only[z1,z2];omega))only[z3,z4,z5,z6,z7,z1,z2,gl,go];done)
 have A2:hA.get l=some (.loop [(6, .pointer (some ⟨q,0,none⟩)),(14,fv)] [15,16] yg xW 1 .normal):=by rw[hAe];(simp(disch:=first|omega|(simp only[z1,z2];omega))only[z3,z4,z5,z6,z7,z1,z2,gl,go,A3];exact rfl)
 have A5:hA.next=H.next+1:=by rw[hAe];rfl
 have A6:hA.log=[]:=by rw[hAe];simp(disch:=first|omega|(simp only[z1,z2];omega))only[Heap.aq,Heap.vl];exact hr.log
 have A7:WF hA:=by rw[hAe];exact(((hr.wf.push _).as (AS.wr _ _ _ _)).as (AS.wr _ _ _ _))
 clear hAe;have Bo:=(A1 q ko no).symm.trans go;have hsl:ssL [f.s]=us f.s:=by simp[ssL]
 have ownA:Own lo2 hA 8 v ss.length (ssL ss):=own.keep (by omega) λz hz hz2=>(A1 z hz2 (by omega)).symm;clear go;refine Y3 ?_;refine aB (iy (Ae hfs (by exact rfl)) (show bO (aD 8 (Value.int IntKind.u64 0))=8 from rfl)) ?_;refine Lg (lo:=lo2) (c1:=us f.s) (ownA.ext ((Ext.refl hA).push _)) hm (by omega) (by omega) (by exact rfl) (by exact rfl) (fF (cs:=us f.s) YG k9 (by rw[aA,hfs.len])) (by rw[aA,hfs.len]) (bB _) ?_;intro h3 own3 n3 l3 w3 o3;have own3:Own (H.next+2) h3 8 (.slice (some ⟨H.next+2,0,none⟩) (ss.length+1) UNK) (ss.length+1) (ssL ss++us f.s):=by
  have e:(hA.push (.cells (us f.s) true 8)).next=H.next+2:=by show hA.next+1=_;omega
  rw[←e];exact own3
 have n3:h3.next=H.next+3:=by rw[n3];show hA.next+1+1=_;omega
 have l3:∀z∈h3.log,lo2<=z:=λz hz=>(l3 z hz).elim id λe=>by
  have e:z∈hA.log:=e;rw[A6]at e;cases e
 have o3:∀z,z<H.next+1->(∀m c,v≠ .slice (some ⟨z,0,none⟩) m c)->h3.get z=hA.get z:=λz hz hne=>(o3 z (by show z<hA.next+1;omega) hne).trans (z4 (by omega))
 have W3:WF h3:=w3 (A7.push _);have e5:∀o,(hA.push o).next=H.next+2:=λo=>by show hA.next+1=_;omega
 rw[e5];have Co:=(o3 q (by omega) hvq).trans Bo;have Cl:=(o3 l (by omega) hvl).trans A2;have hce:ssL (ss++[f.s])=ssL ss++us f.s:=by rw[nq,hsl]
 have hcl:(ss++[f.s]).length=ss.length+1:=by simp
 clear Bo A3 A2;refine yS ?_;refine cN ?_;refine Y2 ?_;refine⟨rfl,⟨_,YG,rfl⟩,λz hz=> ?_,wj (by omega),⟨_,_,_,Heap.bC Co,rfl⟩,H.next+2,(z5 no).trans (Heap.bC Co),by omega,?_,λz hz h1 h2=> ?_,?_,?_,?_⟩
 ·rcases fu hz with rfl|hz
  ·exact hlo
  ·exact Nat.le_trans hlo2 (l3 z hz)
 ·rw[hce,hcl];exact Own.low (lo:=H.next+2) (Own.keep own3 (Nat.le_refl _) λz hz _=>(z5 (by omega)).trans (z5 (by omega))) (by omega)
 ·by_cases hl:z=l
  ·subst hl;rw[gl];exact Heap.bC ((z5 (Ne.symm no)).trans Cl)
  ·exact(z5 hl).trans ((z5 h1).trans ((o3 z (by omega) h2).trans (A1 z (by omega) hl).symm))
 ·exact(W3.as (AS.wr _ _ _ _)).as (AS.wr _ _ _ _)
 ·show H.next<=h3.next
  omega
 ·show H.next+2<h3.next
  omega
theorem uE{a b:List Nat}{f:Fi}(h:f∈iJ a b):IsS f.s/\∃t x y z,f.s=kj (dw b t) (bL (dw b t)).1 x y z:=by
 unfold iJ at h;split at h
 ·cases h
 ·obtain⟨t,_,h⟩:=List.mem_flatMap.1 h;unfold nZ Gj u0 sG uj at h;obtain⟨z,_,h⟩:=List.mem_flatMap.1 h;obtain⟨y,_,h⟩:=List.mem_flatMap.1 h;obtain⟨x,_,h⟩:=List.mem_flatMap.1 h;split at h
  ·rw[List.mem_singleton.1 h];exact⟨mS (lE b t) _ _ _ _,t,x,y,z,rfl⟩
  ·cases h
structure PPl (l q:Nat) (H0:Heap) (L:bN) (done:List Fi) (H:Heap):Prop where
 old:∀z,z<l->z≠q->H.get z=H0.get z
 loop:H.get l=some L
 nx:l<H.next
 val:∃v,H.get q=some (.cells [v] true 1)/\Own (l+1) H 8 v (done.map (·.s)).length (ssL (done.map (·.s)))
 few:done.length<=100000
def wPl(q:Nat)(H:Heap)(z:Nat):Prop:=z=q∨∃m c,H.get q=some (.cells [.slice (some ⟨z,0,none⟩) m c] true 1)
theorem PPl.gZ{l q:Nat}{H0:Heap}{L:bN}(hq:q<l)(done:List Fi)(H H':Heap)(p:PPl l q H0 L done H)(hn:H.next<=H'.next)(h:∀x,x<H.next->H'.get x=H.get x):PPl l q H0 L done H':=by
 obtain⟨p1,p2,p3,⟨v,p4,p5⟩,p6⟩:=p;exact⟨λz hz hne=>(h z (by omega)).trans (p1 z hz hne),(h l p3).trans p2,by omega,⟨v,(h q (by omega)).trans p4,p5.keep hn λz _ hz=>h z hz⟩,p6⟩
theorem zO{lo sz n:Nat}{h:Heap}{p m c:Nat}{cs:List Value}(s:Own lo h sz (.slice (some ⟨p,0,none⟩) m c) n cs):lo<=p/\p<h.next:=by
 cases s with
 |full h1 h2=>exact⟨h1,h2⟩
theorem Ei(hf:T 189=some (.j9 (oH 168 190))){k:Nat}(hk:k=168∨k=190){lo:Nat}{h:Heap}{v:Value}{l:List (List Nat)}(s:OwS lo h v l)(hok:∀x∈l,IsS x)(hl:l.length<1000000):
 Gs T 189 [v, .func (.func k) #[] #[]] h (vB v) (λ_ h'=>OwS lo h' v (eD l)):=by
 have hlen:=jA l;have e0:FI 168 190 (.func (.func k) #[] #[])=true:=by
  rcases hk with rfl|rfl<;>rfl
 rcases s with⟨rfl,rfl⟩|⟨b,c,tl,h1,h2,h3,rfl,h4,h5⟩
 ·have e:eD []=[]:=List.length_eq_zero_iff.1 hlen;rw[e];refine⟨.ret (.tuple #[]),h,⟨1,λn hn=> ?_⟩,⟨Nat.le_refl _,λz hz=> .inl hz,λ_ _ _=>rfl,id⟩, .tuple #[],rfl, .inl ⟨rfl,rfl⟩⟩;obtain⟨k',rfl⟩:∃k,n=k+1:=⟨n-1,by omega⟩;simp only[iN,hf,oH,e0,cond_true]
 ·have e2:(FI 168 190 (.func (.func k) #[] #[])&&(Nat.beq 0 0&&Nat.blt l.length 1000000))=true:=by rw[e0,fT hl];rfl
  have e3:=BE (t:=tl) hok;have e4:bE (l.length*8) (ssL l++tl)=tl:=by rw[bn,←eL hok,List.drop_left]
  refine⟨.ret (.tuple #[]),h.wr h.next b (.cells (ssL (eD l)++tl) true 8),⟨1,λn hn=> ?_⟩,?_, .tuple #[],rfl, .inr ⟨b,c,tl,h1,h2,?_,by rw[hlen],by omega,λq=>h5 λq2=>q (by rw[q2];exact List.length_eq_zero_iff.1 (jA []))⟩⟩
  ·obtain⟨k',rfl⟩:∃k,n=k+1:=⟨n-1,by omega⟩;simp only[iN,hf,oH,h3,e2,cond_true,e3,e4]
  ·refine⟨Nat.le_refl _,λz hz=> ?_,λz hz hnz=> ?_,λw=>w.as (AS.wr h.next _ _ _)⟩
   ·rcases fu hz with rfl|hz
    ·exact .inr ⟨_,_,rfl⟩
    ·exact .inl hz
   ·exact z5 (λe=>hnz (by rw[e];exact⟨_,_,rfl⟩))
  ·show(h.wr h.next b (.cells (ssL (eD l)++tl) true 8)).get b=_;rw[z6,h3];rfl
structure JV (T:Nat->Option af):Prop where
 fi:NC T
 f72:T 72=some f72
 f167:T 167=some f167
 f189:T 189=some (.j9 (oH 168 190))
 f192:T 192=some f192
theorem Fb(F:JV T){h:Heap}(hr:Rdy h){lo:Nat}(hlo:h.next≥lo){v:Value}{l:List (List Nat)}(s:OwS lo h v l)(hok:∀x∈l,IsS x)(hl:l.length<1000000):
 Gs T 167 [v, .func (.func 168) #[] #[]] h (vB v) (λv h'=>OwS lo h' v (ddS (eD l))):=by
 have hp:=F.fi.ft.li.p;refine .of hp F.f167 (λv h1 h2 hv hn2 hag hq=>OwS.flat hv hq) ?_;have C1:=Ei F.f189 (.inl rfl) (h:={h with log:=[]}) (s.log []) hok hl;refine Y7 ?_;refine FW.gs C1 (λv h' m q=>q.log m) ?_;rintro _ H1 x1 q1;clear C1;have hok2:∀x∈eD l,IsS x:=λx hx=>hok x (fZ.1 hx);have C2:=vV hp F.f192 (h:={H1 with log:=[]}) (.of (x1.wf hr.wf)) (q1.log []) hok2 (by rw[jA];exact hl);refine Y4 ?_;refine FW.gs C2 (λv h' m q=>q.log m) ?_;rintro v2 H2 x2 q2;clear C2;have lg1:∀z∈H1.log,vB v z:=λz hz=>(x1.log z hz).elim (λq=>by rw[hr.log]at q;cases q) id;have lg2:∀z∈H2.log,vB v z:=λz hz=>(x2.log z hz).elim (λq=>lg1 z q) id;refine Y3 ?_;exact mF lg2 rfl q2
def j7(a b:List Nat):List (List Nat):=if b=s0 then []else ddS (eD ((iJ a b).map (·.s)))
theorem nk{a b s:List Nat}(h:s∈j7 a b):IsS s:=by
 unfold j7 at h;split at h
 ·cases h
 ·obtain⟨f,hf,rfl⟩:=List.mem_map.1 (fZ.1 (mW h));exact(uE hf).1
theorem Mb(lo:Int)(n:Nat):(zrN lo n).length=n:=by unfold zrN;simp
theorem rY{α β:Type}{f:α->List β}{k:Nat}:∀{l:List α},(∀x∈l,(f x).length<=k)->(l.flatMap f).length<=l.length*k
 |[],_=>by simp
 |x::l,h=>by
  have h1:=h x List.mem_cons_self;have h2:=rY λy hy=>h y (List.mem_cons_of_mem x hy);rw[List.flatMap_cons,List.length_append,List.length_cons,Nat.add_mul];omega
theorem xV(a b:List Nat):(iJ a b).length<=98304:=by
 have hz:∀{lo hi:Int}, -7<=lo->hi<=7->(zr lo hi).length<=16:=λ{lo hi} h1 h2=>by
  unfold zr;rw[Mb];omega
 have ra:=gK a;unfold iJ;split
 ·simp
 ·refine Nat.le_trans (rY (k:=4096) λt _=> ?_) (by simp);have bp:=gK (dw b t);obtain⟨⟨⟨r1,r2⟩,⟨r3,r4⟩,⟨r5,r6⟩⟩,⟨⟨r7,r8⟩,⟨r9,r10⟩,⟨r11,r12⟩⟩⟩:=ra;obtain⟨⟨⟨b1,b2⟩,⟨b3,b4⟩,⟨b5,b6⟩⟩,⟨⟨b7,b8⟩,⟨b9,b10⟩,⟨b11,b12⟩⟩⟩:=bp;unfold nZ Gj;refine Nat.le_trans (rY (k:=256) λz _=> ?_) (by have:=hz (lo:=(bL a).1.lo.z-(bL (dw b t)).1.lo.z) (hi:=(bL a).1.hi.z-(bL (dw b t)).1.hi.z) (by omega) (by omega);omega);unfold u0;refine Nat.le_trans (rY (k:=16) λy _=> ?_) (by have:=hz (lo:=(bL a).1.lo.y-(bL (dw b t)).1.lo.y) (hi:=(bL a).1.hi.y-(bL (dw b t)).1.hi.y) (by omega) (by omega);omega);unfold sG;refine Nat.le_trans (rY (k:=1) λx _=> ?_) (by have:=hz (lo:=(bL a).1.lo.x-(bL (dw b t)).1.lo.x) (hi:=(bL a).1.hi.x-(bL (dw b t)).1.hi.x) (by omega) (by omega);omega);unfold uj;split<;>simp
theorem sE(a b:List Nat):(j7 a b).length<=98304:=by
 unfold j7;split
 ·simp
 ·refine Nat.le_trans (Ad _) ?_;rw[jA,List.length_map];exact xV a b
def M3(b:List Nat):Int:=if b=s0 then 1 else 0
theorem JZ(F:JV T){h:Heap}(hr:Rdy h)(hg:Tab h)(h2:2<h.next){a b:List Nat}(ha:IsS a)(hb:IsS b):
 Al T 72 [sv a,sv b] h λv h'=>∃u,v= .tuple #[u, .int .i64 (M3 b)]/\OwS h.next h' u (j7 a b):=by
 have hp:=F.fi.ft.li.p;refine .of hp F.f72 hr ?_ ?_
 ·rintro v h1 hv ⟨u,rfl,q⟩;have hu:cA u=true:=by
   have e:cA (.tuple #[u, .int .i64 (M3 b)])=gQ [u, .int .i64 (M3 b)]:=rfl;rw[e]at hv;simp only[gQ,cond_eq_ite,Bool.if_false_right,Bool.and_eq_true]at hv;have hf:flat u=true:=of_decide_eq_true hv.1;unfold cA;split
   ·rename_i cs;rcases q with⟨h1,_⟩|⟨_,_,_,_,_,_,h1,_⟩<;>cases h1
   ·exact hf
  exact⟨u,rfl,OwS.flat hu q⟩
 have ka8:=aG ha.len;have ka9:=aN ha.len;have kb8:=aG hb.len;have kb9:=aN hb.len;have x0:Ext h ((h.push (.cells (cellsOf (sv a)) true 1)).push (.cells (cellsOf (sv b)) true 1)):=((Ext.refl h).push _).push _;have gA:((h.push (.cells (cellsOf (sv a)) true 1)).push (.cells (cellsOf (sv b)) true 1)).get h.next=some (.cells (us a) true 1):=YG
 have gB:((h.push (.cells (cellsOf (sv a)) true 1)).push (.cells (cellsOf (sv b)) true 1)).get (h.next+1)=some (.cells (us b) true 1):=YG;have n0:((h.push (.cells (cellsOf (sv a)) true 1)).push (.cells (cellsOf (sv b)) true 1)).next=h.next+2:=rfl
 refine Y6 ?_;generalize((h.push (.cells (cellsOf (sv a)) true 1)).push (.cells (cellsOf (sv b)) true 1))=H at*;have W:=x0.wf hr.wf;have hL:=x0.log.trans hr.log;have hfl:=xV a b;unfold j7 M3;by_cases he:b=s0
 ·rw[if_pos he,if_pos he];refine Y4 ?_;refine aB (iI (b:=s0) (by exact rfl) (by exact rfl) hb.len rfl) ?_;rw[decide_eq_true he];refine Y8 ?_;exact cK hL rfl ⟨_,rfl, .inl ⟨rfl,rfl⟩⟩
 rw[if_neg he,if_neg he];refine Y4 ?_;refine aB (iI (b:=s0) (by exact rfl) (by exact rfl) hb.len rfl) ?_;rw[decide_eq_false he];have x1:Ext H (H.push (.cells [.slice none 0 0] true 1)):=(Ext.refl H).push _;have q6:(H.push (.cells [.slice none 0 0] true 1)).get H.next=some (.cells [.slice none 0 0] true 1):=z3 _ _
 have n1:(H.push (.cells [.slice none 0 0] true 1)).next=H.next+1:=rfl
 refine Y7 ?_;generalize(H.push (.cells [.slice none 0 0] true 1))=H1 at*;have ey1':=x0.trans x1;have W1:=ey1'.wf hr.wf;have hL1:=ey1'.log.trans hr.log;have gA1:=(x1.old _ (by omega)).trans gA;have gB1:=(x1.old _ (by omega)).trans gB;have C:=MD F.fi (h:={H1 with log:=[]}) (.of W1) ha hb;clear gA gB;refine Y5 ?_;refine FW.al C (λv h' m q=>q) ?_;rintro _ H2 x2 ⟨qa,qb,rfl,ga,gb,kqa,kqb,na,nb⟩;clear C;have na:H1.next<=qa:=na
 have nb:H1.next<=qb:=nb
 have ey2':=ey1'.trans x2;have W2:=ey2'.wf hr.wf;have hL2:=ey2'.log.trans hr.log;have n2:=x2.next
 have p6:=(x2.old _ (by omega)).trans q6;have hg2:Tab H2:=hg.ext ey2' h2;clear gA1 gB1 q6;refine Y2 ?_;refine FF (lo:=H.next) (P:=PPl H2.next H.next H2 (.loop [(6, .pointer (some ⟨H.next,0,none⟩)),(14,fnF qa qb)] [15,16] yg xW 0 .normal) (iJ a b)) rfl (by rfl) (by rw[F.fi.ft.f209];rfl) (by omega) (by omega) hL2 W2 ?_ (λH p=>⟨_,_,_,_,p.loop⟩) ?_
 ·have Y:Gq T H.next (H2.next+1) H2.next H.next fiV (iJ a b) (PPl H2.next H.next H2 (.loop [(6, .pointer (some ⟨H.next,0,none⟩)),(14,fnF qa qb)] [15,16] yg xW 0 .normal)) (wPl H.next):=by
   refine⟨by omega,λdone f Hh hx hlen hrH hN hP=> ?_,PPl.gZ (by omega),λdone H' H'' p hn hs z hz=> ?_,λdone H' z p hz=> ?_⟩
   ·obtain⟨p1,p2,p3,⟨v,p4,p5⟩,p6⟩:=hP;refine FW.mono' (Bg hp hrH (lo:=H.next) (lo2:=H2.next+1) (ss:=done.map (·.s)) (uE hx).1 (by rw[List.length_map];omega) (Nat.le_refl _) p2 p4 p5 (by omega) (by omega) (by omega) hN) ?_;rintro r' H' ⟨r1,r2,r3,p,r4,r5,r6,r7,r8,r9,r10⟩;have hvl:∀z,z<H2.next+1->∀m c,v≠ .slice (some ⟨z,0,none⟩) m c:=λz hz m c e=>by
     rw[e]at p5;have:=(zO p5).1;omega
    refine⟨r1,r2,r3,⟨_,_,_,r4,rfl⟩,⟨λz hz hne=>(r7 z (by omega) hne (hvl z (by omega))).trans (p1 z hz hne),(r7 _ (by omega) (by omega) (hvl _ (by omega))).trans p2,by omega,⟨_,r4,by rw[List.map_append];exact r6⟩,by rw[List.length_append];show done.length+1<=_;omega⟩,λz hz hn=>r7 z hz (λe=>hn (.inl e)) λm c e=>hn (.inr ⟨m,c,by rw[←e];exact p4⟩),λz hz=> ?_⟩;rcases hz with rfl|⟨m,c,hz⟩
    ·exact .inl (.inl rfl)
    ·rw[r4]at hz;cases hz;exact .inr r5
   ·obtain⟨p1,p2,p3,⟨v,p4,p5⟩,p6⟩:=p;rcases hz with rfl|⟨m,c,hz⟩
    ·exact .inl rfl
    ·exact .inr ⟨m,c,by rw[←hs _ (by omega)];exact hz⟩
   ·obtain⟨p1,p2,p3,⟨v,p4,p5⟩,p6⟩:=p;rcases hz with rfl|⟨m,c,hz⟩
    ·omega
    ·rw[p4]at hz;cases hz;exact(zO p5).2
  exact I6 F.fi.ft (.of (W2.push (.loop [(6, .pointer (some ⟨H.next,0,none⟩)),(14,fnF qa qb)] [15,16] yg xW 0 .normal))) (qa:=qa) (qb:=qb) (l:=H2.next) (N:=H2.next+1) (lo:=H.next) ha hb (Nat.le_refl _) (by show H.next<=H2.next+1;omega) (by omega) Y (λd H' hP=>(hP.old _ kqa (by omega)).trans ga) (λd H' hP=>(hP.old _ kqb (by omega)).trans gb) (λd H' hP=>(hP.old 2 (by omega) (by omega)).trans hg2)
   ⟨λz hz _=>z4 (by omega),z3 _ _,Nat.lt_succ_self _,⟨_,(z4 (by omega)).trans p6, .nil⟩,Nat.zero_le _⟩
 intro h4 h5 k1 k2 k3 k4 k5 k6 hP;obtain⟨p1,p2,p3,⟨v,p4,p5⟩,p7⟩:=hP;have D:=(k5 H.next (by omega)).trans p4;have ow:=p5.keep (h':=h5) (by omega) λz hz _=>k5 z (by omega);have hok:∀x∈(iJ a b).map (·.s),IsS x:=λx hx=>by
  obtain⟨f,hf,rfl⟩:=List.mem_map.1 hx;exact(uE hf).1
 have hlen:((iJ a b).map (·.s)).length<1000000:=by rw[List.length_map];omega
 generalize(iJ a b).map (·.s)=l at*;have os:=Pk.Own.owS ow (by omega);have C:=Fb F (h:={h5 with log:=[]}) (.of k2) (lo:=H2.next+1) (by show H2.next+1<=h5.next;omega) (os.log []) hok hlen;clear p4 p1 p2;refine Y5 ?_;refine FW.gs0 C (λv h' m q=>q.log m) (λz hz=>by have:=(os.vb hz).1;omega) ?_;rintro v6 H6 n6 l6 o6 w6 s6;clear C;refine Y4 ?_;exact cK (l6.trans k1) rfl ⟨_,rfl,s6.low (by omega)⟩
structure Bj (T:Nat->Option af):Prop where
 pl:JV T
 f35:T 35=some f35
 f92:T 92=some f92
 f121:T 121=some f121
 f124:T 124=some f124
 f193:T 193=some f193
 f194:T 194=some f194
 f195:T 195=some f195
 f196:T 196=some f196
 f197:T 197=some f197
 f257:T 257=some f257
def lK(r:List (List Nat))(x:List Nat):Bool:=r.any λy=> !decide (y=x)&&sIn y x
def lM(w:List Nat×List Nat)(o:List Nat):List (List Nat):=ddS (eD ((j7 w.2 o).map λp=>dU p w.1))
def ei(w:List Nat×List Nat)(o:List Nat):List (List Nat):=(lM w o).filter λx=> !lK (lM w o) x
theorem qZ{w:List Nat×List Nat}(hw:IsW w){o s:List Nat}(h:s∈lM w o):IsS s:=by
 obtain⟨p,hp,rfl⟩:=List.mem_map.1 (fZ.1 (mW h));exact(nk hp).less hw.a
theorem tc(w:List Nat×List Nat)(o:List Nat):(lM w o).length<=98304:=by
 refine Nat.le_trans (Ad _) ?_;rw[jA,List.length_map];exact sE _ _
theorem Ho(F:Bj T){h:Heap}(hr:Rdy h){q:Nat}{x y:List Nat}(hx:IsS x)(hy:IsS y)(g:h.get q=some (.cells (us x) true 1)):Pu T 197 [sv y, .pointer (some ⟨q,0,none⟩)] h (.bool (!decide (y=x)&&sIn y x)):=by
 have hp:=F.pl.fi.ft.li.p;refine .of hp F.f197 hr rfl ?_;have kq:=hr.wf.hM g;have kx8:=aG hx.len;have kx9:=aN hx.len;have ky8:=aG hy.len;have ky9:=aN hy.len;have x0:Ext h (h.push (.cells (cellsOf (sv y)) true 1)):=(Ext.refl h).push _;have g0:(h.push (.cells (cellsOf (sv y)) true 1)).get h.next=some (.cells (us y) true 1):=YG
 have n0:(h.push (.cells (cellsOf (sv y)) true 1)).next=h.next+1:=rfl
 refine Y4 ?_;generalize(h.push (.cells (cellsOf (sv y)) true 1))=H at*;have W:=x0.wf hr.wf;have hL:=x0.log.trans hr.log;have gx:=(x0.old _ kq).trans g;have C:=CL hp F.f35 F.f121 (h:={H with log:=[]}) (.of W) hy hx;by_cases he:y=x
 ·rw[decide_eq_true he];refine Y3 ?_;refine aB (iI (b:=x) (by exact rfl) (by exact rfl) hy.len hx.len) ?_;rw[decide_eq_true he];refine Y8 ?_;exact an hL rfl rfl
 ·rw[decide_eq_false he];refine Y3 ?_;refine aB (iI (b:=x) (by exact rfl) (by exact rfl) hy.len hx.len) ?_;rw[decide_eq_false he];refine Y7 ?_;refine FW.pu C ?_;clear C;refine Y4 ?_;exact an hL rfl rfl
theorem MW(F:Bj T){h:Heap}(hr:Rdy h){q:Nat}{v:Value}{r:List (List Nat)}(s:SsQ h v r)(hn:r.length<1000000){x:List Nat}(hx:IsS x)(g:h.get q=some (.cells [v] true 1)):Pu T 195 [sv x, .pointer (some ⟨q,0,none⟩)] h (.bool (lK r x)):=by
 have hp:=F.pl.fi.ft.li.p;refine .of hp F.f195 hr rfl ?_;have kq:=hr.wf.hM g;have x0:Ext h (h.push (.cells (cellsOf (sv x)) true 1)):=(Ext.refl h).push _;have g0:(h.push (.cells (cellsOf (sv x)) true 1)).get h.next=some (.cells (us x) true 1):=YG
 have n0:(h.push (.cells (cellsOf (sv x)) true 1)).next=h.next+1:=rfl
 refine Y4 ?_;generalize(h.push (.cells (cellsOf (sv x)) true 1))=H at*;have W:=x0.wf hr.wf;have hL:=x0.log.trans hr.log;have gx:=(x0.old _ kq).trans g;obtain⟨a,c,rfl⟩:=s.sl.form;have C:=tV hp F.f196 F.f257 (h:={H with log:=[]}) (.of W) ((s.ext x0).log []) hn (g:=197) (cap:=[.pointer (some ⟨h.next,0,none⟩)]) (λy=> !decide (y=x)&&sIn y x) λy hy=>Ho F (h:={H with log:=[]}) (.of W) hx (s.ok y hy) g0;unfold lK;refine Y4 ?_;refine FW.pu C ?_;clear C;refine Y3 ?_;exact an hL rfl rfl
theorem wX{l:List (List Nat)}{i:Nat}{x:List Nat}(f:List Nat->List Nat)(hi:l[i]? =some x):((l.take i).map f++l.drop i).set i (f x)=(l.take (i+1)).map f++l.drop (i+1):=by
 obtain⟨hlt,hx⟩:=List.getElem?_eq_some_iff.1 hi;have hl:((l.take i).map f).length=i:=by rw[List.length_map,List.length_take];omega
 rw[List.drop_eq_getElem_cons hlt,List.set_append_right _ _ (Nat.le_of_eq hl),hl,Nat.sub_self,List.set_cons_zero,dS hi,List.map_append,List.append_assoc];rfl
theorem BC{l:List (List Nat)}{i:Nat}{x:List Nat}(f:List Nat->List Nat)(hi:l[i]? =some x):((l.take i).map f++l.drop i)[i]? =some x:=by
 have hlt:=(List.getElem?_eq_some_iff.1 hi).1;rw[List.getElem?_append_right (by simp;omega),List.getElem?_drop,List.length_map,List.length_take,Nat.min_eq_left (by omega),Nat.sub_self,Nat.add_zero,hi]
theorem OwS.wr{lo base p:Nat}{h:Heap}{v:Value}{l:List (List Nat)}{ob:bN}(q:OwS lo h v l)(hz:∀z,vB v z->z≠p):OwS lo (h.wr base p ob) v l:=by
 rcases q with q|⟨b,c,t,h1,h2,h3,rfl,h4⟩
 ·exact .inl q
 ·exact .inr ⟨b,c,t,h1,h2,(z5 (hz b ⟨_,_,rfl⟩)).trans h3,rfl,h4⟩
theorem OwS.ne{lo p:Nat}{h:Heap}{v:Value}{l:List (List Nat)}{vs:List Value}{own:Bool}(q:OwS lo h v l)(g:h.get p=some (.cells vs own 1)):∀z,vB v z->z≠p:=by
 rintro z ⟨m,c,hv⟩ rfl;rcases q with⟨rfl,_⟩|⟨b,c',t,h1,h2,h3,rfl,h4⟩
 ·cases hv
 ·cases hv;rw[g]at h3;cases h3
theorem Mr(F:Bj T){h:Heap}(hr:Rdy h)(hg:Tab h)(h2:2<h.next){w:List Nat×List Nat}(hw:IsW w){o:List Nat}(ho:IsS o):Al T 92 [wV w,sv o] h λv h'=>OwS h.next h' v (ei w o):=by
 have hp:=F.pl.fi.ft.li.p;refine .of hp F.f92 hr (λv h1 hv q=>OwS.flat hv q) ?_;have hwc:cellsOf (wV w)=wL w:=by show(wL w).toArray.toList=_;simp
 have g0:((h.push (.cells (cellsOf (wV w)) true 1)).push (.cells (cellsOf (sv o)) true 1)).get h.next=some (.cells (wL w) true 1):=by rw[hwc];exact(z4 (Nat.lt_succ_self _)).trans (z3 h _)
 have g1:((h.push (.cells (cellsOf (wV w)) true 1)).push (.cells (cellsOf (sv o)) true 1)).get (h.next+1)=some (.cells (us o) true 1):=z3 _ _;have n0:((h.push (.cells (cellsOf (wV w)) true 1)).push (.cells (cellsOf (sv o)) true 1)).next=h.next+2:=rfl
 have x0:Ext h ((h.push (.cells (cellsOf (wV w)) true 1)).push (.cells (cellsOf (sv o)) true 1)):=((Ext.refl h).push _).push _;refine Y5 ?_;generalize((h.push (.cells (cellsOf (wV w)) true 1)).push (.cells (cellsOf (sv o)) true 1))=H at*;have W:=x0.wf hr.wf;have hL:=x0.log.trans hr.log;have wk:=ig hw;have wkl:=eV hw;have wa:=Aq hw;have wb:=y9 hw;have wka:=aG hw.a.len;have wkb:=aG hw.b.len;have k8:=aG ho.len;have k9:=aN ho.len;have C1:=JZ F.pl (h:={H with log:=[]}) (.of W) (show Tab H from hg.ext x0 h2) (by show 2<H.next;omega) hw.b ho;have hok0:∀x∈j7 w.2 o,IsS x:=λx hx=>nk hx;have hlen0:=sE w.2 o;have hA:lM w o=ddS (eD ((j7 w.2 o).map λp=>dU p w.1)):=rfl;have hAl:=tc w o;have hAok:∀x∈lM w o,IsS x:=λx hx=>qZ hw hx;unfold ei;generalize lM w o=r at*;generalize j7 w.2 o=l at*;refine Y5 ?_;refine FW.al C1 (λv h' m q=>q) ?_;rintro _ H1 x1 ⟨u,rfl,q1⟩;have q1:OwS H.next H1 u l:=q1
 clear C1;have ey1:=x0.trans x1;have n1:=x1.next
 have g01:=(x1.old _ (by omega)).trans g0;have x2:=dO (h:=H1) (base:=h.next) (by omega) (.cells [.slice none 0 0] true 1) (.cells [u] true 1);have g5:=fC (h:=H1) (base:=h.next) [.slice none 0 0] [u];have n2:((H1.push (.cells [.slice none 0 0] true 1)).wr h.next H1.next (.cells [u] true 1)).next=H1.next+1:=rfl
 obtain⟨a,c,rfl⟩:=q1.form;clear g0 g1;refine Y7 ?_;refine WE.J2 ?_;intro H2 hH2;have e2:H2=((H1.push (.cells [.slice none 0 0] true 1)).wr h.next H1.next (.cells [.slice a l.length c] true 1)):=hH2;rw[←e2]at x2 g5 n2;clear hH2 e2;have ey2:=ey1.trans x2;have W2:=ey2.wf hr.wf;have hL2:=ey2.log.trans hr.log;have g02:=(x2.old _ (by omega)).trans g01;have q2:=q1.ext x2;refine dI (E0:=[(2, .pointer (some ⟨h.next,0,none⟩)),(5, .pointer (some ⟨H1.next,0,none⟩)),(16, .int .i64 (l.length:Nat)),(17, .int .i64 (l.length:Nat)),(18, .bool false)]) (P:=λh'=>WF h'∧h'.log=[]/\H2.next<=h'.next/\(∀z,z<H.next->h'.get z=H2.get z)/\h'.get H1.next=some (.cells [.slice a l.length c] true 1)/\OwS H.next h' (.slice a l.length c) (l.map λp=>dU p w.1)) ?_ ?_
 ·rcases q2 with⟨hv,rfl⟩|⟨b,c',tl,hb1,hb2,hb3,hv,hcl,hcu⟩
  ·cases hv;refine Y6 ?_;refine bD (λmm e ds h'=>0=mm/\e=[(2, .pointer (some ⟨h.next,0,none⟩)),(5, .pointer (some ⟨H1.next,0,none⟩)),(16, .int .i64 0),(17, .int .i64 0)]/\ds=[]/\H2=h') ⟨rfl,rfl,rfl,rfl⟩ ?_;rintro mm e ds _ ⟨rfl,rfl,rfl,rfl⟩;refine Y9 ?_;exact⟨rfl,rfl,rfl,W2,hL2,Nat.le_refl _,λ_ _=>rfl,g5, .inl ⟨rfl,rfl⟩⟩
  ·cases hv;have hb0:b<H1.next:=(q1.vb ⟨_,_,rfl⟩).2
   refine Y6 ?_
   refine bD (λmm e ds h'=>∃i:Nat,i<=l.length/\l.length-i=mm/\e=[(2, .pointer (some ⟨h.next,0,none⟩)),(5, .pointer (some ⟨H1.next,0,none⟩)),(16, .int .i64 (l.length:Nat)),(17, .int .i64 (i:Nat))]/\ds=[]/\WF h'∧h'.log=[]/\H2.next=h'.next/\(∀z,z≠b->h'.get z=H2.get z)/\h'.get b=some (.cells (ssL ((l.take i).map (λp=>dU p w.1)++l.drop i)++tl) true 8))
    ⟨0,Nat.zero_le _,rfl,rfl,rfl,W2,hL2,rfl,λ_ _=>rfl,hb3⟩ ?_
   rintro mm e ds H3 ⟨i,hi,rfl,rfl,rfl,w3,l3,n3,o3,gb⟩;have g53:=(o3 H1.next (by omega)).trans g5;have g03:=(o3 h.next (by omega)).trans g02;by_cases hlt:i<l.length
   ·obtain⟨x,hx⟩:∃x,l[i]? =some x:=⟨l[i],List.getElem?_eq_getElem hlt⟩;have hxs:=hok0 x (List.mem_of_getElem? hx);have hokm:∀y∈(l.take i).map (λp=>dU p w.1)++l.drop i,IsS y:=λy hy=>by
     rcases List.mem_append.1 hy with hy|hy
     ·obtain⟨p,hp,rfl⟩:=List.mem_map.1 hy;exact(hok0 p (List.mem_of_mem_take hp)).less hw.a
     ·exact hok0 y (List.mem_of_mem_drop hy)
    have hml:((l.take i).map (λp=>dU p w.1)++l.drop i).length=l.length:=by
     rw[List.length_append,List.length_map,List.length_take,List.length_drop];omega
    have rx:=nS (t:=tl) hokm (BC _ hx);have hset:=wX (λp=>dU p w.1) hx;have hls:=hxs.less hw.a;have C:=MB hp F.f124 (h:={H3 with log:=[]}) (.of w3) hxs hw.a;have kc:=Ay (t:=tl) hokm hls (i:=i) (by omega);have kw:cQ (ssL ((l.take i).map (λp=>dU p w.1)++l.drop i)++tl) (0+i*8) (cellsOf (sv (dU x w.1)))=ssL ((l.take (i+1)).map (λp=>dU p w.1)++l.drop (i+1))++tl:=by
     have e:cellsOf (sv (dU x w.1))=us (dU x w.1):=by show(us (dU x w.1)).toArray.toList=_;simp
     rw[e,Aj hokm hls (by omega),hset]
    have kx:=aG hxs.len;have mlt:ah .lss (.int .i64 (i:Nat)) (.int .i64 (l.length:Nat))=some (.bool true):=dz (by omega);generalize dU x w.1=lx at*;generalize(l.take i).map (λp=>dU p w.1)++l.drop i=m at*;obtain rfl:=hcu (λq=>by rw[q]at hlt;simp at hlt);refine Y23 ?_;refine FW.puD C (by(repeat apply aI rfl);apply aM rfl (aC rfl (fR (by exact rfl)) (by exact gJ _ _)) rfl;apply aM rfl (aC rfl (eT (by exact rfl) (by assumption) (by exact rfl)) (by exact fO _ _ _)) rfl;exact bg) ?_;clear C;refine qI ?_;refine gY rfl rfl rfl (by exact rfl) (by exact rfl) (by exact rfl) gb kc kw (by omega) (by(repeat apply aI rfl);exact bg) ?_;refine Y8 ?_;exact⟨l.length-(i+1),by omega,i+1,by omega,rfl,rfl,rfl,w3.as (AS.wr h.next _ _ _),(Heap.aq (by omega)).trans l3,n3,λz hz=>(z5 hz).trans (o3 z hz),by rw[z6,gb];rfl⟩
   ·obtain rfl:i=l.length:=by omega
    have mlt:ah .lss (.int .i64 (l.length:Nat)) (.int .i64 (l.length:Nat))=some (.bool false):=dA (by omega);rw[List.take_length,List.drop_length,List.append_nil]at gb;refine Y9 ?_;refine⟨rfl,rfl,rfl,w3,l3,by omega,λz hz=>o3 z (by omega),g53, .inr ⟨b,c,tl,hb1,by omega,gb,by rw[List.length_map],by rw[List.length_map];exact hcl,λq=>hcu λq2=>q (by rw[q2];rfl)⟩⟩
 have hvb:∀z,vB (.slice a l.length c) z->H.next<=z/\z<H1.next:=λz hz=>q1.vb hz
 rintro H3 ⟨w3,l3,n3,o3,g53,q3⟩;clear q2 q1 g5 g01;have g03:=(o3 _ (by omega)).trans g02;have hokm:∀y∈l.map (λp=>dU p w.1),IsS y:=λy hy=>by
  obtain⟨p,hp,rfl⟩:=List.mem_map.1 hy;exact(hok0 p hp).less hw.a
 have hlm:(l.map λp=>dU p w.1).length=l.length:=List.length_map _;generalize hll:l.map (λp=>dU p w.1)=lm at*;have hlm2:lm.length<1000000:=by omega
 have C2:=Ei F.pl.f189 (.inr rfl) (h:={H3 with log:=[]}) (q3.log []) hokm hlm2;refine Y3 ?_;refine FW.gs0 C2 (λv h' m q=>q.log m) (λz hz=>by have:=(q3.vb hz).1;omega) ?_;rintro v4 H4 n4 l4 o4 w4 q4;clear C2;have W4:=w4 w3;have g54:=(o4 H1.next (by omega) (λq=>by have:=(hvb _ q).2;omega)).trans g53;have hok4:∀x∈eD lm,IsS x:=λx hx=>hokm x (fZ.1 hx);have C3:=vV hp F.pl.f192 (h:={H4 with log:=[]}) (.of W4) (q4.log []) hok4 (by rw[jA];exact hlm2);rw[←hA]at C3;refine Y4 ?_;refine FW.gs0 C3 (λv h' m q=>q.log m) (λz hz=>by have:=(q4.vb hz).1;omega) ?_;rintro v5 H5 n5 l5 o5 w5 q5;clear C3;have W5:=w5 W4;have hL5:=l5.trans (l4.trans l3);have g55:=(o5 H1.next (by omega) (λq=>by have:=(hvb _ q).2;omega)).trans g54;have ne5:=q5.ne g55;obtain⟨a5,c5,rfl⟩:=q5.form;have hn1:H1.next<H5.next:=by omega
 have q6:=q5.wr (base:=h.next) (ob:= .cells [.slice a5 r.length c5] true 1) ne5;have g56:(H5.wr h.next H1.next (.cells [.slice a5 r.length c5] true 1)).get H1.next=some (.cells [.slice a5 r.length c5] true 1):=by rw[z6,g55];rfl
 have W6:WF (H5.wr h.next H1.next (.cells [.slice a5 r.length c5] true 1)):=W5.as (AS.wr h.next _ _ _);have hL6:(H5.wr h.next H1.next (.cells [.slice a5 r.length c5] true 1)).log=[]:=(Heap.aq (by omega)).trans hL5;have n6:(H5.wr h.next H1.next (.cells [.slice a5 r.length c5] true 1)).next=H5.next:=rfl
 clear q5 q4 q3 g54 g53;refine Y2 ?_;clear g55;refine WE.J2 ?_;intro H6 hH6;have e6:H6=H5.wr h.next H1.next (.cells [.slice a5 r.length c5] true 1):=hH6
 rw[←e6]at q6 g56 W6 hL6 n6;clear hH6 e6;have hrl:r.length<1000000:=by omega
 have C4:=KK hp F.f194 (h:={H6 with log:=[]}) (.of W6) ((q6.ss hAok).log []) hrl;refine Y3 ?_;refine FW.al C4 (λv h' m q=>q.log m) ?_;rintro v7 H7 x7 q7;have q7:OwS H6.next H7 v7 r:=q7
 clear C4;have W7:=x7.wf W6;have hL7:=x7.log.trans hL6;have n7:=x7.next
 have C5:=Fc hp F.f193 F.f257 (h:={H7 with log:=[]}) (.of W7) (lo:=H6.next) (q7.log []) hAok hrl (g:=195) (cap:=[.pointer (some ⟨H1.next,0,none⟩)]) (lK r) λh' w hnn hold x hx=>
  MW F (h:={h' with log:=[]}) (.of w) (q:=H1.next) (v:= .slice a5 r.length c5) ((OwS.ss (q6.keep (h':=h') (by have:H7.next<=h'.next:=hnn;omega) λz _ hz=>(hold z hz).trans (x7.old z hz)) hAok).log []) hrl hx ((hold _ (by omega)).trans ((x7.old _ (by omega)).trans g56))
 refine Y2 ?_;refine FW.gs0 C5 (λv h' m q=>q.log m) (λz hz=>by have:=(q7.vb hz).1;omega) ?_;rintro v8 H8 n8 l8 o8 w8 q8;clear C5;refine Y3 ?_;exact cK (l8.trans hL7) rfl (q8.low (by omega))
def rC(w:List Nat×List Nat):Bool:=decide (64<((ew w.2:Nat):Int)-((ew w.1:Nat):Int))
theorem Jh(s:List Nat):ew s<=512:=iA s 512
structure Kf (T:Nat->Option af):Prop where
 nd:Bj T
 f22:T 22=some f22
 f89:T 89=some f89
 f90:T 90=some f90
 f91:T 91=some f91
theorem O2(F:Kf T){h:Heap}(hr:Rdy h){w:List Nat×List Nat}(hw:IsW w):Pu T 89 [wV w] h (.bool (sIn w.1 w.2)):=by
 have hp:=F.nd.pl.fi.ft.li.p;refine .of hp F.f89 hr rfl ?_;have hwc:cellsOf (wV w)=wL w:=by show(wL w).toArray.toList=_;simp
 have g0:(h.push (.cells (cellsOf (wV w)) true 1)).get h.next=some (.cells (wL w) true 1):=by rw[hwc];exact z3 h _
 have W:WF (h.push (.cells (cellsOf (wV w)) true 1)):=hr.wf.push _;have hL:(h.push (.cells (cellsOf (wV w)) true 1)).log=[]:=hr.log;refine Y4 ?_;generalize(h.push (.cells (cellsOf (wV w)) true 1))=H at*;have C:=CL hp F.nd.f35 F.nd.f121 (h:={H with log:=[]}) (.of W) hw.a hw.b;have wa:=Aq hw;have wb:=y9 hw;have wka:=aG hw.a.len;have wkb:=aG hw.b.len;refine Y6 ?_;refine FW.pu C ?_;refine Y3 ?_;exact an hL rfl rfl
theorem Qg(F:Kf T){h:Heap}(hr:Rdy h){w:List Nat×List Nat}(hw:IsW w):Pu T 91 [wV w] h (.bool (rC w)):=by
 have hp:=F.nd.pl.fi.ft.li.p;refine .of hp F.f91 hr rfl ?_;have hwc:cellsOf (wV w)=wL w:=by show(wL w).toArray.toList=_;simp
 have g0:(h.push (.cells (cellsOf (wV w)) true 1)).get h.next=some (.cells (wL w) true 1):=by rw[hwc];exact z3 h _
 have W:WF (h.push (.cells (cellsOf (wV w)) true 1)):=hr.wf.push _;have hL:(h.push (.cells (cellsOf (wV w)) true 1)).log=[]:=hr.log;refine Y4 ?_;generalize(h.push (.cells (cellsOf (wV w)) true 1))=H at*;have C1:=su F.nd.pl.fi.ft.co (h:={H with log:=[]}) (.of W) hw.b;have C2:=su F.nd.pl.fi.ft.co (h:={H with log:=[]}) (.of W) hw.a;have wa:=Aq hw;have wb:=y9 hw;have wka:=aG hw.a.len;have wkb:=aG hw.b.len;have b1:=Jh w.1;have b2:=Jh w.2;have m1:ah .sub (.int .i64 ((ew w.2:Nat):Int)) (.int .i64 ((ew w.1:Nat):Int))=some (.int .i64 (((ew w.2:Nat):Int)-((ew w.1:Nat):Int))):=lP (bZ (by omega) (by omega));have m2:ah .gtr (.int .i64 (((ew w.2:Nat):Int)-((ew w.1:Nat):Int))) (.int .i64 64)=some (.bool (rC w)):=by
  unfold rC;by_cases q:64<((ew w.2:Nat):Int)-((ew w.1:Nat):Int)
  ·rw[decide_eq_true q];exact ic q
  ·rw[decide_eq_false q];exact ij (by omega)
 generalize((ew w.2:Nat):Int)-((ew w.1:Nat):Int)=d at*;refine Y7 ?_;refine FW.puD C1 (by apply aM rfl (aC rfl (cC (by exact rfl) (by assumption) (by assumption) (by assumption)) (by exact oV _)) rfl;apply aM rfl (aC rfl (ef (by exact rfl)) (by exact cW _)) rfl;(repeat apply aI rfl);exact bg) ?_;clear C1;skip;refine qC ?_;refine FW.puD C2 (by(repeat apply aI rfl);exact bg) ?_;clear C2;refine Y7 ?_;exact an hL rfl rfl
structure NX (T:Nat->Option af):Prop where
 cr:ER T
 f20:T 20=some f20
 f84:T 84=some f84
def j5(s:List Nat):Bool:= !(decide (0<ew s/\ew s<40)||decide (60<ew s))
def uP(w:List Nat×List Nat)(l:List (List Nat)):Bool:=if ew w.2<=60 then decide (l.length<=8)else l.all j5&&decide (l.length<=8)
theorem LH(F:NX T){h:Heap}(hr:Rdy h){w:List Nat×List Nat}(hw:IsW w){a:Option Addr}{n c:Nat}{l:List (List Nat)}(s:SsQ h (.slice a n c) l)(hn:n<4611686018427387904):Pu T 20 [wV w, .slice a n c] h (.bool (uP w l)):=by
 have hp:=F.cr.hr.p;refine .of hp F.f20 hr rfl ?_;obtain rfl:n=l.length:=by
  rcases bA.inv s.sl with⟨_,hv,h0,_⟩|⟨b,o,cap,hv,s1,hc⟩
  ·cases hv;exact h0.symm
  ·cases hv;rfl
 have hwc:cellsOf (wV w)=wL w:=by show(wL w).toArray.toList=_;simp
 have x0:Ext h (h.push (.cells (cellsOf (wV w)) true 1)):=(Ext.refl h).push _;have g0:(h.push (.cells (cellsOf (wV w)) true 1)).get h.next=some (.cells (wL w) true 1):=by rw[hwc];exact z3 h _
 refine Y4 ?_;generalize(h.push (.cells (cellsOf (wV w)) true 1))=H at*;have W:=x0.wf hr.wf;have hL:=x0.log.trans hr.log;have wb:=y9 hw;have wkb:=aG hw.b.len;have C:=AE F.cr F.f84 (h:={H with log:=[]}) (.of W) hw.b;have m8:ah .leq (.int .i64 (l.length:Nat)) (.int .i64 8)=some (.bool (decide (l.length<=8))):=by
  by_cases q:l.length<=8
  ·rw[decide_eq_true q];exact kN (by omega)
  ·rw[decide_eq_false q];exact mu (by omega)
 have s1:=s.ext x0;unfold uP;by_cases h60:ew w.2<=60
 ·rw[if_pos h60];have m6:ah .leq (.int .i64 ((ew w.2:Nat):Int)) (.int .i64 60)=some (.bool true):=kN (by omega);refine Y5 ?_;refine FW.pu C ?_;refine Y11 ?_;exact an hL rfl rfl
 rw[if_neg h60];have m6:ah .leq (.int .i64 ((ew w.2:Nat):Int)) (.int .i64 60)=some (.bool false):=mu (by omega);refine Y5 ?_;refine FW.pu C ?_;clear C m6;refine Y10 ?_
 refine bD (λm e ds h'=>∃j:Nat,j<=l.length/\l.length-j=m/\e=[(1, .slice a l.length c),(5, .int .i64 (j:Nat))]/\ds=[]/\H=h'∧(l.take j).all j5=true)
  ⟨0,Nat.zero_le _,rfl,rfl,rfl,rfl,rfl⟩ ?_
 rintro m e ds _ ⟨j,hj,rfl,rfl,rfl,rfl,hall⟩;by_cases hlt:j<l.length
 ·obtain⟨x,hx⟩:∃x,l[j]? =some x:=⟨l[j]'hlt,List.getElem?_eq_getElem _⟩;have hxm:=List.mem_of_getElem? hx;have hxs:=s.ok x hxm;obtain⟨b,o,c2,vs,own,tt,hv,gl,hbl,el⟩:=s1.elem hx;cases hv;have k8:=aG hxs.len;have C:=AE F.cr F.f84 (h:={H with log:=[]}) (.of W) hxs;have mlt:ah .lss (.int .i64 (j:Nat)) (.int .i64 (l.length:Nat))=some (.bool true):=dz (by omega);have hnot:j5 x=false->l.all j5=false:=λq=>by
   rw[List.all_eq_false];exact⟨x,hxm,by rw[q];simp⟩
  by_cases p0:0<ew x
  ·have m1:ah .gtr (.int .i64 ((ew x:Nat):Int)) (.int .i64 0)=some (.bool true):=ic (by omega);by_cases p4:ew x<40
   ·have m2:ah .lss (.int .i64 ((ew x:Nat):Int)) (.int .i64 40)=some (.bool true):=dz (by omega);have e:j5 x=false:=by unfold j5;rw[decide_eq_true ⟨p0,p4⟩];rfl
    rw[hnot e];refine Y18 ?_;refine FW.pu C ?_;refine Y26 ?_;exact an hL rfl rfl
   ·have m2:ah .lss (.int .i64 ((ew x:Nat):Int)) (.int .i64 40)=some (.bool false):=dA (by omega);by_cases p6:60<ew x
    ·have m3:ah .gtr (.int .i64 ((ew x:Nat):Int)) (.int .i64 60)=some (.bool true):=ic (by omega);have e:j5 x=false:=by unfold j5;rw[decide_eq_true p6];simp
     rw[hnot e];refine Y18 ?_;refine FW.pu C ?_;refine Y28 ?_;exact an hL rfl rfl
    ·have m3:ah .gtr (.int .i64 ((ew x:Nat):Int)) (.int .i64 60)=some (.bool false):=ij (by omega);have e:j5 x=true:=by unfold j5;rw[decide_eq_false p6,decide_eq_false (λq=>p4 q.2)];rfl
     refine Y18 ?_;refine FW.pu C ?_;refine Y27 ?_;refine⟨l.length-(j+1),by omega,j+1,by omega,rfl,rfl,rfl,rfl,?_⟩;rw[dS hx,List.all_append,hall];simp[e]
  ·have m1:ah .gtr (.int .i64 ((ew x:Nat):Int)) (.int .i64 0)=some (.bool false):=ij (by omega);have m3:ah .gtr (.int .i64 ((ew x:Nat):Int)) (.int .i64 60)=some (.bool false):=ij (by omega);have e:j5 x=true:=by unfold j5;rw[decide_eq_false (show¬60<ew x by omega),decide_eq_false (λq=>p0 q.1)];rfl
   refine Y18 ?_;refine FW.pu C ?_;refine Y25 ?_;refine⟨l.length-(j+1),by omega,j+1,by omega,rfl,rfl,rfl,rfl,?_⟩;rw[dS hx,List.all_append,hall];simp[e]
 ·obtain rfl:j=l.length:=by omega
  rw[List.take_length]at hall;rw[hall,Bool.true_and];have mlt:ah .lss (.int .i64 (l.length:Nat)) (.int .i64 (l.length:Nat))=some (.bool false):=dA (by omega);refine Y20 ?_;exact an hL rfl rfl
structure Pb where
 cells:List Nat
 cost:Int
def pbL(p:Pb):List Value:=us p.cells++[.int .i64 p.cost]
def pbV(p:Pb):Value:= .agg (pbL p).toArray
def Av(l:List Pb):List Value:=l.flatMap pbL
theorem jD{p:Pb}(h:IsS p.cells):(pbL p).length=9:=by simp[pbL,aA,h.len]
theorem BK{p:Pb}(h:IsS p.cells):bP (pbL p) (0+8)=some (.int .i64 p.cost):=by
 rw[cF];show(us p.cells++[Value.int .i64 p.cost])[8]? =_;rw[List.getElem?_append_right (by rw[aA,h.len];omega),aA,h.len];rfl
theorem p8{p:Pb}(h:IsS p.cells):bK 8 (bE (0+0) (pbL p))=us p.cells:=by
 rw[bS,bn];show(us p.cells++[Value.int .i64 p.cost]).take 8=_;rw[List.take_append_of_le_length (by rw[aA,h.len];omega),List.take_of_length_le (by rw[aA,h.len];omega)]
theorem vW{p:Pb}(h:IsS p.cells):Nat.beq (bO (pbL p)) 9=true:=by rw[bV,jD h];rfl
theorem A0(p:Pb):dP (pbL p)=true:=kY (bB _) rfl
theorem K6:∀{l:List Pb} {i:Nat} {p:Pb},(∀p∈l,IsS p.cells)->l[i]? =some p->((Av l).drop (i*9)).take 9=pbL p
 |[],i,p,_,h=>by simp at h
 |q::l,0,p,hl,h=>by
  simp at h;subst h;have e:Av (q::l)=pbL q++Av l:=rfl;have:=jD (hl q List.mem_cons_self);rw[e,Nat.zero_mul,List.drop_zero,List.take_append_of_le_length (by omega),List.take_of_length_le (by omega)]
 |q::l,i+1,p,hl,h=>by
  have e:Av (q::l)=pbL q++Av l:=rfl;have e8:=jD (hl q List.mem_cons_self);have e2:(pbL q++Av l).drop 9=Av l:=by rw[←e8];exact List.drop_left
  rw[e,show(i+1)*9=9+i*9 by omega,←List.drop_drop,e2];exact K6 (λs hs=>hl s (List.mem_cons_of_mem _ hs)) (by simpa using h)
structure PY (vs:List Value) (o:Nat) (p:Pb):Prop where
 all:bK 9 (bE o vs)=pbL p
 cells:bK 8 (bE (o+0) vs)=us p.cells
 cost:bP vs (o+8)=some (.int .i64 p.cost)
theorem PY.mk'{vs:List Value}{o:Nat}{p:Pb}(hp:IsS p.cells)(h:(vs.drop o).take 9=pbL p):PY vs o p:=by
 refine⟨by rw[bS,bn];exact h,?_,?_⟩
 ·have:=p8 hp;rw[←this,bS,bn,bS,bn,←h,List.drop_take,List.drop_drop,List.take_take];rfl
 ·have:=BK hp;rw[←this,cF,cF,←h,List.getElem?_take_of_lt (by omega),List.getElem?_drop,Nat.zero_add]
structure PbS (h:Heap) (v:Value) (l:List Pb):Prop where
 sl:bA h 9 v l.length (Av l)
 ok:∀p∈l,IsS p.cells
theorem PbS.elem{h:Heap}{v:Value}{l:List Pb}(s:PbS h v l){i:Nat}{p:Pb}(hi:l[i]? =some p):
 ∃b o c vs own t,v= .slice (some ⟨b,o,none⟩) l.length c/\h.get b=some (.cells vs own t)/\b<h.next/\PY vs (o+i*9) p:=by
 have hlt:=(List.getElem?_eq_some_iff.1 hi).1;rcases bA.inv s.sl with⟨_,_,h0,_⟩|⟨b,o,cap,hv,s1,hc⟩
 ·omega
 ·obtain⟨vs,own,t,g1,g2⟩:=s1.obj;refine⟨b,o,cap,vs,own,t,hv,g1,s1.lt, .mk' (s.ok p (List.mem_of_getElem? hi)) ?_⟩;rw[←K6 s.ok hi,←g2];simp only[bS,bn,List.drop_take,List.take_take,List.drop_drop];congr 1;omega
theorem PbS.form{h:Heap}{v:Value}{l:List Pb}(s:PbS h v l):∃a c,v= .slice a l.length c:=s.sl.form
theorem PbS.ext{h h':Heap}{v:Value}{l:List Pb}(s:PbS h v l)(x:Ext h h'):PbS h' v l:=⟨s.sl.ext x,s.ok⟩
theorem PbS.log{h:Heap}{v:Value}{l:List Pb}(s:PbS h v l)(m:List Nat):PbS {h with log:=m} v l:=⟨s.sl.log m,s.ok⟩
def lu(p:Pb):Bool:=decide (p.cells=s0)|| !inR p.cost 1 1000
def prE(l:List Pb):Int:=if 8<l.length then 2 else if l.any lu then 1 else 0
def uQ(P:Pb->Bool):List Pb->Nat->Int
 |[],_=> -1
 |r::l,i=>if P r then(i:Int)else uQ P l (i+1)
theorem Fg(P:Pb->Bool){l:List Pb}{i:Nat}{r:Pb}(hi:l[i]? =some r):uQ P (l.drop i) i=if P r then(i:Int)else uQ P (l.drop (i+1)) (i+1):=by
 obtain⟨hlt,rfl⟩:=List.getElem?_eq_some_iff.1 hi;rw[List.drop_eq_getElem_cons hlt,uQ]
theorem K9(P:Pb->Bool)(l:List Pb):uQ P (l.drop l.length) l.length= -1:=by
 rw[List.drop_length];rfl
theorem Bb(P:Pb->Bool):∀(l:List Pb) (i:Nat),decide (0<=uQ P l i)=l.any P
 |[],_=>rfl
 |r::l,i=>by
  rw[uQ,List.any_cons];by_cases h:P r=true
  ·rw[if_pos h,h,Bool.true_or];exact decide_eq_true (by omega)
  ·rw[if_neg h,Bb P l (i+1)];have:P r=false:=by simpa using h
   rw[this,Bool.false_or]
structure Es (T:Nat->Option af):Prop where
 p:aP T
 f62:T 62=some f62
 f90:T 90=some f90
 f106:T 106=some f106
 f155:T 155=some f155
 f156:T 156=some f156
 f231:T 231=some f231
theorem OD(F:Es T){h:Heap}(hr:Rdy h){p:Pb}(hs:IsS p.cells):Pu T 156 [pbV p] h (.bool (lu p)):=by
 refine .of F.p F.f156 hr rfl ?_;have hpc:cellsOf (pbV p)=pbL p:=by show(pbL p).toArray.toList=_;simp
 have x0:Ext h (h.push (.cells (cellsOf (pbV p)) true 1)):=(Ext.refl h).push _;have g0:(h.push (.cells (cellsOf (pbV p)) true 1)).get h.next=some (.cells (pbL p) true 1):=by rw[hpc];exact z3 h _
 refine Y4 ?_;generalize(h.push (.cells (cellsOf (pbV p)) true 1))=H at*;have W:=x0.wf hr.wf;have hL:=x0.log.trans hr.log;have kc:=p8 hs;have kk:=aG hs.len;have kx:=BK hs;have C1:=DV F.p F.f90 (h:={H with log:=[]}) (.of W) hs;have C2:=N4 F.p F.f106 (h:={H with log:=[]}) (.of W) p.cost 1 1000;unfold lu;generalize decide (p.cells=s0)=b1 at*;generalize inR p.cost 1 1000=b2 at*;cases b1 with
 |true=>
  refine Y4 ?_;refine FW.pu C1 ?_;refine Y9 ?_;exact an hL rfl rfl
 |false=>
  refine Y4 ?_;refine FW.pu C1 ?_;refine Y7 ?_;refine FW.pu C2 ?_;refine Y6 ?_;exact an hL rfl rfl
theorem He(F:Es T){h:Heap}(hr:Rdy h){v:Value}{l:List Pb}(s:PbS h v l)(hn:l.length<1000000){g:Nat}{cap:List Value}(P:Pb->Bool)
 (HP:∀r∈l,Pu T g (pbV r::cap) h (.bool (P r))):Pu T 231 [v, .func (.func g) #[] cap.toArray] h (.int .i64 (uQ P l 0)):=by
 refine .of F.p F.f231 hr rfl ?_;obtain⟨a,c,rfl⟩:=s.form;refine Y10 ?_
 refine bD (λm e ds h'=>∃i:Nat,i<=l.length/\m=l.length-i/\e=[(0, .slice a l.length c),(1, .func (.func g) #[] cap.toArray),(7, .int .i64 (l.length:Nat)),(8, .int .i64 (i:Nat))]/\ds=[]/\h=h'∧uQ P l 0=uQ P (l.drop i) i)
  ⟨0,Nat.zero_le _,rfl,rfl,rfl,rfl,rfl⟩ ?_
 rintro m e ds _ ⟨i,hin,rfl,rfl,rfl,rfl,hi⟩;by_cases hlt:i<l.length
 ·obtain⟨r,hri⟩:∃r,l[i]? =some r:=⟨l[i],List.getElem?_eq_getElem hlt⟩;have hrm:=List.mem_of_getElem? hri;obtain⟨b,o,c2,vs,own,t,hv,g1,hb,g2⟩:=s.elem hri;cases hv;have k1:=g2.all;have k2:=vW (s.ok r hrm);have H:=HP r hrm;have mlt:ah .lss (.int .i64 (i:Nat)) (.int .i64 (l.length:Nat))=some (.bool true):=dz (by omega);rw[Fg P hri]at hi;refine Y19 ?_;refine pY (uI (all:=pbV r::cap) (by exact rfl) (by exact rfl) (by exact rfl) (by rw[dy,dy];simp[pbV])) ?_;refine FW.pu (by rw[hr.self];exact H) ?_;clear H HP;cases hpr:P r with
  |true=>
   rw[hpr,if_pos rfl]at hi;rw[hi];refine Y12 ?_;exact an hr.log rfl rfl
  |false=>
   rw[hpr,if_neg (by simp)]at hi;refine Y9 ?_;exact⟨l.length-(i+1),by omega,i+1,by omega,rfl,rfl,rfl,rfl,hi⟩
 ·obtain rfl:i=l.length:=by omega
  have mlt:ah .lss (.int .i64 (l.length:Nat)) (.int .i64 (l.length:Nat))=some (.bool false):=dA (by omega);rw[K9]at hi;rw[hi];refine Y14 ?_;exact an hr.log rfl rfl
theorem EI(F:Es T){h:Heap}(hr:Rdy h){v:Value}{l:List Pb}(s:PbS h v l)(hn:l.length<1000000):Pu T 62 [v] h (.int .i64 (prE l)):=by
 refine .of F.p F.f62 hr rfl ?_;obtain⟨a,c,rfl⟩:=s.form;have hL:=hr.log;unfold prE;by_cases h8:8<l.length
 ·have m1:ah .gtr (.int .i64 (l.length:Nat)) (.int .i64 8)=some (.bool true):=ic (by omega);rw[if_pos h8];refine Y15 ?_;exact an hL rfl rfl
 rw[if_neg h8];have m1:ah .gtr (.int .i64 (l.length:Nat)) (.int .i64 8)=some (.bool false):=ij (by omega);have C:Pu T 155 [.slice a l.length c, .func (.func 156) #[] #[]] {h with log:=[]} (.bool (l.any lu)):=by
  refine .of F.p F.f155 (.of hr.wf) rfl ?_;have C:=He F (h:={h with log:=[]}) (.of hr.wf) (s.log []) hn (g:=156) (cap:=[]) lu λr hrm=>OD F (.of hr.wf) (s.ok r hrm);rw[←Bb lu l 0];generalize uQ lu l 0=z at C⊢;refine Y7 ?_;refine FW.pu C ?_;clear C;have m1:ah .geq (.int .i64 z) (.int .i64 0)=some (.bool (decide (0<=z))):=B7;refine Y4 ?_;exact an rfl rfl rfl
 cases hb:l.any lu with
 |true=>
  rw[hb]at C;rw[if_pos rfl];refine Y16 ?_;refine FW.pu C ?_;refine Y7 ?_;exact an hL rfl rfl
 |false=>
  rw[hb]at C;rw[if_neg (by simp)];refine Y16 ?_;refine FW.pu C ?_;refine Y8 ?_;exact an hL rfl rfl
def fL(f:List Nat):List Value:=f.map λk=> .int .u8 (k:Nat)
def fV(f:List Nat):Value:= .agg (fL f).toArray
theorem jB(f:List Nat):(fL f).length=f.length:=by simp[fL]
theorem rA:∀f:List Nat,dP (fL f)=true
 |[]=>rfl
 |_::f=>rA f
theorem Ij{f:List Nat}{i k:Nat}(h:f[i]? =some k):bP (fL f) (0+i*1)=some (.int .u8 (k:Nat)):=by
 rw[cF,Nat.zero_add,Nat.mul_one];simp[fL,h]
theorem sV{f:List Nat}(h:f.length=8):bK 8 (bE 0 (fL f))=fL f:=by
 rw[bS,bn,List.drop_zero,List.take_of_length_le (by rw[jB];omega)]
theorem pT{f:List Nat}(h:f.length=8):Nat.beq (bO (fL f)) 8=true:=by rw[bV,jB,h];rfl
theorem NI(f:List Nat):iP (.agg (fL f).toArray) (.agg (fL f).toArray)=true:=by
 refine lD ?_;rw[List.toList_toArray];induction f with
 |nil=>rfl
 |cons p f ih=>exact dD (dW _ _) ih
theorem QB(w:List Nat×List Nat):iP (.agg (wL w).toArray) (.agg (wL w).toArray)=true:=by
 refine lD ?_;rw[List.toList_toArray];refine HM _ _ ?_;have:=HM w.2 [] zZ
 rwa [List.append_nil]at this
def quL(w:List Nat×List Nat)(pv nv ov mv:Value):List Value:=wL w++[pv,nv,ov,mv]
theorem CJ{w:List Nat×List Nat}(hw:IsW w)(pv nv ov mv:Value):(quL w pv nv ov mv).length=20:=by
 unfold quL;rw[List.length_append,iB hw];rfl
theorem Rm{w:List Nat×List Nat}(hw:IsW w)(pv nv ov mv:Value):bK 16 (bE (0+0) (quL w pv nv ov mv))=wL w:=by
 have:=iB hw;unfold quL;rw[bS,bn,Nat.zero_add,List.drop_zero,List.take_append_of_le_length (by omega),List.take_of_length_le (by omega)]
theorem Rx{w:List Nat×List Nat}(hw:IsW w)(pv nv ov mv:Value):bK 8 (bE (0+0+0) (quL w pv nv ov mv))=us w.1:=by
 have h:=iB hw;have e:=Aq hw;rw[bS,bn,Nat.zero_add,List.drop_zero]at e;unfold quL;rw[bS,bn,Nat.zero_add,List.drop_zero,List.take_append_of_le_length (by omega)];exact e
theorem Re{w:List Nat×List Nat}(hw:IsW w)(pv nv ov mv:Value):bK 8 (bE (0+0+8) (quL w pv nv ov mv))=us w.2:=by
 have h:=iB hw;have e:=y9 hw;rw[bS,bn,Nat.zero_add]at e;unfold quL;rw[bS,bn,Nat.zero_add,List.drop_append_of_le_length (by omega),List.take_append_of_le_length (by rw[List.length_drop];omega)];exact e
theorem DA{w:List Nat×List Nat}(hw:IsW w)(pv nv ov mv:Value)(i:Nat):bP (quL w pv nv ov mv) (16+i)=[pv,nv,ov,mv][i]? :=by
 have h:=iB hw;unfold quL;rw[cF,List.getElem?_append_right (by omega),h,Nat.add_sub_cancel_left]
theorem GW{w:List Nat×List Nat}(hw:IsW w)(pv nv ov mv:Value):bP (quL w pv nv ov mv) (0+16)=some pv:=DA hw pv nv ov mv 0
theorem NV{w:List Nat×List Nat}(hw:IsW w)(pv nv ov mv:Value):bP (quL w pv nv ov mv) (0+17)=some nv:=DA hw pv nv ov mv 1
theorem RA{w:List Nat×List Nat}(hw:IsW w)(pv nv ov mv:Value):bP (quL w pv nv ov mv) (0+18)=some ov:=DA hw pv nv ov mv 2
abbrev Zs:=List (Pb×Nat)
def alB(z:Zs)(s:List Nat):Bool:=z.all λx=> !(decide (x.2=2)&&sIn x.1.cells s)
def bsJ(s:List Nat)(x:Pb×Nat):List Nat:=if x.2=1 then fH s x.1.cells else s
def bsS(s:List Nat)(z:Zs):List Nat:=z.foldl bsJ s
def bsB(w:List Nat×List Nat)(z:Zs):Bool:=sIn (bsS w.1 z) w.2&&alB z (bsS w.1 z)
theorem j0:∀{z:Zs} {s:List Nat},IsS s->(∀x∈z,IsS x.1.cells)->IsS (bsS s z)
 |[],s,hs,_=>hs
 |x::z,s,hs,h=>by
  have hx:=h x List.mem_cons_self;refine j0 (z:=z) (s:=bsJ s x) ?_ λy hy=>h y (List.mem_cons_of_mem _ hy);unfold bsJ;split
  ·exact hs.join hx
  ·exact hs
theorem Da{l:List Pb}{f:List Nat}{i:Nat}{p:Pb}{k:Nat}(hp:l[i]? =some p)(hk:f[i]? =some k):(l.zip f)[i]? =some (p,k):=List.getElem?_zip_eq_some.2 ⟨hp,hk⟩
theorem ET{l:List Pb}{f:List Nat}(h:l.length<=f.length):(l.zip f).length=l.length:=by rw[List.length_zip];omega
theorem oD{l:List Pb}{f:List Nat}(h:∀p∈l,IsS p.cells):∀x∈l.zip f,IsS x.1.cells:=λx hx=>h _ (List.of_mem_zip hx).1
theorem DS{z:Zs}{i:Nat}{x:Pb×Nat}(h:z[i]? =some x):z.take (i+1)=z.take i++[x]:=by
 obtain⟨hlt,rfl⟩:=List.getElem?_eq_some_iff.1 h;exact List.take_succ_eq_append_getElem hlt
structure DK (T:Nat->Option af):Prop where
 p:aP T
 f35:T 35=some f35
 f121:T 121=some f121
 f143:T 143=some f143
 f174:T 174=some f174
 f207:T 207=some f207
 f226:T 226=some f226
theorem vp(F:DK T){h:Heap}(hr:Rdy h){q:Nat}{w:List Nat×List Nat}(hw:IsW w){pv nv ov mv:Value}(gq:h.get q=some (.cells (quL w pv nv ov mv) true 1)){l:List Pb}(sp:PbS h pv l)(hl:l.length<=8){f:List Nat}(hf:f.length=8){s:List Nat}(hs:IsS s):
 Pu T 226 [.pointer (some ⟨q,0,none⟩),fV f,sv s] h (.bool (alB (l.zip f) s)):=by
 refine .of F.p F.f226 hr rfl ?_;obtain⟨a,c,rfl⟩:=sp.form;have hfc:cellsOf (fV f)=fL f:=by show(fL f).toArray.toList=_;simp
 have x0:Ext h ((h.push (.cells (cellsOf (fV f)) true 1)).push (.cells (cellsOf (sv s)) true 1)):=((Ext.refl h).push _).push _;have g0:((h.push (.cells (cellsOf (fV f)) true 1)).push (.cells (cellsOf (sv s)) true 1)).get h.next=some (.cells (fL f) true 1):=by rw[hfc];exact(z4 (Nat.lt_succ_self _)).trans (z3 h _)
 have g1:((h.push (.cells (cellsOf (fV f)) true 1)).push (.cells (cellsOf (sv s)) true 1)).get (h.next+1)=some (.cells (us s) true 1):=z3 _ _;have n0:((h.push (.cells (cellsOf (fV f)) true 1)).push (.cells (cellsOf (sv s)) true 1)).next=h.next+2:=rfl
 refine Y5 ?_;generalize((h.push (.cells (cellsOf (fV f)) true 1)).push (.cells (cellsOf (sv s)) true 1))=H at*;have W:=x0.wf hr.wf;have hL:=x0.log.trans hr.log;have gqH:=(x0.old _ (hr.wf.hM gq)).trans gq;have spH:=sp.ext x0;have kp:=GW hw (.slice a l.length c) nv ov mv;have k8:=aG hs.len;have k9:=aN hs.len;have hzl:=ET (l:=l) (f:=f) (by omega);refine Y10 ?_
 refine bD (λm e ds h'=>∃i:Nat,i<=l.length/\m=l.length-i/\e=[(4, .pointer (some ⟨h.next,0,none⟩)),(5, .pointer (some ⟨h.next+1,0,none⟩)),(12, .slice a l.length c),(13, .int .i64 (l.length:Nat)),(14, .int .i64 (i:Nat))]/\ds=[]/\Ext H h'∧alB ((l.zip f).take i) s=true)
  ⟨0,Nat.zero_le _,rfl,rfl,rfl, .refl H,rfl⟩ ?_
 rintro m e ds G ⟨i,hin,rfl,rfl,rfl,xG,hall⟩;have WG:=xG.wf W;have hLG:=xG.log.trans hL;have nG:=xG.next
 by_cases hlt:i<l.length
 ·obtain⟨p,hpi⟩:∃r,l[i]? =some r:=⟨l[i],List.getElem?_eq_getElem hlt⟩;obtain⟨k,hki⟩:∃r,f[i]? =some r:=⟨f[i]'(by omega),List.getElem?_eq_getElem _⟩;have hps:=sp.ok p (List.mem_of_getElem? hpi);obtain⟨b,o,c2,vs,own,t,hv,gl,hb,gat⟩:=(spH.ext xG).elem hpi;cases hv;have k1:=gat.all;have k2:=vW hps;have k3:=jD hps;have k4:=A0 p;have mlt:ah .lss (.int .i64 (i:Nat)) (.int .i64 (l.length:Nat))=some (.bool true):=dz (by omega);have g0G:=(xG.old _ (by omega)).trans g0;have g1G:=(xG.old _ (by omega)).trans g1;have hz:=Da hpi hki;have hst:alB ((l.zip f).take (i+1)) s=(alB ((l.zip f).take i) s&& !(decide (k=2)&&sIn p.cells s)):=by
   unfold alB;rw[DS hz,List.all_append];simp
  have hno:(decide (k=2)&&sIn p.cells s)=true->alB (l.zip f) s=false:=λq=>by
   unfold alB;rw[List.all_eq_false];exact⟨(p,k),List.mem_of_getElem? hz,by rw[q];simp⟩
  refine Y9 ?_;refine dI (E0:=[(4, .pointer (some ⟨h.next,0,none⟩)),(5, .pointer (some ⟨h.next+1,0,none⟩)),(7, .int .i64 (i:Nat)),(8, .pointer (some ⟨G.next,0,none⟩)),(12, .slice (some ⟨b,o,none⟩) l.length c),(13, .int .i64 (l.length:Nat)),(14, .int .i64 (i:Nat))]) (P:=λh'=>Ext G h'∧h'.next=G.next+1/\h'.get G.next=some (.cells (pbL p) true 1)) ?_ ?_
  ·refine Y6 ?_;refine aB (aO (by exact rfl) (by exact rfl) YG (by assumption) (by exact rfl) (by assumption)) ?_;refine cN ?_;refine y1 ?_;exact⟨rfl,rfl,rfl,dO (by omega) _ _,rfl,fC _ _⟩
  rintro G2 ⟨x2,n2,g2⟩;have WG2:=x2.wf WG;have hLG2:=x2.log.trans hLG;have g0G2:=(x2.old _ (by omega)).trans g0G;have g1G2:=(x2.old _ (by omega)).trans g1G;have kf:=Ij hki;have kc:=p8 hps;have kcl:=aG hps.len;have x02:=xG.trans x2;clear g0G g1G gl k1 k2 gat;have mk:ah .eql (.int .u8 (k:Nat)) (.int .u8 2)=some (.bool (decide (k=2))):=tG (c:=2) rfl;have C:=CL F.p F.f35 F.f121 (h:={G2 with log:=[]}) (.of WG2) hps hs;cases hk2:decide (k=2)with
  |false=>
   rw[hk2]at mk hst;refine Y20 ?_;exact⟨l.length-(i+1),by omega,i+1,by omega,rfl,rfl,rfl,x02,by rw[hst,hall];rfl⟩
  |true=>
   rw[hk2]at mk hst hno;cases hin:sIn p.cells s with
   |true=>
    rw[hin]at C hno;rw[hno rfl];refine Y14 ?_;refine FW.pu C ?_;refine Y12 ?_;exact an hLG2 rfl rfl
   |false=>
    rw[hin]at C hst;refine Y14 ?_;refine FW.pu C ?_;refine Y10 ?_;exact⟨l.length-(i+1),by omega,i+1,by omega,rfl,rfl,rfl,x02,by rw[hst,hall];rfl⟩
 ·obtain rfl:i=l.length:=by omega
  have mlt:ah .lss (.int .i64 (l.length:Nat)) (.int .i64 (l.length:Nat))=some (.bool false):=dA (by omega);rw[←hzl,List.take_length]at hall;rw[hall];refine Y14 ?_;exact an hLG rfl rfl
theorem D0(s:List Nat)(b:Bool):cA (.tuple #[sv s, .bool b])=true:=by
 have q:flat (sv s)=true:=nE s;show gQ [sv s, .bool b]=true;simp only[gQ,q];rfl
theorem y8(F:DK T){h:Heap}(hr:Rdy h){q:Nat}{w:List Nat×List Nat}(hw:IsW w){pv nv ov mv:Value}(gq:h.get q=some (.cells (quL w pv nv ov mv) true 1)){l:List Pb}(sp:PbS h pv l)(hl:l.length<=8){f:List Nat}(hf:f.length=8):
 Pu T 143 [.pointer (some ⟨q,0,none⟩),fV f] h (.tuple #[sv (bsS w.1 (l.zip f)), .bool (bsB w (l.zip f))]):=by
 refine .of F.p F.f143 hr (D0 _ _) ?_;obtain⟨a,c,rfl⟩:=sp.form;have hfc:cellsOf (fV f)=fL f:=by show(fL f).toArray.toList=_;simp
 have x0:Ext h ((h.push (.cells (cellsOf (fV f)) true 1)).push (.cells (aD 8 (.int .u64 0)) true 1)):=((Ext.refl h).push _).push _;have g0:((h.push (.cells (cellsOf (fV f)) true 1)).push (.cells (aD 8 (.int .u64 0)) true 1)).get h.next=some (.cells (fL f) true 1):=by rw[hfc];exact(z4 (Nat.lt_succ_self _)).trans (z3 h _)
 have g1:((h.push (.cells (cellsOf (fV f)) true 1)).push (.cells (aD 8 (.int .u64 0)) true 1)).get (h.next+1)=some (.cells (us s0) true 1):=z3 _ _;have n0:((h.push (.cells (cellsOf (fV f)) true 1)).push (.cells (aD 8 (.int .u64 0)) true 1)).next=h.next+2:=rfl
 refine Y5 ?_;generalize((h.push (.cells (cellsOf (fV f)) true 1)).push (.cells (aD 8 (.int .u64 0)) true 1))=H at*;have W:=x0.wf hr.wf;have hL:=x0.log.trans hr.log;have gqH:=(x0.old _ (hr.wf.hM gq)).trans gq;have kqn:=hr.wf.hM gq;have spH:=sp.ext x0;have g0':=g0;have g1':=g1;have gqH':=gqH;have spH':=spH;have kp:=GW hw (.slice a l.length c) nv ov mv;have ka:=Rx hw (.slice a l.length c) nv ov mv;have kb:=Re hw (.slice a l.length c) nv ov mv;have kal:=aG hw.a.len;have ka9:=aN hw.a.len;have kan:=hw.a.len;have kbl:=aG hw.b.len;have hzl:=ET (l:=l) (f:=f) (by omega);have hzok:=oD (f:=f) sp.ok;refine dI (E0:=[(0, .pointer (some ⟨q,0,none⟩)),(3, .pointer (some ⟨h.next,0,none⟩)),(4, .pointer (some ⟨h.next+1,0,none⟩)),(6, .pointer (some ⟨H.next,0,none⟩))]) (P:=λh'=>Ext H h'∧h'.next=H.next+1/\h'.get H.next=some (.cells (us w.1) true 1)) ?_ ?_
 ·refine Y7 ?_;refine aB (aO (by exact rfl) (by exact rfl) YG (by(simp only[aA];assumption)) (by exact rfl) (by exact bB _)) ?_;refine cN ?_;refine y1 ?_;exact⟨rfl,rfl,rfl,dO (by omega) _ _,rfl,YG⟩
 rintro H1 ⟨x1,n1,g6⟩;have W1:=x1.wf W;have hL1:=x1.log.trans hL;have g01:=(x1.old _ (by omega)).trans g0;have g11:=(x1.old _ (by omega)).trans g1;have gq1:=(x1.old _ (by omega)).trans gqH;have sp1:=spH.ext x1;clear g0 g1 gqH spH;refine Y10 ?_
 refine bD (λm e ds h'=>∃i:Nat,i<=l.length/\m=l.length-i/\e=[(0, .pointer (some ⟨q,0,none⟩)),(3, .pointer (some ⟨h.next,0,none⟩)),(4, .pointer (some ⟨h.next+1,0,none⟩)),(6, .pointer (some ⟨H.next,0,none⟩)),(17, .slice a l.length c),(18, .int .i64 (l.length:Nat)),(19, .int .i64 (i:Nat))]/\ds=[]/\Ext H h'∧H.next<h'.next/\h'.get H.next=some (.cells (us (bsS w.1 ((l.zip f).take i))) true 1))
  ⟨0,Nat.zero_le _,rfl,rfl,rfl,x1,by omega,g6⟩ ?_
 clear g6 g01 g11 gq1 sp1;rintro m e ds G ⟨i,hin,rfl,rfl,rfl,xG,hnG,g6⟩;have WG:=xG.wf W;have hLG:=xG.log.trans hL;have nG:=xG.next
 have g0G:=(xG.old _ (by omega)).trans g0';have g1G:=(xG.old _ (by omega)).trans g1';have gqG:=(xG.old _ (by omega)).trans gqH';have spG:=spH'.ext xG;have hso:IsS (bsS w.1 ((l.zip f).take i)):=j0 hw.a λx hx=>hzok x (List.mem_of_mem_take hx);by_cases hlt:i<l.length
 ·obtain⟨p,hpi⟩:∃r,l[i]? =some r:=⟨l[i],List.getElem?_eq_getElem hlt⟩;obtain⟨k,hki⟩:∃r,f[i]? =some r:=⟨f[i]'(by omega),List.getElem?_eq_getElem _⟩;have hps:=sp.ok p (List.mem_of_getElem? hpi);obtain⟨b,o,c2,vs,own,t,hv,gl,hb,gat⟩:=spG.elem hpi;cases hv;have k1:=gat.all;have k2:=vW hps;have k3:=jD hps;have k4:=A0 p;have mlt:ah .lss (.int .i64 (i:Nat)) (.int .i64 (l.length:Nat))=some (.bool true):=dz (by omega);have hst:bsS w.1 ((l.zip f).take (i+1))=bsJ (bsS w.1 ((l.zip f).take i)) (p,k):=by
   unfold bsS;rw[DS (Da hpi hki),List.foldl_append];rfl
  generalize bsS w.1 ((l.zip f).take i)=s at*;have ks8:=aG hso.len;have ks9:=aN hso.len;have ksn:=hso.len;refine Y9 ?_;refine dI (E0:=[(0, .pointer (some ⟨q,0,none⟩)),(3, .pointer (some ⟨h.next,0,none⟩)),(4, .pointer (some ⟨h.next+1,0,none⟩)),(6, .pointer (some ⟨H.next,0,none⟩)),(7, .int .i64 (i:Nat)),(8, .pointer (some ⟨G.next,0,none⟩)),(17, .slice (some ⟨b,o,none⟩) l.length c),(18, .int .i64 (l.length:Nat)),(19, .int .i64 (i:Nat))]) (P:=λh'=>Ext G h'∧h'.next=G.next+1/\h'.get G.next=some (.cells (pbL p) true 1)) ?_ ?_
  ·refine Y6 ?_;refine aB (aO (by exact rfl) (by exact rfl) YG (by assumption) (by exact rfl) (by assumption)) ?_;refine cN ?_;refine y1 ?_;exact⟨rfl,rfl,rfl,dO (by omega) _ _,rfl,fC _ _⟩
  rintro G2 ⟨x2,n2,g2⟩;have WG2:=x2.wf WG;have hLG2:=x2.log.trans hLG;have g0G2:=(x2.old _ (by omega)).trans g0G;have g6G2:=(x2.old _ (by omega)).trans g6;have kf:=Ij hki;have kc:=p8 hps;have kcl:=aG hps.len;have x02:=xG.trans x2;clear g0G g1G gqG gl k1 k2 gat g6 spG;have mk:ah .eql (.int .u8 (k:Nat)) (.int .u8 1)=some (.bool (decide (k=1))):=tG (c:=1) rfl;have C:=Ey F.p F.f174 (h:={G2 with log:=[]}) (.of WG2) hso hps;unfold bsJ at hst;dsimp only at hst;by_cases hk1:k=1
  ·rw[decide_eq_true hk1]at mk;rw[if_pos hk1]at hst;have hjs:=hso.join hps;generalize fH s p.cells=j at*;have kj8:=aG hjs.len;have kjn:=hjs.len;refine Y12 ?_;refine FW.pu C ?_;refine aB (aO (by exact rfl) (by exact rfl) (by assumption) (by(simp only[aA];assumption)) (by(simp only[aA];assumption)) (by exact bB _)) ?_;refine cN ?_;refine y1 ?_;refine Ip ?_;refine uh ?_;refine pQ ?_;refine Y3 ?_;refine⟨l.length-(i+1),by omega,i+1,by omega,rfl,rfl,rfl,⟨?_,?_,?_,?_⟩,?_,?_⟩
   ·exact Nat.le_trans x02.next (Nat.le_refl _)
   ·rw[Heap.aq (by omega)];exact x02.log
   ·intro z hz;exact(z5 (by omega)).trans (x02.old z hz)
   ·intro wf;exact(x02.wf wf).as (AS.wr h.next _ _ _)
   ·show H.next<G2.next;omega
   ·rw[hst];(simp(disch:=first|omega|(simp only[z1,z2];omega))only[z3,z4,z5,z6,z7,z1,z2,g0',g1',gq,gqH',g2,g0G2,g6G2];done)
  ·rw[decide_eq_false hk1]at mk;rw[if_neg hk1]at hst;refine Y14 ?_;exact⟨l.length-(i+1),by omega,i+1,by omega,rfl,rfl,rfl,x02,by omega,by rw[hst];exact g6G2⟩
 ·obtain rfl:i=l.length:=by omega
  have mlt:ah .lss (.int .i64 (l.length:Nat)) (.int .i64 (l.length:Nat))=some (.bool false):=dA (by omega);rw[←hzl,List.take_length]at g6 hso;have C2:=vp F (h:={G with log:=[]}) (.of WG) hw gqG (spG.log []) hl hf hso;have C1:=CL F.p F.f35 F.f121 (h:={G with log:=[]}) (.of WG) hso hw.b;unfold bsB;generalize alB (l.zip f) (bsS w.1 (l.zip f))=al at*;generalize bsS w.1 (l.zip f)=s at*;have ks8:=aG hso.len;have ks9:=aN hso.len;have ksn:=hso.len;have kf8:=sV hf;have kf9:=pT hf;cases hin:sIn s w.2 with
  |false=>
   rw[hin]at C1;refine Y20 ?_;refine FW.puD C1 (by(repeat apply aI rfl);apply aM rfl (aC rfl (cC (by exact rfl) (by assumption) (by assumption) (by assumption)) (by exact oV _)) rfl;exact bg) ?_;clear C1 C2;refine Y6 ?_;refine iu rfl rfl rfl (by exact rfl) (by exact rfl) (by exact rfl) (by assumption) (by(simp only[aA];assumption)) (by exact rfl) (by exact bB _) (by omega) (by omega) (by apply aM rfl (aC rfl (zQ (by exact rfl) (by exact rfl)) (by exact AB _)) rfl;(repeat apply aI rfl);exact bg) ?_;refine Y5 ?_;refine an ?_ (aX (own:=true) (s:=1) rfl ?_ ks9 ks8 (gi rfl rfl)) rfl
   ·rw[Heap.aq (by omega)];exact hLG
   ·exact YG
  |true=>
   rw[hin]at C1;refine Y20 ?_;refine FW.puD C1 (by(repeat apply aI rfl);apply aM rfl (aC rfl (cC (by exact rfl) (by assumption) (by assumption) (by assumption)) (by exact oV _)) rfl;exact bg) ?_;clear C1;refine Y5 ?_;refine FW.puD C2 (by(repeat apply aI rfl);apply aM rfl (aC rfl (cC (by exact rfl) (by assumption) (by assumption) (by assumption)) (by exact oV _)) rfl;exact bg) ?_;clear C2;refine aU rfl rfl rfl (by exact rfl) (by exact rfl) (by exact rfl) (ur (by exact rfl) (by exact rfl)) ?_;refine iu rfl rfl rfl (by exact rfl) (by exact rfl) (by exact rfl) (by assumption) (by(simp only[aA];assumption)) (by exact rfl) (by exact bB _) (by omega) (by omega) (by apply aM rfl (aC rfl (ur (by exact rfl) (by exact rfl)) (by exact AB _)) rfl;apply aI rfl;exact bg) ?_;refine Y5 ?_;refine an ?_ (aX (own:=true) (s:=1) rfl ?_ ks9 ks8 (gi rfl rfl)) rfl
   ·rw[Heap.aq (by omega)];exact hLG
   ·exact YG
structure NdS (h:Heap) (nv:Value) (ns:List (List (List Nat))):Prop where
 ex:∃vals:List Value,bA h 1 nv ns.length vals/\∀(i:Nat) (r:List (List Nat)),ns[i]? =some r->∃v,vals[i]? =some v/\SsQ h v r
theorem NdS.form{h:Heap}{nv:Value}{ns:List (List (List Nat))}(s:NdS h nv ns):∃a c,nv= .slice a ns.length c:=by
 obtain⟨vals,s1,_⟩:=s.ex;exact s1.form
theorem NdS.ext{h h':Heap}{nv:Value}{ns:List (List (List Nat))}(s:NdS h nv ns)(x:Ext h h'):NdS h' nv ns:=by
 obtain⟨vals,s1,s2⟩:=s.ex;exact⟨vals,s1.ext x,λi r hi=>by
  obtain⟨v,hv,sv⟩:=s2 i r hi;exact⟨v,hv,sv.ext x⟩⟩
theorem NdS.log{h:Heap}{nv:Value}{ns:List (List (List Nat))}(s:NdS h nv ns)(m:List Nat):NdS {h with log:=m} nv ns:=by
 obtain⟨vals,s1,s2⟩:=s.ex;exact⟨vals,s1.log m,λi r hi=>by
  obtain⟨v,hv,sv⟩:=s2 i r hi;exact⟨v,hv,sv.log m⟩⟩
theorem NdS.elem{h:Heap}{nv:Value}{ns:List (List (List Nat))}(s:NdS h nv ns){i:Nat}{r:List (List Nat)}(hi:ns[i]? =some r):
 ∃b o c vs own t v,nv= .slice (some ⟨b,o,none⟩) ns.length c/\h.get b=some (.cells vs own t)/\b<h.next/\bP vs (o+i*1)=some v/\SsQ h v r:=by
 obtain⟨vals,s1,s2⟩:=s.ex;obtain⟨v,hv,sv⟩:=s2 i r hi;have hlt:=(List.getElem?_eq_some_iff.1 hi).1;rcases bA.inv s1 with⟨_,_,h0,_⟩|⟨b,o,cap,hs,s3,hc⟩
 ·omega
 ·obtain⟨vs,own,t,g1,g2⟩:=s3.obj;refine⟨b,o,cap,vs,own,t,v,hs,g1,s3.lt,?_,sv⟩;rw[bS,bn]at g2;rw[←g2,List.getElem?_take_of_lt (by omega),List.getElem?_drop]at hv;rw[cF,Nat.mul_one];exact hv
def jY(z:Zs)(s:List Nat)(r:List (List Nat)):Nat:=if r.any (λn=>sIn n s)then 1 else if r.any (λn=>alB z (fH s n))then 3 else 2
theorem Fz(F:DK T){h:Heap}(hr:Rdy h){q:Nat}{w:List Nat×List Nat}(hw:IsW w){pv nv ov mv:Value}(gq:h.get q=some (.cells (quL w pv nv ov mv) true 1)){l:List Pb}(sp:PbS h pv l)(hl:l.length<=8){f:List Nat}(hf:f.length=8){s:List Nat}(hs:IsS s)
 {ns:List (List (List Nat))}(sn:NdS h nv ns)(hnn:ns.length<1000000){j:Nat}{r:List (List Nat)}(hj:ns[j]? =some r)(hrl:r.length<1000000):
 Pu T 207 [.pointer (some ⟨q,0,none⟩),fV f,sv s, .int .i64 (j:Nat)] h (.int .u8 ((jY (l.zip f) s r:Nat):Int)):=by
 refine .of F.p F.f207 hr rfl ?_;have hfc:cellsOf (fV f)=fL f:=by show(fL f).toArray.toList=_;simp
 have x0:Ext h ((h.push (.cells (cellsOf (fV f)) true 1)).push (.cells (cellsOf (sv s)) true 1)):=((Ext.refl h).push _).push _;have g0:((h.push (.cells (cellsOf (fV f)) true 1)).push (.cells (cellsOf (sv s)) true 1)).get h.next=some (.cells (fL f) true 1):=by rw[hfc];exact(z4 (Nat.lt_succ_self _)).trans (z3 h _)
 have g1:((h.push (.cells (cellsOf (fV f)) true 1)).push (.cells (cellsOf (sv s)) true 1)).get (h.next+1)=some (.cells (us s) true 1):=z3 _ _;have n0:((h.push (.cells (cellsOf (fV f)) true 1)).push (.cells (cellsOf (sv s)) true 1)).next=h.next+2:=rfl
 refine Y5 ?_;refine Kk ?_;generalize((h.push (.cells (cellsOf (fV f)) true 1)).push (.cells (cellsOf (sv s)) true 1))=H at*;have W:=x0.wf hr.wf;have hL:=x0.log.trans hr.log;have kqn:=hr.wf.hM gq;have gqH:=(x0.old _ kqn).trans gq;have spH:=sp.ext x0;have kn:=NV hw pv nv ov mv;have hjl:=(List.getElem?_eq_some_iff.1 hj).1;obtain⟨nb,no,nc,nvs,nown,nt,v,hnv,gn,hnb,gv,sr⟩:=(sn.ext x0).elem hj;subst hnv;have sr':=sr;obtain⟨a,c,rfl⟩:=sr.sl.form;have ks8:=aG hs.len;have ks9:=aN hs.len;have kf8:=sV hf;have kf9:=pT hf;unfold jY;refine Y19 ?_
 refine bD (λm e ds h'=>∃i:Nat,i<=r.length/\m=r.length-i/\e=[(0, .pointer (some ⟨q,0,none⟩)),(5, .pointer (some ⟨h.next,0,none⟩)),(6, .pointer (some ⟨h.next+1,0,none⟩)),(9, .int .u8 ((if(r.take i).any (λn=>alB (l.zip f) (fH s n))then 3 else 2:Nat):Int)),(18, .slice a r.length c),(19, .int .i64 (r.length:Nat)),(20, .int .i64 (i:Nat))]/\ds=[]/\Ext H h'∧(r.take i).any (λn=>sIn n s)=false)
  ⟨0,Nat.zero_le _,rfl,rfl,rfl, .refl H,rfl⟩ ?_
 rintro m e ds G ⟨i,hin,rfl,rfl,rfl,xG,hno⟩;have WG:=xG.wf W;have hLG:=xG.log.trans hL;have nG:=xG.next
 by_cases hlt:i<r.length
 ·obtain⟨x,hx⟩:∃s,r[i]? =some s:=⟨r[i],List.getElem?_eq_getElem hlt⟩;have hxs:=sr'.ok x (List.mem_of_getElem? hx);obtain⟨b,o,c3,vs,own,tt,hv,gl,hbl,el⟩:=(sr'.ext xG).elem hx;cases hv;have kx8:=aG hxs.len;have kx9:=aN hxs.len;have kxn:=hxs.len;have mlt:ah .lss (.int .i64 (i:Nat)) (.int .i64 (r.length:Nat))=some (.bool true):=dz (by omega);have g0G:=(xG.old _ (by omega)).trans g0;have g1G:=(xG.old _ (by omega)).trans g1;have gqG:=(xG.old _ (by omega)).trans gqH;have hs1:(r.take (i+1)).any (λn=>sIn n s)=((r.take i).any (λn=>sIn n s)||sIn x s):=by rw[dS hx,List.any_append];simp
  have hs2:(r.take (i+1)).any (λn=>alB (l.zip f) (fH s n))=((r.take i).any (λn=>alB (l.zip f) (fH s n))||alB (l.zip f) (fH s x)):=by rw[dS hx,List.any_append];simp
  have hyes:sIn x s=true->r.any (λn=>sIn n s)=true:=λq=>List.any_eq_true.2 ⟨x,List.mem_of_getElem? hx,q⟩;generalize(r.take i).any (λn=>alB (l.zip f) (fH s n))=bb at*;refine Y9 ?_;refine dI (E0:=[(0, .pointer (some ⟨q,0,none⟩)),(5, .pointer (some ⟨h.next,0,none⟩)),(6, .pointer (some ⟨h.next+1,0,none⟩)),(9, .int .u8 ((if bb then 3 else 2:Nat):Int)),(11, .pointer (some ⟨G.next,0,none⟩)),(18, .slice (some ⟨b,o,none⟩) r.length c),(19, .int .i64 (r.length:Nat)),(20, .int .i64 (i:Nat))]) (P:=λh'=>Ext G h'∧h'.next=G.next+1/\h'.get G.next=some (.cells (us x) true 1)) ?_ ?_
  ·refine Y4 ?_;refine aB (aO (by exact rfl) (by exact rfl) YG (by(simp only[aA];assumption)) (by exact rfl) (by exact bB _)) ?_;refine cN ?_;refine y1 ?_;exact⟨rfl,rfl,rfl,dO (by omega) _ _,rfl,YG⟩
  rintro G2 ⟨x2,n2,g2⟩;have WG2:=x2.wf WG;have hLG2:=x2.log.trans hLG;have g0G2:=(x2.old _ (by omega)).trans g0G;have g1G2:=(x2.old _ (by omega)).trans g1G;have gqG2:=(x2.old _ (by omega)).trans gqG;have x02:=xG.trans x2;have C1:=CL F.p F.f35 F.f121 (h:={G2 with log:=[]}) (.of WG2) hxs hs;have C2:=Ey F.p F.f174 (h:={G2 with log:=[]}) (.of WG2) hs hxs;have C3:=vp F (h:={G2 with log:=[]}) (.of WG2) hw gqG2 ((spH.ext x02).log []) hl hf (hs.join hxs);clear g0G g1G gqG gl el;generalize alB (l.zip f) (fH s x)=ab at*;generalize fH s x=jx at*;cases hin2:sIn x s with
  |true=>
   rw[hin2]at C1;rw[if_pos (hyes hin2)];refine Y5 ?_;refine FW.pu C1 ?_;refine Y7 ?_;refine Q3 (by exact rfl) ?_;refine Q3 (by exact rfl) ?_;refine Y9 ?_;exact an hLG2 rfl rfl
  |false=>
   rw[hin2]at C1 hs1;rw[hno]at hs1;cases ab with
   |true=>
    rw[Bool.or_true]at hs2;refine Y5 ?_;refine FW.pu C1 ?_;clear C1;refine Y10 ?_;refine FW.puD C2 (by(repeat apply aI rfl);apply aM rfl (aC rfl (cC (by exact rfl) (by assumption) (by assumption) (by assumption)) (by exact NI _)) rfl;apply aM rfl (aC rfl (fR (by exact rfl)) (by exact cW _)) rfl;exact bg) ?_;clear C2;skip;refine qC ?_;refine FW.puD C3 (by(repeat apply aI rfl);exact bg) ?_;clear C3;refine Y7 ?_;refine cN ?_;refine Y8 ?_;exact⟨r.length-(i+1),by omega,i+1,by omega,rfl,by rw[hs2];rfl,rfl,x02,hs1⟩
   |false=>
    rw[Bool.or_false]at hs2;refine Y5 ?_;refine FW.pu C1 ?_;clear C1;refine Y10 ?_;refine FW.puD C2 (by(repeat apply aI rfl);apply aM rfl (aC rfl (cC (by exact rfl) (by assumption) (by assumption) (by assumption)) (by exact NI _)) rfl;apply aM rfl (aC rfl (fR (by exact rfl)) (by exact cW _)) rfl;exact bg) ?_;clear C2;skip;refine qC ?_;refine FW.puD C3 (by(repeat apply aI rfl);exact bg) ?_;clear C3;refine Y13 ?_;exact⟨r.length-(i+1),by omega,i+1,by omega,rfl,by rw[hs2],rfl,x02,hs1⟩
 ·obtain rfl:i=r.length:=by omega
  have mlt:ah .lss (.int .i64 (r.length:Nat)) (.int .i64 (r.length:Nat))=some (.bool false):=dA (by omega);rw[List.take_length]at hno⊢;rw[if_neg (by rw[hno];simp)];refine Y15 ?_;exact an hLG rfl rfl
end Go.A.Pk
end
section
namespace Go.Proofs
open Go.Shelf
def Tryz.qS:Go.Shelf.Ren:=⟨fun|6=>189|15=>241|14=>255|28=>290|29=>291|20=>307|21=>308|22=>309|23=>310|24=>311|25=>312|26=>313|27=>314|46=>344|47=>325|48=>326|49=>345|50=>346|57=>362|n=>n,fun|22=>29|24=>24|25=>215|3=>3|39=>90|0=>0|53=>338|55=>22|4=>4|46=>331|45=>330|50=>196|5=>5|9=>9|66=>372|70=>376|76=>403|77=>404|n=>n,fun|n=>n⟩
theorem Tryz.oP:Go.Proofs.SlLaysF0.n6 Tryz.prog Tryz.qS:={
 mixed:=by kernel_rfl
 f6:=⟨Tryz.f189.name,by decide,Tryz.func189.trans (congrArg some (by kernel_rfl))⟩
 f14:=⟨Tryz.f255.name,by decide,Tryz.func255.trans (congrArg some (by kernel_rfl))⟩
 f15:=Tryz.func241.trans (congrArg some (by kernel_rfl))
 f20:=⟨Tryz.f307.name,by decide,Tryz.func307.trans (congrArg some (by kernel_rfl))⟩
 f21:=⟨Tryz.f308.name,by decide,Tryz.func308.trans (congrArg some (by kernel_rfl))⟩
 f22:=⟨Tryz.f309.name,by decide,Tryz.func309.trans (congrArg some (by kernel_rfl))⟩
 f23:=⟨Tryz.f310.name,by decide,Tryz.func310.trans (congrArg some (by kernel_rfl))⟩
 f24:=⟨Tryz.f311.name,by decide,Tryz.func311.trans (congrArg some (by kernel_rfl))⟩
 f25:=⟨Tryz.f312.name,by decide,Tryz.func312.trans (congrArg some (by kernel_rfl))⟩
 f26:=⟨Tryz.f313.name,by decide,Tryz.func313.trans (congrArg some (by kernel_rfl))⟩
 f27:=⟨Tryz.f314.name,by decide,Tryz.func314.trans (congrArg some (by kernel_rfl))⟩
 f28:=Tryz.func290.trans (congrArg some (by kernel_rfl))
 f29:=Tryz.func291.trans (congrArg some (by kernel_rfl))
 f46:=⟨Tryz.f344.name,by decide,Tryz.func344.trans (congrArg some (by kernel_rfl))⟩
 f47:=Tryz.func325.trans (congrArg some (by kernel_rfl))
 f48:=Tryz.func326.trans (congrArg some (by kernel_rfl))
 f49:=⟨Tryz.f345.name,by decide,Tryz.func345.trans (congrArg some (by kernel_rfl))⟩
 f50:=⟨Tryz.f346.name,by decide,Tryz.func346.trans (congrArg some (by kernel_rfl))⟩
 f57:=⟨Tryz.f362.name,by decide,Tryz.func362.trans (congrArg some (by kernel_rfl))⟩
 t0:=Tryz.underlying0
 a0:=Tryz.isAgg0
 z0:=Tryz.sizeOf0
 v0:=Tryz.zeroValue0
 t3:=Tryz.underlying3
 a3:=Tryz.isAgg3
 z3:=Tryz.sizeOf3
 v3:=Tryz.zeroValue3
 t4:=Tryz.underlying4
 a4:=Tryz.isAgg4
 z4:=Tryz.sizeOf4
 v4:=Tryz.zeroValue4
 t5:=Tryz.underlying5
 a5:=Tryz.isAgg5
 z5:=Tryz.sizeOf5
 v5:=Tryz.zeroValue5
 t9:=Tryz.underlying9
 a9:=Tryz.isAgg9
 z9:=Tryz.sizeOf9
 v9:=Tryz.zeroValue9
 t22:=Tryz.underlying29
 a22:=Tryz.isAgg29
 z22:=Tryz.sizeOf29
 v22:=Tryz.zeroValue29
 t25:=Tryz.underlying215
 a25:=Tryz.isAgg215
 z25:=Tryz.sizeOf215
 v25:=Tryz.zeroValue215
 t39:=Tryz.underlying90
 a39:=Tryz.isAgg90
 z39:=Tryz.sizeOf90
 v39:=Tryz.zeroValue90
 t45:=Tryz.underlying330
 a45:=Tryz.isAgg330
 z45:=Tryz.sizeOf330
 v45:=Tryz.zeroValue330
 t46:=Tryz.underlying331
 a46:=Tryz.isAgg331
 z46:=Tryz.sizeOf331
 v46:=Tryz.zeroValue331
 t50:=Tryz.underlying196
 a50:=Tryz.isAgg196
 z50:=Tryz.sizeOf196
 v50:=Tryz.zeroValue196
 t53:=Tryz.underlying338
 a53:=Tryz.isAgg338
 z53:=Tryz.sizeOf338
 v53:=Tryz.zeroValue338
 t55:=Tryz.underlying22
 a55:=Tryz.isAgg22
 z55:=Tryz.sizeOf22
 v55:=Tryz.zeroValue22
 t66:=Tryz.underlying372
 a66:=Tryz.isAgg372
 z66:=Tryz.sizeOf372
 v66:=Tryz.zeroValue372
 t70:=Tryz.underlying376
 a70:=Tryz.isAgg376
 z70:=Tryz.sizeOf376
 v70:=Tryz.zeroValue376
 t76:=Tryz.underlying403
 a76:=Tryz.isAgg403
 z76:=Tryz.sizeOf403
 v76:=Tryz.zeroValue403
 t77:=Tryz.underlying404
 a77:=Tryz.isAgg404
 z77:=Tryz.sizeOf404
 v77:=Tryz.zeroValue404}
open Go.RowKit Go.Lib Go.Sort in
theorem Tryz.slices_SortFunc_none(p:Option Addr)(cap:Nat)(fv:Value)(w:World):
 Calls Tryz.prog 189 #[.slice p 0 cap,fv] w λe w'=>e= .returned (.tuple #[])/\w'=w:=AnyF.slices_SortFunc_none Tryz.oP p cap fv w
end Go.Proofs
end
section
namespace Go.A.Pk
open Go Go.Proofs Go.Sort
theorem iH:∀{a b:List Nat},a.length=b.length->cmpL b a= -cmpL a b
 |[],[],_=>rfl
 |[],_::_,h=>by cases h
 |_::_,[],h=>by cases h
 |x::a,y::b,h=>by
  unfold cmpL;by_cases h1:x<y
  ·rw[if_neg (by omega),if_pos h1,if_pos h1];rfl
  ·by_cases h2:y<x
   ·rw[if_pos h2,if_neg h1,if_pos h2]
   ·rw[if_neg h2,if_neg h1,if_neg h1,if_neg h2];exact iH (by simpa using h)
theorem jy:∀{a b:List Nat},a.length=b.length->cmpL a b=0->a=b
 |[],[],_,_=>rfl
 |[],_::_,h,_=>by cases h
 |_::_,[],h,_=>by cases h
 |x::a,y::b,h,h0=>by
  unfold cmpL at h0;by_cases h1:x<y
  ·rw[if_pos h1]at h0;cases h0
  ·by_cases h2:y<x
   ·rw[if_neg h1,if_pos h2]at h0;cases h0
   ·rw[if_neg h1,if_neg h2]at h0;rw[show x=y by omega,jy (by simpa using h) h0]
theorem nr:∀{a b c:List Nat},a.length=b.length->b.length=c.length->cmpL a b<0->cmpL b c<0->cmpL a c<0
 |[],[],_,_,_,h,_=>by unfold cmpL at h;omega
 |[],_::_,_,h,_,_,_=>by cases h
 |_::_,[],_,h,_,_,_=>by cases h
 |_::_,_::_,[],_,h,_,_=>by cases h
 |x::a,y::b,z::c,h1,h2,q1,q2=>by
  unfold cmpL at q1 q2⊢;by_cases a1:x<y
  ·by_cases b1:y<z
   ·rw[if_pos (show x<z by omega)];omega
   ·rw[if_neg b1]at q2;by_cases b2:z<y
    ·rw[if_pos b2]at q2;omega
    ·rw[if_pos (show x<z by omega)];omega
  ·rw[if_neg a1]at q1;by_cases a2:y<x
   ·rw[if_pos a2]at q1;omega
   ·rw[if_neg a2]at q1;by_cases b1:y<z
    ·rw[if_pos (show x<z by omega)];omega
    ·rw[if_neg b1]at q2;by_cases b2:z<y
     ·rw[if_pos b2]at q2;omega
     ·rw[if_neg b2]at q2;rw[if_neg (show¬x<z by omega),if_neg (show¬z<x by omega)];exact nr (by simpa using h1) (by simpa using h2) q1 q2
abbrev Sol:={l:List Nat // IsS l}
instance:Inhabited Sol:=⟨⟨s0,qU⟩⟩
def vA(x:Sol):List Value:=us x.1
def cfS(x y:Sol):Int:=cmpL x.1 y.1
theorem jd(x y:Sol):x.1.length=y.1.length:=x.2.len.trans y.2.len.symm
theorem DM:SWO (ltOf cfS):=by
 refine⟨λx=> ?_,λx y z h1 h2=> ?_,λx y z h1 h2=> ?_⟩
 ·unfold ltOf cfS;rw[mR];rfl
 ·unfold ltOf cfS at*;rw[decide_eq_true_eq]at*;exact nr (jd x y) (jd y z) h1 h2
 ·unfold ltOf cfS at*;rw[decide_eq_false_iff_not]at*;have a1:=iH (jd x y);have a2:=iH (jd y z);have a3:=iH (jd x z);rcases Int.lt_or_eq_of_le (show cmpL y.1 x.1<=0 by omega)with q|q
  ·rcases Int.lt_or_eq_of_le (show cmpL z.1 y.1<=0 by omega)with p|p
   ·have:=nr (jd z y) (jd y x) p q;omega
   ·have e:=jy (jd z y) p;rw[e];omega
  ·have e:=jy (jd y x) q;rw[←e];omega
theorem Iy(x y:Sol)(h1:ltOf cfS x y=false)(h2:ltOf cfS y x=false):x=y:=by
 unfold ltOf cfS at*;rw[decide_eq_false_iff_not]at*;have a1:=iH (jd x y);exact Subtype.ext (jy (jd x y) (by omega))
theorem A9(x:Sol):(vA x).length=8:=by unfold vA;rw[aA,x.2.len]
theorem D9(d:Array Sol):flatK vA 8 d=(ssL (d.toList.map (·.1))).toArray:=by
 have hok:∀s∈d.toList.map (·.1),IsS s:=λs hs=>by
  obtain⟨x,_,rfl⟩:=List.mem_map.1 hs;exact x.2
 have hl:(ssL (d.toList.map (·.1))).length=d.size*8:=by rw[eL hok];simp
 apply ext_get! ((size_flatK vA 8 d).trans hl.symm);intro t ht;have ht':t<d.size*8:=by simpa using ht
 rw[get_flatK _ _ _ t ht'];have hd:t / 8<d.size:=by omega
 have hx:(d.toList.map (·.1))[t / 8]? =some (d[t / 8]!).1:=by
  rw[List.getElem?_map,Array.getElem?_toList,Array.getElem?_eq_getElem hd,getElem!_pos d (t / 8) hd];rfl
 have h8:=Eu hok hx;have e:((ssL (d.toList.map (·.1))).drop (t / 8*8))[t % 8]? =(us (d[t / 8]!).1)[t % 8]? :=by
  rw[←h8,List.getElem?_take_of_lt (by omega)]
 rw[List.getElem?_drop,show t / 8*8+t % 8=t by omega]at e;have e1:(us (d[t / 8]!).1).length=8:=A9 _;rw[List.getElem?_eq_getElem (by omega),List.getElem?_eq_getElem (by omega),Option.some.injEq]at e;show(us (d[t / 8]!).1)[t % 8]! =(ssL (d.toList.map (·.1))).toArray[t]!;rw[getElem!_pos _ (t % 8) (by omega),getElem!_pos _ t (show t<(ssL (d.toList.map (·.1))).length by rw[hl];exact ht'),←e];rfl
theorem AW:Rdy (⟨[],1000,[]⟩:Heap):=⟨⟨by simp,by intro b hb;simp at hb⟩,rfl⟩
theorem LR.flat{μ:Mu}:∀{l:List Value},(∀a∈l,cA a=true)->LR μ l l
 |[],_=> .nil
 |a::l,h=> .cons (VR.cA (h a List.mem_cons_self)).1 (LR.flat λx hx=>h x (List.mem_cons_of_mem _ hx))
theorem tQ{P:Program}{T:Nat->Option af}(S:dX P T)(hg:P.globals.size<=1000){f:Nat}{args:List Value}{v:Value}(hnc:gF (T f)=false)(H:Pu T f args ⟨[],1000,[]⟩ v)(ha:∀a∈args,cA a=true)(hv:cA v=true)(w:World):
 Calls P f args.toArray w λe w'=>e= .returned v/\∃q os',w'=Sort.grow (w.drewN q) os':=by
 obtain⟨r',h',⟨m,hm⟩,rfl,rfl⟩:=H;have hrun:=hm m (Nat.le_refl _);refine(lV S hrun rfl hnc (R.none (P:=P) (w:=w) hg) (LR.flat ha)).mono λe w' hq=> ?_;obtain⟨μ',q1,q2,q3⟩:=hq;cases e with
 |returned v'=>
  have hv':VR μ' v v':=q1;rw[(VR.cA hv).2 _ hv'];have hk:∀r,r<w.heap.size->w'.heap[r]? =w.heap[r]? :=λr hr=>q3.keep r hr λ⟨b,o,k,g,_⟩=>by cases g
  refine⟨rfl,w'.drawn-w.drawn,w'.heap.extract w.heap.size w'.heap.size,?_⟩;have hle:=q3.le;have hh:w'.heap=w.heap++w'.heap.extract w.heap.size w'.heap.size:=by
   apply Array.ext_getElem?;intro i;by_cases hi:i<w.heap.size
   ·rw[hk i hi,Array.getElem?_append_left hi]
   ·rw[Array.getElem?_append_right (by omega),Array.getElem?_extract];by_cases h2:i<w'.heap.size
    ·rw[if_pos (by omega)];congr 1;omega
    ·rw[if_neg (by omega),Array.getElem?_eq_none (by omega)]
  obtain⟨s1,s2,s3,s4⟩:=q3.same;cases w with
  |mk a1 a2 a3 a4 a5=>
   cases w' with
   |mk b1 b2 b3 b4 b5=>
    dsimp only at s1 s2 s3 s4 hh;subst s1;subst s2;subst s3;show World.mk b1 _ b3 _ _=World.mk (a1++_) _ (a3+(b3-a3)) _ _;rw[show a3+(b3-a3)=b3 by omega];congr 1
 |panicked _=>exact q1.elim
 |outgrown=>exact q1.elim
theorem S0:aH Tryz.prog Tryz.f168 [[2,3],[4]]=some f168:=by kernel_rfl
theorem T6:aH Tryz.prog Tryz.f190 [[2,3],[4]]=some f190:=by kernel_rfl
theorem Tb:aH Tryz.prog Tryz.f191 [[0,1],[0,1,9,10,11],[0,1,9,10,11,12],[0,1,5,6,9,10,11],[0,1,5,6,9,10,11,19],[4],[0,1,6,7,9,10,11],[0,1,8,9,10,11],[0,1,8,9,10,11,28],[4],[0,1,9,10,11],[35],[4],[4]]=some f191:=by kernel_rfl
theorem Um:aH Tryz.prog Tryz.f256 [[0,1],[0,1,5],[0,1,5,6],[0,1,6,11],[12],[4],[4],[0,1,13],[4],[0,1,16],[4],[19],[4],[4]]=some f256:=by kernel_rfl
theorem S4:aH Tryz.prog Tryz.f315 [[0],[2]]=some f315:=by kernel_rfl
def H9:Tr:=(.node (.node (.node .nil 168 f168 .nil) 190 f190 .nil) 191 f191 (.node (.node .nil 256 f256 .nil) 315 f315 .nil))
def TC:Nat->Option af:=H9.get
theorem Ur:H9.all (Entry Tryz.prog):=by
 unfold H9;exact(Tr.aa (Tr.aa (Tr.aa Tr.all_nil (.of Tryz.func168 S0) Tr.all_nil) (.of Tryz.func190 T6) Tr.all_nil) (.of Tryz.func191 Tb) (Tr.aa (Tr.aa Tr.all_nil (.of Tryz.func256 Um) Tr.all_nil) (.of Tryz.func315 S4) Tr.all_nil))
theorem Dj:dX Tryz.prog TC:=pL (by kernel_rfl) Ur
theorem RJ:xq TC:={p:=Dj.aP,f191:=by kernel_rfl,f256:=by kernel_rfl,f315:=by kernel_rfl}
theorem Gu(k:Nat)(hk:k=168∨k=190)(x y:Sol)(w:World):Calls Tryz.prog k #[.agg (vA x).toArray, .agg (vA y).toArray] w λe w'=>e= .returned (.int .i64 (cfS x y))/\∃q os',w'=Sort.grow (w.drewN q) os':=by
 have hn:∀a∈[sv x.1,sv y.1],cA a=true:=λa ha=>by
  rcases List.mem_cons.1 ha with rfl|ha
  ·exact gT _
  ·rw[List.mem_singleton.1 ha];exact gT _
 rcases hk with rfl|rfl
 ·exact tQ Dj mP (by kernel_rfl) (L7 RJ (by kernel_rfl) AW x.2 y.2) hn rfl w
 ·exact tQ Dj mP (by kernel_rfl) (Mw RJ (by kernel_rfl) AW x.2 y.2) hn rfl w
theorem Ea(l:List (List Nat))(h:∀s∈l,IsS s):∃d:List Sol,d.map (·.1)=l:=⟨l.attach.map λx=>⟨x.1,h _ x.2⟩,by simp⟩
theorem BA(d:List Sol):(d.mergeSort λx y=> !(ltOf cfS) y x).map (·.1)=eD (d.map (·.1)):=by
 unfold eD;exact List.map_mergeSort λa _ b _=>rfl
theorem De(k:Nat)(hk:k=168∨k=190):∀args w,(callFunc k args).run Tryz.prog w= .ok (.enter k args) w:=by
 rcases hk with rfl|rfl
 ·exact enters_of Tryz.func168 (by kernel_rfl) rfl
 ·exact enters_of Tryz.func190 (by kernel_rfl) rfl
theorem Qq:Entry Tryz.prog 189 (.j9 (oH 168 190)):=by
 refine .j9 (Ge Tryz.func189 (of_decide_eq_true (by kernel_rfl)) (by kernel_rfl) (λk p cap w=>Tryz.slices_SortFunc_none p cap _ w) ?_);intro k hk blk off cap l w hok hH hblk hl;obtain⟨d,hd⟩:=Ea l hok;have hfl:flatK vA 8 d.toArray=(ssL l).toArray:=by rw[D9];simp[hd]
 have hdl:d.length=l.length:=by rw[←hd];simp
 have h:=AnyQ.slices_SortFunc_total Tryz.oP 8 (Tryz.isAgg24) (Tryz.sizeOf24) vA A9 (λx v hv=>by
  obtain⟨n,_,rfl⟩:=List.mem_map.1 hv;rfl) cfS DM k #[] blk off cap d.toArray w (De k hk) (λm os dk hs x y=>by
   have:=Gu k hk x y (sortWorldK vA 8 w blk off m dk os);simpa using this) (by
   show Holds id w blk off (flatK vA 8 d.toArray);rw[hfl];exact hH) hblk (by simpa[hdl]using hl) Iy
 have hs:d.toArray.size=l.length:=by simpa using hdl
 rw[hs]at h;refine h.mono λe w' ⟨he,n,os,hw⟩=>⟨he,n,os,?_⟩;rw[hw];show Sort.grow (putRow id (Sort.ahead w n) blk off (flatK vA 8 _)) os=_;rw[D9];congr 2;have:=BA d;rw[hd]at this;simpa using congrArg ssL this
end Go.A.Pk
end
section
namespace Go.A.Pk
open Go.Sort Go.Proofs
def SLt(a b:List Nat):Prop:=cmpL a b<0
theorem ES{l:List (List Nat)}(h:∀s∈l,IsS s):(eD l).Pairwise λa b=>¬cmpL b a<0:=by
 obtain⟨d,rfl⟩:=Ea l h;rw[←BA];have hs:=DM;have hp:=List.pairwise_mergeSort (le:=λx y:Sol=> !(ltOf cfS) y x) (λa b c h1 h2=>by
  rw[Bool.not_eq_true']at*;exact hs.ntrans _ _ _ h2 h1) (λa b=>by
  rw[Bool.or_eq_true,Bool.not_eq_true',Bool.not_eq_true'];cases hab:ltOf cfS b a with
  |false=>exact .inl rfl
  |true=>
   right;cases hba:ltOf cfS a b with
   |false=>rfl
   |true=>
    have:=hs.trans _ _ _ hab hba;rw[hs.irrefl]at this;cases this) d
 rw[List.pairwise_map];refine hp.imp λ{a b} q=> ?_;rw[Bool.not_eq_true']at q;unfold ltOf cfS at q;exact of_decide_eq_false q
theorem KE:∀{l:List (List Nat)},(∀s∈l,IsS s)->(l.Pairwise λa b=>¬cmpL b a<0)->(ddS l).Pairwise SLt
 |[],_,_=>List.Pairwise.nil
 |[a],_,_=>List.pairwise_singleton _ _
 |a::b::l,h,hp=>by
  obtain⟨h1,h2⟩:=List.pairwise_cons.1 hp;have ih:=KE (λs hs=>h s (List.mem_cons_of_mem _ hs)) h2;unfold ddS;by_cases e:a=b
  ·rw[if_pos e];exact ih
  ·rw[if_neg e];refine List.pairwise_cons.2 ⟨λx hx=> ?_,ih⟩;have hx':=mW hx;have ha:=h a List.mem_cons_self;have hb:=h b (List.mem_cons_of_mem _ List.mem_cons_self);have hxs:=h x (List.mem_cons_of_mem _ hx');have la:a.length=x.length:=ha.len.trans hxs.len.symm;have q1:=h1 x hx';have a1:=iH la;rcases Int.lt_or_eq_of_le (show cmpL a x<=0 by omega)with q|q
   ·exact q
   ·have hax:=jy la q;have q2:=h1 b List.mem_cons_self;have a2:=iH (ha.len.trans hb.len.symm);have q3:¬cmpL a b<0:=by
     rcases List.mem_cons.1 hx' with rfl|hx'
     ·exact absurd hax e
     ·have:=(List.pairwise_cons.1 h2).1 x hx';rw[←hax]at this;exact this
    exact absurd (jy (ha.len.trans hb.len.symm) (by omega)) e
theorem kZ(a:List Nat):¬SLt a a:=by unfold SLt;rw[mR];omega
theorem Gw{l:List (List Nat)}(h:l.Pairwise SLt):l.Nodup:=by
 unfold List.Nodup;exact h.imp λ{a b} q (e:a=b)=>kZ a (by rw[←e]at q;exact q)
theorem vZ:∀{l k:List (List Nat)},(∀s∈l,IsS s)->(∀s∈k,IsS s)->l.Pairwise SLt->k.Pairwise SLt->(∀x,x∈l↔x∈k)->l=k
 |[],[],_,_,_,_,_=>rfl
 |[],b::k,_,_,_,_,h=>by have:=(h b).2 List.mem_cons_self;cases this
 |a::l,[],_,_,_,_,h=>by have:=(h a).1 List.mem_cons_self;cases this
 |a::l,b::k,hl,hk,p1,p2,h=>by
  obtain⟨a1,a2⟩:=List.pairwise_cons.1 p1;obtain⟨b1,b2⟩:=List.pairwise_cons.1 p2;have hab:a=b:=by
   rcases List.mem_cons.1 ((h a).1 List.mem_cons_self)with q|q
   ·exact q
   ·rcases List.mem_cons.1 ((h b).2 List.mem_cons_self)with q2|q2
    ·exact q2.symm
    ·have q3:=b1 a q;have q4:=a1 b q2;have ha:=hl a List.mem_cons_self;have hb:=hk b List.mem_cons_self;unfold SLt at q3 q4;have:=iH (ha.len.trans hb.len.symm);omega
  subst hab;congr 1;refine vZ (λs hs=>hl s (List.mem_cons_of_mem _ hs)) (λs hs=>hk s (List.mem_cons_of_mem _ hs)) a2 b2 λx=>⟨λhx=> ?_,λhx=> ?_⟩
  ·rcases List.mem_cons.1 ((h x).1 (List.mem_cons_of_mem _ hx))with rfl|q
   ·exact absurd (a1 _ hx) (kZ _)
   ·exact q
  ·rcases List.mem_cons.1 ((h x).2 (List.mem_cons_of_mem _ hx))with rfl|q
   ·exact absurd (b1 _ hx) (kZ _)
   ·exact q
theorem AT{w:List Nat×List Nat}(hw:IsW w)(o:List Nat):(lM w o).Pairwise SLt:=by
 unfold lM;have h:∀s∈(j7 w.2 o).map λp=>dU p w.1,IsS s:=λs hs=>by
  obtain⟨p,hp,rfl⟩:=List.mem_map.1 hs;exact(nk hp).less hw.a
 exact KE (λs hs=>h s (fZ.1 hs)) (ES h)
theorem xu{w:List Nat×List Nat}{o q:List Nat}:q∈lM w o↔ ∃p∈j7 w.2 o,dU p w.1=q:=by
 unfold lM;constructor
 ·intro h;exact List.mem_map.1 (fZ.1 (mW h))
 ·intro h;exact sB (fZ.2 (List.mem_map.2 h))
theorem HY{a b p:List Nat}(hb:¬b=s0):p∈j7 a b↔ ∃f∈iJ a b,f.s=p:=by
 unfold j7;rw[if_neg hb];constructor
 ·intro h;exact List.mem_map.1 (fZ.1 (mW h))
 ·intro h;exact sB (fZ.2 (List.mem_map.2 h))
theorem vc{α:Type}[DecidableEq α]:∀{l k:List α},l.Nodup->(∀x∈l,x∈k)->l.length<=k.length
 |[],_,_,_=>Nat.zero_le _
 |a::l,k,hn,h=>by
  obtain⟨h1,h2⟩:=List.nodup_cons.1 hn;have ha:=h a List.mem_cons_self;have ih:=vc (k:=k.erase a) h2 λx hx=>(List.mem_erase_of_ne (λ(e:x=a)=>h1 (by rw[←e];exact hx))).2 (h x (List.mem_cons_of_mem _ hx));rw[List.length_erase_of_mem ha]at ih;have:=List.length_pos_of_mem ha;rw[List.length_cons];omega
theorem LS{n m:Nat}(h:ceN n=ceN m):n=m:=by
 unfold ceN at h;injection h with h1 h2 h3
 omega
theorem Cg(s:List Nat)(n:Nat):(aR s n).Nodup:=by
 unfold aR;refine List.Pairwise.filter _ ?_;rw[List.pairwise_map];exact List.nodup_range.imp λ{a b} h e=>h (LS e)
theorem xS{f:Ce->Ce}{s:List Nat}(hin:∀c∈aR s 512,inG (f c)=true)(hf:∀c d,f c=f d->c=d):ew s<=ew (gp f s):=by
 unfold ew;rw[←List.length_map (f:=f)];refine vc ?_ λx hx=> ?_
 ·unfold List.Nodup;rw[List.pairwise_map];exact(Cg s 512).imp λ{a b} h e=>h (hf a b e)
 ·obtain⟨c,hc,rfl⟩:=List.mem_map.1 hx;exact dx.2 ((iS hin _).2 ⟨c,dx.1 hc,rfl⟩)
theorem La(k:Nat)(c d:Ce)(h:dH k c=dH k d):c=d:=by
 obtain⟨c1,c2,c3⟩:=c;obtain⟨d1,d2,d3⟩:=d;unfold dH at h;split at h<;>(injection h with h1 h2 h3;(try dsimp only at h1 h2 h3);congr 1<;>omega)
theorem Ci:∀(n:Nat) (c d:Ce),nC n c=nC n d->c=d
 |0,_,_,h=>h
 |n+1,c,d,h=>by
  refine Ci n c d ?_;unfold nC Cq at h;injection h with h1 h2 h3
  generalize nC n c=x at*;generalize nC n d=y at*;obtain⟨x1,x2,x3⟩:=x;obtain⟨q1,q2,q3⟩:=y;dsimp only at h1 h2 h3;congr 1;omega
theorem IX(t:Nat)(c d:Ce)(h:fB t c=fB t d):c=d:=La _ _ _ (Ci _ _ _ h)
theorem OA(x y z:Int)(c d:Ce)(h:shC x y z c=shC x y z d):c=d:=by
 obtain⟨c1,c2,c3⟩:=c;obtain⟨d1,d2,d3⟩:=d;unfold shC at h;injection h with h1 h2 h3
 dsimp only at h1 h2 h3;congr 1<;>omega
theorem Am{b:List Nat}{t:Nat}{x y z:Int}(r:Rng (bL (dw b t)).1 x y z):ew b<=ew (gp (shC x y z) (dw b t)):=
 Nat.le_trans (xS (λc hc=>lU c (iD hc)) (IX t)) (xS (λc hc=>r.all (dx.1 hc)) (OA x y z))
def Qb(a b p:List Nat):Prop:=∃t,t<24/\∃x y z,Rng (bL (dw b t)).1 x y z/\gp (shC x y z) (dw b t)=p/\sIn p a=true
theorem Lr{a b:List Nat}(ha:IsS a)(hb:IsS b)(h0:¬b=s0){p:List Nat}:(∃f∈iJ a b,f.s=p)↔Qb a b p:=by
 have hsp:=λt=>lE b t;constructor
 ·rintro⟨f,hf,rfl⟩;unfold iJ at hf;split at hf
  ·cases hf
  ·obtain⟨t,ht,hf⟩:=List.mem_flatMap.1 hf;have bi:=gK (dw b t);have bia:=gK a;unfold nZ Gj u0 sG uj at hf;obtain⟨z,hz,hf⟩:=List.mem_flatMap.1 hf;obtain⟨y,hy,hf⟩:=List.mem_flatMap.1 hf;obtain⟨x,hx,hf⟩:=List.mem_flatMap.1 hf;rw[Ac]at hx hy hz;obtain⟨⟨bl1,bl2,bl3⟩,⟨bh1,bh2,bh3⟩⟩:=bia;have r:Rng (bL (dw b t)).1 x y z:=⟨by omega,by omega,by omega⟩;split at hf
   ·rename_i hin;rw[List.mem_singleton.1 hf];refine⟨t,List.mem_range.1 ht,x,y,z,r,?_,hin⟩;exact(Ej (hsp t) r).symm
   ·cases hf
 ·rintro⟨t,ht,x,y,z,r,rfl,hin⟩;have hsub:=(kE (kQ r) ha).1 hin;have hcell:∀c,dN (dw b t) c=true->dN a (shC x y z c)=true:=λc hc=>hsub _ ((iS (λd hd=>r.all (dx.1 hd)) _).2 ⟨c,hc,rfl⟩);have hall:∀x∈aR b 512,inG (fB t x)=true:=λc hc=>lU c (iD hc);have hs0:¬dw b t=s0:=by
   intro q;obtain⟨c,hc⟩:=mH hb h0;have:=(iS hall (fB t c)).2 ⟨c,hc,rfl⟩;rw[show gp (fB t) b=s0 from q,lQ]at this;cases this
  obtain⟨c1,hc1⟩:=mH (hsp t) hs0;have k1:=lI (hcell c1 hc1);obtain⟨k2x,k2y,k2z⟩:=jK.1 (It hc1);unfold shC at k1;dsimp only at k1;have lo:=OX hs0 (x:=(bL a).1.lo.x-x) (y:=(bL a).1.lo.y-y) (z:=(bL a).1.lo.z-z) (by omega) (by omega) (by omega) λc hc=>by
   have:=lI (hcell c hc);unfold shC at this;dsimp only at this;omega
  have hi:=CE hs0 (x:=(bL a).1.hi.x-x) (y:=(bL a).1.hi.y-y) (z:=(bL a).1.hi.z-z) (by omega) (by omega) (by omega) λc hc=>by
   have:=lI (hcell c hc);unfold shC at this;dsimp only at this;omega
  have hcnt:¬ew a<ew b:=by
   have h1:=Am r;have h2:=Sub.cnt hsub;omega
  have h0a:¬a=s0:=by
   intro q;have:=hcell c1 hc1;rw[q,lQ]at this;cases this
  have hle:=Ej (hsp t) r;refine⟨⟨t,x,y,z,kj (dw b t) (bL (dw b t)).1 x y z⟩,?_,hle⟩;unfold iJ;rw[if_neg (λq=>q.elim h0a hcnt)];refine List.mem_flatMap.2 ⟨t,List.mem_range.2 ht,?_⟩;unfold nZ Gj u0 sG uj;refine List.mem_flatMap.2 ⟨z,Ac.2 (by omega),List.mem_flatMap.2 ⟨y,Ac.2 (by omega),List.mem_flatMap.2 ⟨x,Ac.2 (by omega),?_⟩⟩⟩;rw[if_pos (by rw[hle];exact hin)];exact List.mem_singleton.2 rfl
theorem ux{a b p:List Nat}(ha:IsS a)(hb:IsS b)(h0:¬b=s0):p∈j7 a b↔Qb a b p:=by
 rw[HY h0,Lr ha hb h0]
end Go.A.Pk
end
section
namespace Go.A.Pk
variable {T:Nat->Option af}
theorem uN{w:List Nat×List Nat}(hw:IsW w){o s:List Nat}(h:s∈ei w o):IsS s:=qZ hw (List.mem_filter.1 h).1
theorem tC(w:List Nat×List Nat)(o:List Nat):(ei w o).length<=98304:=Nat.le_trans (List.length_filter_le ..) (tc w o)
end Go.A.Pk
end
section
namespace Go.A.Pk
theorem Sub.trans{a b c:List Nat}(h1:Sub a b)(h2:Sub b c):Sub a c:=λx hx=>h2 x (h1 x hx)
theorem sQ{a b:List Nat}(ha:IsS a)(hb:IsS b):Sub a (fH a b):=λc hc=>by rw[sL ha hb,hc];rfl
theorem E8{a b:List Nat}(ha:IsS a)(hb:IsS b):Sub b (fH a b):=λc hc=>by rw[sL ha hb,hc,Bool.or_true]
theorem IA{a b c:List Nat}(ha:IsS a)(hb:IsS b)(h1:Sub a c)(h2:Sub b c):Sub (fH a b) c:=λx hx=>by
 rw[sL ha hb,Bool.or_eq_true]at hx;exact hx.elim (h1 x) (h2 x)
theorem rN:∀{z:Zs} {s:List Nat},IsS s->(∀x∈z,IsS x.1.cells)->Sub s (bsS s z)
 |[],s,_,_=>λc hc=>hc
 |x::z,s,hs,h=>by
  have hx:=h x List.mem_cons_self;have hz:∀y∈z,IsS y.1.cells:=λy hy=>h y (List.mem_cons_of_mem _ hy);show Sub s (bsS (bsJ s x) z);unfold bsJ;split
  ·exact(sQ hs hx).trans (rN (hs.join hx) hz)
  ·exact rN hs hz
theorem uw:∀{z:Zs} {s:List Nat},IsS s->(∀x∈z,IsS x.1.cells)->∀x∈z,x.2=1->Sub x.1.cells (bsS s z)
 |[],_,_,_,x,hx,_=>by cases hx
 |y::z,s,hs,h,x,hx,h1=>by
  have hy:=h y List.mem_cons_self;have hz:∀y∈z,IsS y.1.cells:=λy hy=>h y (List.mem_cons_of_mem _ hy);show Sub x.1.cells (bsS (bsJ s y) z);rcases List.mem_cons.1 hx with rfl|hx
  ·unfold bsJ;rw[if_pos h1];exact(E8 hs hy).trans (rN (hs.join hy) hz)
  ·unfold bsJ;split
   ·exact uw (hs.join hy) hz x hx h1
   ·exact uw hs hz x hx h1
def trB(w:List Nat×List Nat)(z:Zs)(t:List Nat):Bool:=
 sIn w.1 t&&sIn t w.2&&z.all λx=> !((decide (x.2=1)&& !sIn x.1.cells t)||(decide (x.2=2)&&sIn x.1.cells t))
theorem I2{z:Zs}{t:List Nat}(h:∀x∈z,x.2=1->sIn x.1.cells t=true):(z.all λx=> !((decide (x.2=1)&& !sIn x.1.cells t)||(decide (x.2=2)&&sIn x.1.cells t)))=alB z t:=by
 have e:∀x∈z,(!((decide (x.2=1)&& !sIn x.1.cells t)||(decide (x.2=2)&&sIn x.1.cells t)))= !(decide (x.2=2)&&sIn x.1.cells t):=λx hx=>by
  by_cases hk:x.2=1
  ·rw[h x hx hk,decide_eq_true hk];rfl
  ·rw[decide_eq_false hk];rfl
 unfold alB;rw[Bool.eq_iff_iff,List.all_eq_true,List.all_eq_true];exact⟨λq x hx=>by rw[←e x hx];exact q x hx,λq x hx=>by rw[e x hx];exact q x hx⟩
theorem Mx{w:List Nat×List Nat}(hw:IsW w){z:Zs}(hz:∀x∈z,IsS x.1.cells):trB w z (bsS w.1 z)=bsB w z:=by
 have hb:=j0 hw.a hz;unfold trB bsB;rw[I2 λx hx hk=>(kE (hz x hx) hb).2 (uw hw.a hz x hx hk),(kE hw.a hb).2 (rN hw.a hz),Bool.true_and]
theorem LZ{w:List Nat×List Nat}(hw:IsW w){z:Zs}(hz:∀x∈z,IsS x.1.cells)(hc:bsB w z=true){n:List Nat}(hn:IsS n)(hin:Sub n w.2):trB w z (fH (bsS w.1 z) n)=alB z (fH (bsS w.1 z) n):=by
 have hb:=j0 hw.a hz;have hj:=hb.join hn;unfold bsB at hc;rw[Bool.and_eq_true]at hc;have h1:=rN (z:=z) hw.a hz;have h2:=(kE hb hw.b).1 hc.1;unfold trB;rw[I2 λx hx hk=>(kE (hz x hx) hj).2 ((uw hw.a hz x hx hk).trans (sQ hb hn)),(kE hw.a hj).2 (h1.trans (sQ hb hn)),(kE hj hw.b).2 (IA hb hn h2 hin),Bool.true_and,Bool.true_and]
theorem F7(z:Zs)(s:List Nat)(l:List (List Nat))(n:List Nat):jY z s (l++[n])=if sIn n s then 1 else if(alB z (fH s n)&&decide (jY z s l=2))then 3 else jY z s l:=by
 unfold jY;rw[List.any_append,List.any_append];simp only[List.any_cons,List.any_nil,Bool.or_false];cases h1:sIn n s<;>cases h2:l.any (λn=>sIn n s)<;>cases h3:alB z (fH s n)<;>cases h4:l.any (λn=>alB z (fH s n))<;>rfl
theorem J4{w:List Nat×List Nat}(hw:IsW w){o n:List Nat}(ho:IsS o)(h0:¬o=s0)(hn:n∈ei w o):Sub n w.2:=by
 obtain⟨p,hp,rfl⟩:=xu.1 (List.mem_filter.1 hn).1;have hps:=nk hp;obtain⟨t,ht,x,y,z,r,e,hin⟩:=(ux hw.b ho h0).1 hp;intro c hc;rw[yK hps hw.a,Bool.and_eq_true]at hc;exact(kE hps hw.b).1 hin c hc.1
end Go.A.Pk
end
section
namespace Go.A.Pk
variable {T:Nat->Option af}
theorem OwS.EJ{lo:Nat}{h h':Heap}{v:Value}{l:List (List Nat)}(q:OwS lo h v l)(hn:h.next<=h'.next)(ha:∀z,vB v z->h'.get z=h.get z):OwS lo h' v l:=by
 rcases q with q|⟨b,c,t,h1,h2,h3,rfl,h4⟩
 ·exact .inl q
 ·exact .inr ⟨b,c,t,h1,by omega,(ha b ⟨_,_,rfl⟩).trans h3,rfl,h4⟩
theorem IF{w:List Nat×List Nat}(hw:IsW w)(pv nv ov mv v:Value)(hv:cellsOf v=[v]):cQ (quL w pv nv ov mv) (0+17) (cellsOf v)=quL w pv v ov mv:=by
 have hl:=iB hw;rw[hv];unfold quL;rw[fG (by rw[List.length_append,hl];simp),Nat.zero_add,List.take_append,List.take_of_length_le (by omega),hl,List.drop_append,List.drop_of_length_le (by simp;omega),hl];simp
theorem Eg{lo sz n p m c:Nat}{h:Heap}{cs:List Value}(s:Own lo h sz (.slice (some ⟨p,0,none⟩) m c) n cs):h.get p=some (.cells cs true sz):=by
 cases s with
 |full h1 h2 h3=>exact h3
theorem Ep{lo n:Nat}{h:Heap}{v:Value}{cs:List Value}(s:Own lo h 1 v n cs):cs.length=n:=by
 cases s with
 |nil=>rfl
 |full h1 h2 h3 h4=>omega
theorem Jo{lo sz n:Nat}{h:Heap}{v:Value}{cs:List Value}(s:Own lo h sz v n cs)(hn:0<n):lH v=false:=by
 cases s with
 |nil=>omega
 |full=>rfl
structure Ny (T:Nat->Option af):Prop where
 nd:Bj T
 f201:T 201=some f201
theorem LC(F:Ny T){h:Heap}(hr:Rdy h)(hg:Tab h)(h2:2<h.next){q:Nat}(hq2:2<q){w:List Nat×List Nat}(hw:IsW w){pv ov mv:Value}(gq:h.get q=some (.cells (quL w pv (.slice none 0 0) ov mv) true 1)){os:List (List Nat)}(so:SsQ h ov os)(hol:os.length<1000000)
 (hov:∀b o m c,ov= .slice (some ⟨b,o,none⟩) m c->b<q):
 Gs T 201 [.pointer (some ⟨q,0,none⟩)] h (λz=>q<=z) λ_ h'=>(∀z,z<h.next->z≠q->h'.get z=h.get z)/\∃nv,h'.get q=some (.cells (quL w pv nv ov mv) true 1)/\NdS h' nv (os.map (ei w)):=by
 have hp:=F.nd.pl.fi.ft.li.p;refine .ofK hp F.f201 ?_;obtain⟨a,c,rfl⟩:=so.sl.form;have hqn:=hr.wf.hM gq;have ko:=λnv=>RA hw pv nv (.slice a os.length c) mv;have kn:=λnv=>NV hw pv nv (.slice a os.length c) mv;have kw:=λnv=>Rm hw pv nv (.slice a os.length c) mv;have kwl:=eV hw;have kqset:=λnv v=>IF hw pv nv (.slice a os.length c) mv v;have kql:=λnv=>CJ hw pv nv (.slice a os.length c) mv;have ko0:=ko (.slice none 0 0);refine Y9 ?_
 refine bD (λm e ds h'=>∃(i:Nat) (v:Value) (vals:List Value),i<=os.length/\m=os.length-i/\e=[(0, .pointer (some ⟨q,0,none⟩)),(7, .slice a os.length c),(8, .int .i64 (os.length:Nat)),(9, .int .i64 (i:Nat))]/\ds=[]/\WF h'∧h.next<=h'.next/\eG q h'.log/\(i=0->h'=h)/\(0<i->q∈h'.log)/\(∀z,z<h.next->z≠q->h'.get z=h.get z)/\h'.get q=some (.cells (quL w pv v (.slice a os.length c) mv) true 1)/\Own h.next h' 1 v i vals/\dP vals=true/\∀j r,((os.take i).map (ei w))[j]? =some r->∃u,vals[j]? =some u/\OwS h.next h' u r)
  ⟨0, .slice none 0 0,[],Nat.zero_le _,rfl,rfl,rfl,hr.wf,Nat.le_refl _,by rw[hr.log];exact eG.nil _,λ_=>rfl,λq=>absurd q (Nat.lt_irrefl 0),λ_ _ _=>rfl,gq, .nil,rfl,λj r hj=>(by rw[List.take_zero,List.map_nil,List.getElem?_nil]at hj;cases hj)⟩ ?_
 rintro m e ds G ⟨i,v,vals,hin,rfl,rfl,rfl,WG,nG,lG,hi0,hi1,oG,gqG,ow,on1,hvs⟩;have hgG:G.get 2=h.get 2:=oG 2 h2 (by omega);by_cases hlt:i<os.length
 ·obtain⟨x,hx⟩:∃s,os[i]? =some s:=⟨os[i],List.getElem?_eq_getElem hlt⟩;have hxs:=so.ok x (List.mem_of_getElem? hx);obtain⟨b,o,c3,vs,own,tt,hv,gl,hbl,el⟩:=so.elem hx;cases hv;have hbq:b≠q:=Nat.ne_of_lt (hov _ _ _ _ rfl);have glG:=(oG b hbl hbq).trans gl;have kx8:=aG hxs.len;have kx9:=aN hxs.len;have kxn:=hxs.len;have mlt:ah .lss (.int .i64 (i:Nat)) (.int .i64 (os.length:Nat))=some (.bool true):=dz (by omega);refine Y9 ?_;refine dI (E0:=[(0, .pointer (some ⟨q,0,none⟩)),(3, .pointer (some ⟨G.next,0,none⟩)),(7, .slice (some ⟨b,o,none⟩) os.length c),(8, .int .i64 (os.length:Nat)),(9, .int .i64 (i:Nat))]) (P:=λh'=>Ext G h'∧h'.next=G.next+1/\h'.get G.next=some (.cells (us x) true 1)) ?_ ?_
  ·refine Y4 ?_;refine aB (aO (by exact rfl) (by exact rfl) YG (by(simp only[aA];assumption)) (by exact rfl) (by exact bB _)) ?_;refine cN ?_;refine y1 ?_;exact⟨rfl,rfl,rfl,dO (by omega) _ _,rfl,YG⟩
  rintro G2 ⟨x2,n2,g2⟩;have WG2:=x2.wf WG;have gqG2:=(x2.old _ (by omega)).trans gqG;have hgG2:Tab G2:=((x2.old 2 (by omega)).trans hgG).trans hg;have C:=Mr F.nd (h:={G2 with log:=[]}) (.of WG2) (show Tab G2 from hgG2) (by show 2<G2.next;omega) hw hxs;obtain⟨av,cv,rfl⟩:∃a c,v= .slice a i c:=(ow.slice (by omega)).form;have kov:=ko (.slice av i cv);have knv:=kn (.slice av i cv);have kwv:=kw (.slice av i cv);refine Y12 ?_;refine FW.alD C (λv h' m q=>q.log m) ?_;rintro u G5 x5 q5;clear C;have q5:OwS G2.next G5 u (ei w x):=q5
  have n5:=x5.next
  have gq5:=(x5.old _ (by omega)).trans gqG2;have g25:=(x5.old _ (by omega)).trans g2;refine⟨_,by(repeat apply aI rfl);apply aM rfl (aC rfl (eT (by exact rfl) (by assumption) (by assumption)) (by exact fO _ _ _)) rfl;apply aM rfl (aC rfl (ef (by exact rfl)) (by exact cW _)) rfl;apply aM rfl (aC rfl (oS (by exact rfl)) (by exact cW _)) rfl;apply aM rfl (aC rfl (fR (by exact rfl)) (by exact cW _)) rfl;apply aM rfl (aC rfl (fR (by exact rfl)) (by exact cW _)) rfl;exact bg,?_⟩;obtain⟨a5,c5,rfl⟩:=q5.form;refine sO rfl rfl rfl (by exact rfl) (by exact rfl) (by exact rfl) (iy (by exact rfl) (by exact rfl)) (by refine cZ (aC rfl (eT (by exact rfl) YG (by assumption)) (by exact fO _ _ _)) ?_;refine cZ (aC rfl (ef (by exact rfl)) (by exact cW _)) ?_;refine cZ (aC rfl (oS (by exact rfl)) (by exact cW _)) ?_;refine cZ (aC rfl (fR (by exact rfl)) (by exact cW _)) ?_;refine cZ (aC rfl (fR (by exact rfl)) (by exact cW _)) ?_;exact tE) ?_;have x6:Ext G5 (G5.push (.cells [.slice a5 (ei w x).length c5] true 1)):=(Ext.refl G5).push _;have hvb:∀q' a c,(.slice av i cv:Value)= .slice (some ⟨q',0,none⟩) a c->h.next<=q'∧q'<G.next:=λq' a c e=>by rw[e]at ow;exact zO ow
  have n6:(G5.push (.cells [.slice a5 (ei w x).length c5] true 1)).next=G5.next+1:=rfl
  refine Kg (lo:=q) (n:=i) (cs:=vals) (c1:=[.slice a5 (ei w x).length c5]) ((ow.ext (x2.trans (x5.trans x6))).low (by omega)) (by omega) (by omega) (by omega) rfl rfl rfl (by exact rfl) (by exact rfl) (by exact rfl) (DW (fF (cs:=[.slice a5 (ei w x).length c5]) (z3 G5 _) rfl rfl)) rfl rfl on1 (by show eG q G5.log;rw[x5.log,x2.log];exact lG) (x6.wf (x5.wf WG2)) ?_;intro G7 lg o7 n7 l7 W7 hold7;have n7:G5.next+1<G7.next:=n7
  have hold7:∀z,z<G5.next->(∀q' a c,(.slice av i cv:Value)= .slice (some ⟨q',0,none⟩) a c->z≠q')->G7.get z=G5.get z:=λz hz hne=>(hold7 z (by show z<G5.next+1;omega) hne).trans (z4 hz)
  have o7:Own (G5.next+1) G7 1 (.slice (some ⟨G5.next+1,0,none⟩) (i+1) UNK) (i+1) (vals++[.slice a5 (ei w x).length c5]):=o7;have gq7:G7.get q=some (.cells (quL w pv (.slice av i cv) (.slice (some ⟨b,o,none⟩) os.length c) mv) true 1):=(hold7 q (by omega) (λq' a c e=>by have:=(hvb q' a c e).1;omega)).trans gq5;refine⟨_,by(repeat apply aI rfl);apply aM rfl (aC rfl (fR (by exact rfl)) (by exact cW _)) rfl;exact bg,?_⟩;have kc:(Nat.beq (bO (cellsOf (.slice (some ⟨G5.next+1,0,none⟩) (i+1) UNK))) 1&&Nat.ble (0+17+1) (bO (quL w pv (.slice av i cv) (.slice (some ⟨b,o,none⟩) os.length c) mv))&&dP (cellsOf (.slice (some ⟨G5.next+1,0,none⟩) (i+1) UNK)))=true:=by
   rw[bV (quL w pv (.slice av i cv) (.slice (some ⟨b,o,none⟩) os.length c) mv),kql (.slice av i cv)];rfl
  have kst:=kqset (.slice av i cv) (.slice (some ⟨G5.next+1,0,none⟩) (i+1) UNK) rfl;have kqn7:q<G7.next:=by omega
  refine Y2 ?_;refine gY rfl rfl rfl (by exact rfl) (by exact rfl) (by exact rfl) gq7 kc kst kqn7 (by(repeat apply aI rfl);exact bg) ?_;refine Y8 ?_;refine⟨os.length-(i+1),by omega,i+1, .slice (some ⟨G5.next+1,0,none⟩) (i+1) UNK,vals++[.slice a5 (ei w x).length c5],by omega,rfl,rfl,rfl,W7.as (AS.wr h.next _ _ _),(by show h.next<=G7.next;omega),uV l7 (Nat.le_refl q),λe=>(by omega),λ_=>OC hqn,λz hz hne=> ?_,?_,?_,kY on1 rfl,λj r hj=> ?_⟩
  ·exact(z5 hne).trans ((hold7 z (by omega) (λq' a c e=>by have:=(hvb q' a c e).1;omega)).trans ((x5.old z (by omega)).trans ((x2.old z (by omega)).trans (oG z hz hne))))
  ·rw[z6,gq7];rfl
  ·exact(o7.keep (h':=G7.wr h.next q (.cells (quL w pv (.slice (some ⟨G5.next+1,0,none⟩) (i+1) UNK) (.slice (some ⟨b,o,none⟩) os.length c) mv) true 1)) (Nat.le_refl _) λz hz _=>z5 (by omega)).low (by omega)
  ·have hvl:vals.length=i:=by
    have:=ow.slice (by omega);exact Ep ow
   have hml:((os.take i).map (ei w)).length=i:=by rw[List.length_map,List.length_take];omega
   rw[dS hx,List.map_append]at hj;rcases Nat.lt_or_ge j i with hji|hji
   ·rw[List.getElem?_append_left (by omega)]at hj;obtain⟨u',hu',qo⟩:=hvs j r hj;refine⟨u',by rw[List.getElem?_append_left (by omega)];exact hu',qo.EJ (by show G.next<=G7.next;omega) λz hz=> ?_⟩;have hzb:=qo.vb hz;refine(z5 (by omega)).trans ((hold7 z (by omega) (λq' a c e=> ?_)).trans ((x5.old z (by omega)).trans (x2.old z (by omega))));rw[e]at ow;exact qo.ne (Eg ow) z hz
   ·obtain rfl:j=i:=by
     have:=(List.getElem?_eq_some_iff.1 hj).1;rw[List.length_append,hml]at this;simp at this;omega
    rw[List.getElem?_append_right (by omega),hml,Nat.sub_self]at hj;simp at hj;subst hj;refine⟨_,by rw[List.getElem?_append_right (by omega),hvl,Nat.sub_self];rfl,(q5.low (by omega)).EJ (by show G5.next<=G7.next;omega) λz hz=> ?_⟩;have hzb:=q5.vb hz;exact(z5 (by omega)).trans ((hold7 z (by omega) (λq' a c e=>by have:=(hvb q' a c e).2;omega)))
 ·obtain rfl:i=os.length:=by omega
  have mlt:ah .lss (.int .i64 (os.length:Nat)) (.int .i64 (os.length:Nat))=some (.bool false):=dA (by omega);rw[List.take_length]at hvs;have hon:0<os.length->lH v=false:=λq=>Jo ow q;have hsl:=ow.slice (by omega);refine Y9 ?_;refine FA (λz hz=>lG z hz) ?_ rfl ⟨oG,v,gqG,vals,?_,λj r hj=> ?_⟩
  ·rcases Nat.eq_zero_or_pos os.length with q0|q0
   ·exact .inl (hi0 q0)
   ·exact .inr ⟨q,hqn,hi1 q0,_,_,_,gqG,BQ (hon q0) (List.mem_append_right _ (by simp))⟩
  ·rw[List.length_map];exact hsl
  ·obtain⟨u,hu,qu⟩:=hvs j r hj;refine⟨u,hu,qu.ss λs hs=> ?_⟩;have hjm:=List.mem_of_getElem? hj;obtain⟨x,_,rfl⟩:=List.mem_map.1 hjm;exact uN hw hs
def lB(w:List Nat×List Nat)(l:List Pb)(os:List (List Nat)):Int:=
 if sIn w.1 w.2=false then 1 else if 6<os.length then 2 else if os.any (λs=>decide (s=s0))=true then 1 else prE l
structure NU (T:Nat->Option af):Prop where
 ne:Kf T
 cp:Es T
 f141:T 141=some f141
theorem Ln{h:Heap}{e:Env}{w:List Nat×List Nat}(hw:IsW w){x1 x2 x3 x4:Operand}{pv ov mv:Value}(h1:ev h e x1=some (wV w))(h2:ev h e x2=some pv)(h3:ev h e x3=some ov)(h4:ev h e x4=some mv)(c2:cellsOf pv=[pv])(c3:cellsOf ov=[ov])(c4:cellsOf mv=[mv]):
 jf h e [(.int .u64 0),(.int .u64 0),(.int .u64 0),(.int .u64 0),(.int .u64 0),(.int .u64 0),(.int .u64 0),(.int .u64 0),(.int .u64 0),(.int .u64 0),(.int .u64 0),(.int .u64 0),(.int .u64 0),(.int .u64 0),(.int .u64 0),(.int .u64 0),(.slice none 0 0),(.slice none 0 0),(.slice none 0 0),(.map none)] [(0,16,x1),(16,1,x2),(18,1,x3),(19,1,x4)]=some (quL w pv (.slice none 0 0) ov mv):=by
 have hl:=iB hw;have e1:cellsOf (wV w)=wL w:=by show(wL w).toArray.toList=_;simp
 have k1:bO (wL w)=16:=by rw[bV,hl]
 have p1:cQ [(.int .u64 0),(.int .u64 0),(.int .u64 0),(.int .u64 0),(.int .u64 0),(.int .u64 0),(.int .u64 0),(.int .u64 0),(.int .u64 0),(.int .u64 0),(.int .u64 0),(.int .u64 0),(.int .u64 0),(.int .u64 0),(.int .u64 0),(.int .u64 0),(.slice none 0 0),(.slice none 0 0),(.slice none 0 0),(.map none)] 0 (wL w)=wL w++[.slice none 0 0, .slice none 0 0, .slice none 0 0, .map none]:=by
  rw[fG (by rw[hl];decide),hl];rfl
 have p2:cQ (wL w++[.slice none 0 0, .slice none 0 0, .slice none 0 0, .map none]) 16 [pv]=wL w++[pv, .slice none 0 0, .slice none 0 0, .map none]:=by
  rw[fG (by rw[List.length_append,hl];simp),List.take_append_of_le_length (by omega),List.take_of_length_le (by omega),List.drop_append,List.drop_of_length_le (by simp;omega),hl];simp
 have p3:cQ (wL w++[pv, .slice none 0 0, .slice none 0 0, .map none]) 18 [ov]=wL w++[pv, .slice none 0 0,ov, .map none]:=by
  rw[fG (by rw[List.length_append,hl];simp),List.take_append,List.take_of_length_le (by omega),List.drop_append,List.drop_of_length_le (by simp;omega),hl];simp
 have p4:cQ (wL w++[pv, .slice none 0 0,ov, .map none]) 19 [mv]=wL w++[pv, .slice none 0 0,ov,mv]:=by
  rw[fG (by rw[List.length_append,hl];simp),List.take_append,List.take_of_length_le (by omega),List.drop_append,List.drop_of_length_le (by simp;omega),hl];simp
 have k2:∀a b c d:Value,bO (wL w++[a,b,c,d])=20:=λa b c d=>by rw[bV,List.length_append,hl];rfl
 simp only[jf,h1,h2,h3,h4,e1,c2,c3,c4,k1,k2,p1,p2,p3,p4];rfl
theorem Gx(l:List Value):cellsOf (.agg l.toArray)=l:=by show l.toArray.toList=_;simp
def TA(h:Heap)(w:List Nat×List Nat)(pv ov:Value)(e:Int)(v:Value)(h':Heap):Prop:=
 (e≠0/\v= .tuple #[.pointer none, .int .i64 e])∨(e=0/\∃q m,v= .tuple #[.pointer (some ⟨q,0,none⟩), .int .i64 0]/\h.next<=m/\m<q/\q<h'.next/\h'.get q=some (.cells (quL w pv (.slice none 0 0) ov (.map (some m))) true 1)/\h'.get m=some (.map []))
theorem vw(F:NU T){h:Heap}(hr:Rdy h){w:List Nat×List Nat}(hw:IsW w){pv ov:Value}{l:List Pb}(sp:PbS h pv l)(hl:l.length<1000000){os:List (List Nat)}(so:SsQ h ov os)(hol:os.length<1000000):
 Al T 141 [wV w,pv,ov] h (TA h w pv ov (lB w l os)):=by
 have hp:=F.cp.p;refine .of hp F.f141 hr ?_ ?_
 ·rintro v h1 hv (q|⟨_,q,m,rfl,_⟩)
  ·exact .inl q
  ·cases hv
 obtain⟨a,c,rfl⟩:=sp.form;obtain⟨a2,c2,rfl⟩:=so.sl.form;have hwc:cellsOf (wV w)=wL w:=by show(wL w).toArray.toList=_;simp
 have x0:Ext h (h.push (.cells (cellsOf (wV w)) true 1)):=(Ext.refl h).push _;have g0:(h.push (.cells (cellsOf (wV w)) true 1)).get h.next=some (.cells (wL w) true 1):=by rw[hwc];exact z3 h _
 have n0:(h.push (.cells (cellsOf (wV w)) true 1)).next=h.next+1:=rfl
 refine Y5 ?_;generalize(h.push (.cells (cellsOf (wV w)) true 1))=H at*;have W:=x0.wf hr.wf;have hL:=x0.log.trans hr.log;have wk:=ig hw;have wkl:=eV hw;have C1:=O2 F.ne (h:={H with log:=[]}) (.of W) hw;have C2:=tV hp F.ne.nd.f196 F.ne.nd.f257 (h:={H with log:=[]}) (.of W) ((so.ext x0).log []) hol (g:=90) (cap:=[]) (λs=>decide (s=s0)) λs hs=>DV hp F.cp.f90 (.of W) (so.ok s hs);have C3:=EI F.cp (h:={H with log:=[]}) (.of W) ((sp.ext x0).log []) hl;unfold lB;cases hin:sIn w.1 w.2 with
 |false=>
  rw[hin]at C1;rw[if_pos rfl];refine Y4 ?_;refine FW.pu C1 ?_;refine Y9 ?_;exact cK hL rfl (.inl ⟨by decide,rfl⟩)
 |true=>
 rw[hin]at C1;rw[if_neg (by simp)];by_cases h6:6<os.length
 ·have m1:ah .gtr (.int .i64 (os.length:Nat)) (.int .i64 6)=some (.bool true):=ic (by omega);rw[if_pos h6];refine Y4 ?_;refine FW.pu C1 ?_;refine Y18 ?_;exact cK hL rfl (.inl ⟨by decide,rfl⟩)
 have m1:ah .gtr (.int .i64 (os.length:Nat)) (.int .i64 6)=some (.bool false):=ij (by omega);rw[if_neg h6];cases ha:os.any (λs=>decide (s=s0))with
 |true=>
  rw[ha]at C2;rw[if_pos rfl];refine Y4 ?_;refine FW.pu C1 ?_;refine Y18 ?_;refine FW.pu C2 ?_;refine Y8 ?_;exact cK hL rfl (.inl ⟨by decide,rfl⟩)
 |false=>
 rw[ha]at C2;rw[if_neg (by simp)];by_cases he:prE l=0
 ·rw[he]at C3⊢;have mn:ah .neq (.int .i64 0) (.int .i64 0)=some (.bool false):=rfl;refine Y4 ?_;refine FW.pu C1 ?_;refine Y18 ?_;refine FW.pu C2 ?_;refine Y8 ?_;refine FW.pu C3 ?_;clear C1 C2 C3;refine Y13 ?_;refine aB M1 ?_;refine aB (nh (Ln hw (by exact rfl) (by exact rfl) (by exact rfl) (by exact rfl) rfl rfl rfl)) ?_;have hqc:=Gx (quL w (.slice a l.length c) (.slice none 0 0) (.slice a2 os.length c2) (.map (some H.next)));refine Y5 ?_;refine cK hL rfl (.inr ⟨rfl,_,_,rfl,?_,Nat.lt_succ_self _,Nat.lt_succ_self _,?_,?_⟩)
  ·show h.next<=H.next;omega
  ·rw[hqc];exact z3 _ _
  ·exact(z4 (Nat.lt_succ_self _)).trans (z3 _ _)
 ·have mn:ah .neq (.int .i64 (prE l)) (.int .i64 0)=some (.bool true):=j6 he;generalize prE l=e at*;refine Y4 ?_;refine FW.pu C1 ?_;refine Y18 ?_;refine FW.pu C2 ?_;refine Y8 ?_;refine FW.pu C3 ?_;refine Y14 ?_;exact cK hL rfl (.inl ⟨he,rfl⟩)
end Go.A.Pk
end
