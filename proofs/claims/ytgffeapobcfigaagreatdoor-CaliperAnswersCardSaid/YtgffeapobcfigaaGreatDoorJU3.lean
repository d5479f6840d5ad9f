/- Walks of functions, plain laws, the table. -/
import Derived.Test.YtgffeapobcfigaaGreatDoorJU2
import Derived.Test.YtgffeapobcfigaaGreatDoorJU1
import Derived.Test.YtgffeapobcfigaaGreatDoorJF
import Derived.Shelf.SlSortCmp.NoneTotal
import Derived.Test.YtgffeapobcfigaaGreatDoorProg
import Derived.Test.YtgffeapobcfigaaGreatDoorJH
import Derived.KernelRfl
import Derived.Test.YtgffeapobcfigaaGreatDoorJD
set_option linter.all false
set_option maxHeartbeats 16000000
set_option maxRecDepth 100000
section
namespace Go.A.Pk
variable {T:Nat->Option af}
inductive OwE (lo:Nat) (h:Heap) (sz:Nat):Value->Nat->List Value->Prop
 |own {v n cs}:Own lo h sz v n cs->OwE lo h sz v n cs
 |lit {b}:lo<=b->b<h.next->h.get b=some (.cells [] true sz)->OwE lo h sz (.slice (some ⟨b,0,none⟩) 0 0) 0 []
section
variable {base:Nat} {rnd:Option Nat} {Q:XQ} {e:Env} {ds:Dfs} {h:Heap} {dst:Option Nat} {os:List aX} {x y:Operand} {v u:Value} {lo sz n i:Nat} {cs:List Value} {k:IntKind}
theorem Fm{bytes b:Nat}(hb:h.get b=some (.cells [] true sz))(hbn:b<h.next)(hlo:lo<=b)(hn:n<1000000)(hby:bytes<=100000)(hx:ev h e x=some (.slice (some ⟨b,0,none⟩) 0 0))(hy:ev h e y=some u)(hs:dg h sz u=some (cs,n))(hcs:cs.length=n*sz)
 (hK:∀v' h',OwE lo h' sz v' n cs->Ext h h'→WO T base rnd Q os (bR e dst v') ds h'):WO T base rnd Q (⟨dst, .append sz bytes x y,none⟩::os) e ds h:=by
 by_cases h0:n=0
 ·subst h0;obtain rfl:cs=[]:=List.length_eq_zero_iff.1 (by omega);exact aF (ua hx hy hs (Nat.le_refl _)) (hK _ _ (.lit hlo hbn hb) (.refl h))
 ·have hbd:(2*(0+n)+768)*bytes<=281474976710656:=by
   have:(2*(0+n)+768)*bytes<=2000768*100000:=Nat.mul_le_mul (by omega) hby;omega
  refine aF (tZ (len:=0) (c:=0) (ws:=cs) hx hy hs h0 (by omega) (by decide) hb (by simp) hbd (by simp[bU,dx])) ?_;refine hK _ _ (.own ?_) ((Ext.refl h).push _);rw[Nat.zero_add];exact .full (by omega) (Nat.lt_succ_self _) (z3 _ _) hcs h0
end
end Go.A.Pk
end
section
namespace Go.A.Pk
variable {T:Nat->Option af}
theorem JH{base:Nat}{rnd:Option Nat}{Q:XQ}{e:Env}{ds:Dfs}{h:Heap}{lo sz bytes n:Nat}{dst:Option Nat}{os:List aX}{x y:Operand}{v u:Value}{cs c1:List Value}(s:Own lo h sz v n cs)(hn:n<1000000)(hsz:0<sz)(hb:bytes<=100000)
 (hx:ev h e x=some v)(hy:ev h e y=some u)(hs:dg h sz u=some (c1,1))(hl1:c1.length=sz)(h1:dX c1=true)
 (hK:∀h',Own h.next h' sz (.slice (some ⟨h.next,0,none⟩) (n+1) UNK) (n+1) (cs++c1)->h'.next=h.next+1->(∀z∈h'.log,lo<=z∨z∈h.log)->(WF h->WF h')->(∀z,z<h.next->(∀m c,v≠ .slice (some ⟨z,0,none⟩) m c)->h'.get z=h.get z)->WO T base rnd Q os (bR e dst (.slice (some ⟨h.next,0,none⟩) (n+1) UNK)) ds h'):
 WO T base rnd Q (⟨dst, .append sz bytes x y,none⟩::os) e ds h:=by
 have hbd:(2*(n+1)+768)*bytes<=281474976710656:=by
  have:(2*(n+1)+768)*bytes<=2000768*100000:=Nat.mul_le_mul (by omega) hb;omega
 cases s with
 |nil=>
  refine aF (rW (n:=1) hx hy hs (by omega) (by simpa using hbd) rfl) ?_;exact hK _ (Own.full (lo:=h.next) (h:=h.push (.cells c1 true sz)) (sz:=sz) (q:=h.next) (n:=1) (cs:=c1) (Nat.le_refl _) (Nat.lt_succ_self _) (z3 _ _) (by omega) (by omega)) rfl (λz hz=> .inr hz) (λw=>w.push _) (λz hz _=>z4 hz)
 | @full q _ _ q1 q2 q3 q4 q5=>
   refine aF (pT (n:=1) (vs:=cs) (ws:=cs++c1) hx hy hs (by omega) q3 q4 hsz h1 hbd (dx _ _)) ?_;exact hK _ (.full (Nat.le_refl _) (Nat.lt_succ_self _) (z3 _ _) (by rw[List.length_append,q4,hl1,Nat.add_mul,Nat.one_mul]) (by omega)) rfl (λz hz=>by
    rcases dW (b:=q) (o:= .dead) hz with rfl|hz
    ·exact .inl q1
    ·exact .inr hz) (λw=>(w.as (AS.wr base _ q .dead)).push _) (λz hz hne=>(z4 (by exact hz)).trans (z5 (λe=>hne n UNK (by subst e;rfl))))
section
open I
def wm:aT:=I.R [g 8 (.new (aK 8 (.int .u64 0))),S 8 8 16] [6,8]
def wo:aT:= .block 1 (I.R [L 17 6,N 18 8 8,g 19 (.cU (aK 8 (.int .u64 0)) 1 [(0,8,(t 18))]),g 20 (.append 8 64 (t 17) (t 19)),S 1 6 20] [])
end
theorem AY(hp:aR T){H:Heap}(hr:Rdy H){q l lo lo2:Nat}{fv v:Value}{ss:List (List Nat)}{f:Fi}(hfs:IsS f.s)(hm:ss.length<1000000)(hlo:lo<=q)
 (gl:H.get l=some (.loop [(6, .pointer (some ⟨q,0,none⟩)),(14,fv)] [15,16] wm wo 0 .normal))
 (go:H.get q=some (.cells [v] true 1))(own:Own lo2 H 8 v ss.length (ssL ss))(hlo2:lo<=lo2)(hq2:q<lo2)(hl2:l<lo2)(h2n:lo2<=H.next):
 FW T (.yield l) (fiV f) H λr H'=>r= .ret (.bool true)/\(∀z∈H'.log,lo<=z)/\q∈H'.log/\∃p,H'.get q=some (.cells [.slice (some ⟨p,0,none⟩) (ss.length+1) UNK] true 1)/\H.next<=p/\Own lo2 H' 8 (.slice (some ⟨p,0,none⟩) (ss.length+1) UNK) (ss++[f.s]).length (ssL (ss++[f.s]))/\(∀z,z<H.next->z≠q->(∀m c,v≠ .slice (some ⟨z,0,none⟩) m c)->H'.get z=H.get z)/\WF H'∧H.next<=H'.next/\p<H'.next:=by
 have no:q≠l:=λe=>by subst e;rw[go]at gl;cases gl
 have ko:=hr.wf.fK go;have kl:=hr.wf.fK gl;have hvl:∀m c,v≠ .slice (some ⟨l,0,none⟩) m c:=λm c e=>by
  rw[e]at own;generalize hn:ss.length=n at own;generalize ssL ss=cs at own;cases own with
  |full h1=>omega
 have hvq:∀m c,v≠ .slice (some ⟨q,0,none⟩) m c:=λm c e=>by
  rw[e]at own;generalize hn:ss.length=n at own;generalize ssL ss=cs at own;cases own with
  |full h1=>omega
 refine FW.OV hp (q:=q) (R:=λH'=>∃p,H'.get q=some (.cells [.slice (some ⟨p,0,none⟩) (ss.length+1) UNK] true 1)/\H.next<=p/\Own lo2 H' 8 (.slice (some ⟨p,0,none⟩) (ss.length+1) UNK) (ss++[f.s]).length (ssL (ss++[f.s]))/\(∀z,z<H.next->z≠q->(∀m c,v≠ .slice (some ⟨z,0,none⟩) m c)->H'.get z=H.get z)/\WF H'∧H.next<=H'.next/\p<H'.next) gl rfl kl ko no ?_;have k8:=aO hfs.len;have k9:=bn hfs.len;have kln:=hfs.len;unfold wm;refine Y2 ?_;refine aF (br (by exact rfl) (by exact rfl) YG (by(simp only[aD];assumption)) (by exact rfl) (by exact cI _)) ?_;refine dn ?_;refine y1 ?_;refine⟨rfl,YG,?_⟩;unfold wo;refine oE ?_;refine WE.Eb ?_;intro hA hAe;have A1:∀z,z<H.next->z≠l->H.get z=hA.get z:=λz hz hne=>by rw[hAe];symm;simp(disch:=first|omega|(simp only[z1,z2];omega))only[z5,z4]
 have A3:hA.get H.next=some (.cells (us f.s) true 1):=by rw[hAe];(simp(disch:=first|omega|(simp only[z1,z2];omega))only[z3,z4,z5,z6,z7,z1,z2,gl,go];done)
 have A2:hA.get l=some (.loop [(6, .pointer (some ⟨q,0,none⟩)),(14,fv)] [15,16] wm wo 1 .normal):=by rw[hAe];(simp(disch:=first|omega|(simp only[z1,z2];omega))only[z3,z4,z5,z6,z7,z1,z2,gl,go,A3];exact rfl)
 have A5:hA.next=H.next+1:=by rw[hAe];rfl
 have A6:hA.log=[]:=by rw[hAe];simp(disch:=first|omega|(simp only[z1,z2];omega))only[Heap.aB,Heap.rB];exact hr.log
 have A7:WF hA:=by rw[hAe];exact(((hr.wf.push _).as (AS.wr _ _ _ _)).as (AS.wr _ _ _ _))
 clear hAe;have Bo:=(A1 q ko no).symm.trans go;have hsl:ssL [f.s]=us f.s:=by simp[ssL]
 have ownA:Own lo2 hA 8 v ss.length (ssL ss):=own.keep (by omega) λz hz hz2=>(A1 z hz2 (by omega)).symm;clear go;refine Y3 ?_;refine aF (kr (Kq hfs (by exact rfl)) (show bG (aK 8 (Value.int IntKind.u64 0))=8 from rfl)) ?_;refine JH (lo:=lo2) (c1:=us f.s) (ownA.ext ((Ext.refl hA).push _)) hm (by omega) (by omega) (by exact rfl) (by exact rfl) (j8 (cs:=us f.s) YG k9 (by rw[aD,hfs.len])) (by rw[aD,hfs.len]) (cI _) ?_;intro h3 own3 n3 l3 w3 o3;have own3:Own (H.next+2) h3 8 (.slice (some ⟨H.next+2,0,none⟩) (ss.length+1) UNK) (ss.length+1) (ssL ss++us f.s):=by
  have e:(hA.push (.cells (us f.s) true 8)).next=H.next+2:=by show hA.next+1=_;omega
  rw[←e];exact own3
 have n3:h3.next=H.next+3:=by rw[n3];show hA.next+1+1=_;omega
 have l3:∀z∈h3.log,lo2<=z:=λz hz=>(l3 z hz).elim id λe=>by
  have e:z∈hA.log:=e;rw[A6]at e;cases e
 have o3:∀z,z<H.next+1->(∀m c,v≠ .slice (some ⟨z,0,none⟩) m c)->h3.get z=hA.get z:=λz hz hne=>(o3 z (by show z<hA.next+1;omega) hne).trans (z4 (by omega))
 have W3:WF h3:=w3 (A7.push _);have e5:∀o,(hA.push o).next=H.next+2:=λo=>by show hA.next+1=_;omega
 rw[e5];have Co:=(o3 q (by omega) hvq).trans Bo;have Cl:=(o3 l (by omega) hvl).trans A2;have hce:ssL (ss++[f.s])=ssL ss++us f.s:=by rw[tS,hsl]
 have hcl:(ss++[f.s]).length=ss.length+1:=by simp
 clear Bo A3 A2;refine yS ?_;refine dn ?_;refine Y2 ?_;refine⟨rfl,⟨_,YG,rfl⟩,λz hz=> ?_,qw (by omega),⟨_,_,_,Heap.bw Co,rfl⟩,H.next+2,(z5 no).trans (Heap.bw Co),by omega,?_,λz hz h1 h2=> ?_,?_,?_,?_⟩
 ·rcases dW hz with rfl|hz
  ·exact hlo
  ·exact Nat.le_trans hlo2 (l3 z hz)
 ·rw[hce,hcl];exact Own.low (lo:=H.next+2) (Own.keep own3 (Nat.le_refl _) λz hz _=>(z5 (by omega)).trans (z5 (by omega))) (by omega)
 ·by_cases hl:z=l
  ·subst hl;rw[gl];exact Heap.bw ((z5 (Ne.symm no)).trans Cl)
  ·exact(z5 hl).trans ((z5 h1).trans ((o3 z (by omega) h2).trans (A1 z (by omega) hl).symm))
 ·exact(W3.as (AS.wr _ _ _ _)).as (AS.wr _ _ _ _)
 ·show H.next<=h3.next
  omega
 ·show H.next+2<h3.next
  omega
theorem xW{a b:List Nat}{f:Fi}(h:f∈dY a b):IsS f.s/\∃t x y z,f.s=iu (ew b t) (dA (ew b t)).1 x y z:=by
 unfold dY at h;split at h
 ·cases h
 ·obtain⟨t,_,h⟩:=List.mem_flatMap.1 h;unfold jK BI pH lV ny at h;obtain⟨z,_,h⟩:=List.mem_flatMap.1 h;obtain⟨y,_,h⟩:=List.mem_flatMap.1 h;obtain⟨x,_,h⟩:=List.mem_flatMap.1 h;split at h
  ·rw[List.mem_singleton.1 h];exact⟨kG (oB b t) _ _ _ _,t,x,y,z,rfl⟩
  ·cases h
structure PPl (l q:Nat) (H0:Heap) (L:bC) (done:List Fi) (H:Heap):Prop where
 old:∀z,z<l->z≠q->H.get z=H0.get z
 loop:H.get l=some L
 nx:l<H.next
 val:∃v,H.get q=some (.cells [v] true 1)/\Own (l+1) H 8 v (done.map (·.s)).length (ssL (done.map (·.s)))
 few:done.length<=100000
def wPl(q:Nat)(H:Heap)(z:Nat):Prop:=z=q∨∃m c,H.get q=some (.cells [.slice (some ⟨z,0,none⟩) m c] true 1)
theorem PPl.eM{l q:Nat}{H0:Heap}{L:bC}(hq:q<l)(done:List Fi)(H H':Heap)(p:PPl l q H0 L done H)(hn:H.next<=H'.next)(h:∀x,x<H.next->H'.get x=H.get x):PPl l q H0 L done H':=by
 obtain⟨p1,p2,p3,⟨v,p4,p5⟩,p6⟩:=p;exact⟨λz hz hne=>(h z (by omega)).trans (p1 z hz hne),(h l p3).trans p2,by omega,⟨v,(h q (by omega)).trans p4,p5.keep hn λz _ hz=>h z hz⟩,p6⟩
theorem B4{lo sz n:Nat}{h:Heap}{p m c:Nat}{cs:List Value}(s:Own lo h sz (.slice (some ⟨p,0,none⟩) m c) n cs):lo<=p/\p<h.next:=by
 cases s with
 |full h1 h2=>exact⟨h1,h2⟩
theorem Dj(hf:T 189=some (.jN (oh 168 190))){k:Nat}(hk:k=168∨k=190){lo:Nat}{h:Heap}{v:Value}{l:List (List Nat)}(s:OwS lo h v l)(hok:∀x∈l,IsS x)(hl:l.length<1000000):
 Gs T 189 [v, .func (.func k) #[] #[]] h (vB v) (λ_ h'=>OwS lo h' v (eC l)):=by
 have hlen:=jq l;have e0:Ea 168 190 (.func (.func k) #[] #[])=true:=by
  rcases hk with rfl|rfl<;>rfl
 rcases s with⟨rfl,rfl⟩|⟨b,c,tl,h1,h2,h3,rfl,h4,h5⟩
 ·have e:eC []=[]:=List.length_eq_zero_iff.1 hlen;rw[e];refine⟨.ret (.tuple #[]),h,⟨1,λn hn=> ?_⟩,⟨Nat.le_refl _,λz hz=> .inl hz,λ_ _ _=>rfl,id⟩, .tuple #[],rfl, .inl ⟨rfl,rfl⟩⟩;obtain⟨k',rfl⟩:∃k,n=k+1:=⟨n-1,by omega⟩;simp only[iA,hf,oh,e0,cond_true]
 ·have e2:(Ea 168 190 (.func (.func k) #[] #[])&&(Nat.beq 0 0&&Nat.blt l.length 1000000))=true:=by rw[e0,fF hl];rfl
  have e3:=Bl (t:=tl) hok;have e4:bM (l.length*8) (ssL l++tl)=tl:=by rw[bg,←fm hok,List.drop_left]
  refine⟨.ret (.tuple #[]),h.wr h.next b (.cells (ssL (eC l)++tl) true 8),⟨1,λn hn=> ?_⟩,?_, .tuple #[],rfl, .inr ⟨b,c,tl,h1,h2,?_,by rw[hlen],by omega,λq=>h5 λq2=>q (by rw[q2];exact List.length_eq_zero_iff.1 (jq []))⟩⟩
  ·obtain⟨k',rfl⟩:∃k,n=k+1:=⟨n-1,by omega⟩;simp only[iA,hf,oh,h3,e2,cond_true,e3,e4]
  ·refine⟨Nat.le_refl _,λz hz=> ?_,λz hz hnz=> ?_,λw=>w.as (AS.wr h.next _ _ _)⟩
   ·rcases dW hz with rfl|hz
    ·exact .inr ⟨_,_,rfl⟩
    ·exact .inl hz
   ·exact z5 (λe=>hnz (by rw[e];exact⟨_,_,rfl⟩))
  ·show(h.wr h.next b (.cells (ssL (eC l)++tl) true 8)).get b=_;rw[z6,h3];rfl
structure FC (T:Nat->Option af):Prop where
 fi:CL T
 f72:T 72=some f72
 f167:T 167=some f167
 f189:T 189=some (.jN (oh 168 190))
 f192:T 192=some f192
theorem E3(F:FC T){h:Heap}(hr:Rdy h){lo:Nat}(hlo:h.next≥lo){v:Value}{l:List (List Nat)}(s:OwS lo h v l)(hok:∀x∈l,IsS x)(hl:l.length<1000000):
 Gs T 167 [v, .func (.func 168) #[] #[]] h (vB v) (λv h'=>OwS lo h' v (ddS (eC l))):=by
 have hp:=F.fi.ft.li.p;refine .of hp F.f167 (λv h1 h2 hv hn2 hag hq=>OwS.flat hv hq) ?_;have C1:=Dj F.f189 (.inl rfl) (h:={h with log:=[]}) (s.log []) hok hl;refine Y7 ?_;refine FW.gs C1 (λv h' m q=>q.log m) ?_;rintro _ H1 x1 q1;clear C1;have hok2:∀x∈eC l,IsS x:=λx hx=>hok x (ig.1 hx);have C2:=uw hp F.f192 (h:={H1 with log:=[]}) (.of (x1.wf hr.wf)) (q1.log []) hok2 (by rw[jq];exact hl);refine Y4 ?_;refine FW.gs C2 (λv h' m q=>q.log m) ?_;rintro v2 H2 x2 q2;clear C2;have lg1:∀z∈H1.log,vB v z:=λz hz=>(x1.log z hz).elim (λq=>by rw[hr.log]at q;cases q) id;have lg2:∀z∈H2.log,vB v z:=λz hz=>(x2.log z hz).elim (λq=>lg1 z q) id;refine Y3 ?_;exact lU lg2 rfl q2
def qg(a b:List Nat):List (List Nat):=if b=s0 then []else ddS (eC ((dY a b).map (·.s)))
theorem y7{a b s:List Nat}(h:s∈qg a b):IsS s:=by
 unfold qg at h;split at h
 ·cases h
 ·obtain⟨f,hf,rfl⟩:=List.mem_map.1 (ig.1 (oR h));exact(xW hf).1
theorem Mk(lo:Int)(n:Nat):(zrN lo n).length=n:=by unfold zrN;simp
theorem ri{α β:Type}{f:α->List β}{k:Nat}:∀{l:List α},(∀x∈l,(f x).length<=k)->(l.flatMap f).length<=l.length*k
 |[],_=>by simp
 |x::l,h=>by
  have h1:=h x List.mem_cons_self;have h2:=ri λy hy=>h y (List.mem_cons_of_mem x hy);rw[List.flatMap_cons,List.length_append,List.length_cons,Nat.add_mul];omega
theorem wD(a b:List Nat):(dY a b).length<=98304:=by
 have hz:∀{lo hi:Int}, -7<=lo->hi<=7->(zr lo hi).length<=16:=λ{lo hi} h1 h2=>by
  unfold zr;rw[Mk];omega
 have ra:=jU a;unfold dY;split
 ·simp
 ·refine Nat.le_trans (ri (k:=4096) λt _=> ?_) (by simp);have bp:=jU (ew b t);obtain⟨⟨⟨r1,r2⟩,⟨r3,r4⟩,⟨r5,r6⟩⟩,⟨⟨r7,r8⟩,⟨r9,r10⟩,⟨r11,r12⟩⟩⟩:=ra;obtain⟨⟨⟨b1,b2⟩,⟨b3,b4⟩,⟨b5,b6⟩⟩,⟨⟨b7,b8⟩,⟨b9,b10⟩,⟨b11,b12⟩⟩⟩:=bp;unfold jK BI;refine Nat.le_trans (ri (k:=256) λz _=> ?_) (by have:=hz (lo:=(dA a).1.lo.z-(dA (ew b t)).1.lo.z) (hi:=(dA a).1.hi.z-(dA (ew b t)).1.hi.z) (by omega) (by omega);omega);unfold pH;refine Nat.le_trans (ri (k:=16) λy _=> ?_) (by have:=hz (lo:=(dA a).1.lo.y-(dA (ew b t)).1.lo.y) (hi:=(dA a).1.hi.y-(dA (ew b t)).1.hi.y) (by omega) (by omega);omega);unfold lV;refine Nat.le_trans (ri (k:=1) λx _=> ?_) (by have:=hz (lo:=(dA a).1.lo.x-(dA (ew b t)).1.lo.x) (hi:=(dA a).1.hi.x-(dA (ew b t)).1.hi.x) (by omega) (by omega);omega);unfold ny;split<;>simp
theorem AX(a b:List Nat):(qg a b).length<=98304:=by
 unfold qg;split
 ·simp
 ·refine Nat.le_trans (xS _) ?_;rw[jq,List.length_map];exact wD a b
def Lh(b:List Nat):Int:=if b=s0 then 1 else 0
theorem Iv(F:FC T){h:Heap}(hr:Rdy h)(hg:Tab h)(h2:2<h.next){a b:List Nat}(ha:IsS a)(hb:IsS b):
 Al T 72 [sv a,sv b] h λv h'=>∃u,v= .tuple #[u, .int .i64 (Lh b)]/\OwS h.next h' u (qg a b):=by
 have hp:=F.fi.ft.li.p;refine .of hp F.f72 hr ?_ ?_
 ·rintro v h1 hv ⟨u,rfl,q⟩;have hu:cg u=true:=by
   have e:cg (.tuple #[u, .int .i64 (Lh b)])=gI [u, .int .i64 (Lh b)]:=rfl;rw[e]at hv;simp only[gI,cond_eq_ite,Bool.if_false_right,Bool.and_eq_true]at hv;have hf:flat u=true:=of_decide_eq_true hv.1;unfold cg;split
   ·rename_i cs;rcases q with⟨h1,_⟩|⟨_,_,_,_,_,_,h1,_⟩<;>cases h1
   ·exact hf
  exact⟨u,rfl,OwS.flat hu q⟩
 have ka8:=aO ha.len;have ka9:=bn ha.len;have kb8:=aO hb.len;have kb9:=bn hb.len;have x0:Ext h ((h.push (.cells (cellsOf (sv a)) true 1)).push (.cells (cellsOf (sv b)) true 1)):=((Ext.refl h).push _).push _;have gA:((h.push (.cells (cellsOf (sv a)) true 1)).push (.cells (cellsOf (sv b)) true 1)).get h.next=some (.cells (us a) true 1):=YG
 have gB:((h.push (.cells (cellsOf (sv a)) true 1)).push (.cells (cellsOf (sv b)) true 1)).get (h.next+1)=some (.cells (us b) true 1):=YG;have n0:((h.push (.cells (cellsOf (sv a)) true 1)).push (.cells (cellsOf (sv b)) true 1)).next=h.next+2:=rfl
 refine Y6 ?_;generalize((h.push (.cells (cellsOf (sv a)) true 1)).push (.cells (cellsOf (sv b)) true 1))=H at*;have W:=x0.wf hr.wf;have hL:=x0.log.trans hr.log;have hfl:=wD a b;unfold qg Lh;by_cases he:b=s0
 ·rw[if_pos he,if_pos he];refine Y4 ?_;refine aF (jb (b:=s0) (by exact rfl) (by exact rfl) hb.len rfl) ?_;rw[decide_eq_true he];refine Y8 ?_;exact dy hL rfl ⟨_,rfl, .inl ⟨rfl,rfl⟩⟩
 rw[if_neg he,if_neg he];refine Y4 ?_;refine aF (jb (b:=s0) (by exact rfl) (by exact rfl) hb.len rfl) ?_;rw[decide_eq_false he];have x1:Ext H (H.push (.cells [.slice none 0 0] true 1)):=(Ext.refl H).push _;have q6:(H.push (.cells [.slice none 0 0] true 1)).get H.next=some (.cells [.slice none 0 0] true 1):=z3 _ _
 have n1:(H.push (.cells [.slice none 0 0] true 1)).next=H.next+1:=rfl
 refine Y7 ?_;generalize(H.push (.cells [.slice none 0 0] true 1))=H1 at*;have ey1':=x0.trans x1;have W1:=ey1'.wf hr.wf;have hL1:=ey1'.log.trans hr.log;have gA1:=(x1.old _ (by omega)).trans gA;have gB1:=(x1.old _ (by omega)).trans gB;have C:=De F.fi (h:={H1 with log:=[]}) (.of W1) ha hb;clear gA gB;refine Y5 ?_;refine FW.al C (λv h' m q=>q) ?_;rintro _ H2 x2 ⟨qa,qb,rfl,ga,gb,kqa,kqb,na,nb⟩;clear C;have na:H1.next<=qa:=na
 have nb:H1.next<=qb:=nb
 have ey2':=ey1'.trans x2;have W2:=ey2'.wf hr.wf;have hL2:=ey2'.log.trans hr.log;have n2:=x2.next
 have p6:=(x2.old _ (by omega)).trans q6;have hg2:Tab H2:=hg.ext ey2' h2;clear gA1 gB1 q6;refine Y2 ?_;refine Fj (lo:=H.next) (P:=PPl H2.next H.next H2 (.loop [(6, .pointer (some ⟨H.next,0,none⟩)),(14,fnF qa qb)] [15,16] wm wo 0 .normal) (dY a b)) rfl (by rfl) (by rw[F.fi.ft.f209];rfl) (by omega) (by omega) hL2 W2 ?_ (λH p=>⟨_,_,_,_,p.loop⟩) ?_
 ·have Y:DT T H.next (H2.next+1) H2.next H.next fiV (dY a b) (PPl H2.next H.next H2 (.loop [(6, .pointer (some ⟨H.next,0,none⟩)),(14,fnF qa qb)] [15,16] wm wo 0 .normal)) (wPl H.next):=by
   refine⟨by omega,λdone f Hh hx hlen hrH hN hP=> ?_,PPl.eM (by omega),λdone H' H'' p hn hs z hz=> ?_,λdone H' z p hz=> ?_⟩
   ·obtain⟨p1,p2,p3,⟨v,p4,p5⟩,p6⟩:=hP;refine FW.mono' (AY hp hrH (lo:=H.next) (lo2:=H2.next+1) (ss:=done.map (·.s)) (xW hx).1 (by rw[List.length_map];omega) (Nat.le_refl _) p2 p4 p5 (by omega) (by omega) (by omega) hN) ?_;rintro r' H' ⟨r1,r2,r3,p,r4,r5,r6,r7,r8,r9,r10⟩;have hvl:∀z,z<H2.next+1->∀m c,v≠ .slice (some ⟨z,0,none⟩) m c:=λz hz m c e=>by
     rw[e]at p5;have:=(B4 p5).1;omega
    refine⟨r1,r2,r3,⟨_,_,_,r4,rfl⟩,⟨λz hz hne=>(r7 z (by omega) hne (hvl z (by omega))).trans (p1 z hz hne),(r7 _ (by omega) (by omega) (hvl _ (by omega))).trans p2,by omega,⟨_,r4,by rw[List.map_append];exact r6⟩,by rw[List.length_append];show done.length+1<=_;omega⟩,λz hz hn=>r7 z hz (λe=>hn (.inl e)) λm c e=>hn (.inr ⟨m,c,by rw[←e];exact p4⟩),λz hz=> ?_⟩;rcases hz with rfl|⟨m,c,hz⟩
    ·exact .inl (.inl rfl)
    ·rw[r4]at hz;cases hz;exact .inr r5
   ·obtain⟨p1,p2,p3,⟨v,p4,p5⟩,p6⟩:=p;rcases hz with rfl|⟨m,c,hz⟩
    ·exact .inl rfl
    ·exact .inr ⟨m,c,by rw[←hs _ (by omega)];exact hz⟩
   ·obtain⟨p1,p2,p3,⟨v,p4,p5⟩,p6⟩:=p;rcases hz with rfl|⟨m,c,hz⟩
    ·omega
    ·rw[p4]at hz;cases hz;exact(B4 p5).2
  exact Gy F.fi.ft (.of (W2.push (.loop [(6, .pointer (some ⟨H.next,0,none⟩)),(14,fnF qa qb)] [15,16] wm wo 0 .normal))) (qa:=qa) (qb:=qb) (l:=H2.next) (N:=H2.next+1) (lo:=H.next) ha hb (Nat.le_refl _) (by show H.next<=H2.next+1;omega) (by omega) Y (λd H' hP=>(hP.old _ kqa (by omega)).trans ga) (λd H' hP=>(hP.old _ kqb (by omega)).trans gb) (λd H' hP=>(hP.old 2 (by omega) (by omega)).trans hg2)
   ⟨λz hz _=>z4 (by omega),z3 _ _,Nat.lt_succ_self _,⟨_,(z4 (by omega)).trans p6, .nil⟩,Nat.zero_le _⟩
 intro h4 h5 k1 k2 k3 k4 k5 k6 hP;obtain⟨p1,p2,p3,⟨v,p4,p5⟩,p7⟩:=hP;have D:=(k5 H.next (by omega)).trans p4;have ow:=p5.keep (h':=h5) (by omega) λz hz _=>k5 z (by omega);have hok:∀x∈(dY a b).map (·.s),IsS x:=λx hx=>by
  obtain⟨f,hf,rfl⟩:=List.mem_map.1 hx;exact(xW hf).1
 have hlen:((dY a b).map (·.s)).length<1000000:=by rw[List.length_map];omega
 generalize(dY a b).map (·.s)=l at*;have os:=Pk.Own.owS ow (by omega);have C:=E3 F (h:={h5 with log:=[]}) (.of k2) (lo:=H2.next+1) (by show H2.next+1<=h5.next;omega) (os.log []) hok hlen;clear p4 p1 p2;refine Y5 ?_;refine FW.gs0 C (λv h' m q=>q.log m) (λz hz=>by have:=(os.vb hz).1;omega) ?_;rintro v6 H6 n6 l6 o6 w6 s6;clear C;refine Y4 ?_;exact dy (l6.trans k1) rfl ⟨_,rfl,s6.low (by omega)⟩
structure zM (T:Nat->Option af):Prop where
 pl:FC T
 f35:T 35=some f35
 f92:T 92=some f92
 f121:T 121=some f121
 f124:T 124=some f124
 f193:T 193=some f193
 f194:T 194=some f194
 f195:T 195=some f195
 f196:T 196=some f196
 f197:T 197=some f197
 f257:T 257=some f257
def uT(r:List (List Nat))(x:List Nat):Bool:=r.any λy=> !decide (y=x)&&sIn y x
def pQ(w:List Nat×List Nat)(o:List Nat):List (List Nat):=ddS (eC ((qg w.2 o).map λp=>eX p w.1))
def ei(w:List Nat×List Nat)(o:List Nat):List (List Nat):=(pQ w o).filter λx=> !uT (pQ w o) x
theorem uW{w:List Nat×List Nat}(hw:IsW w){o s:List Nat}(h:s∈pQ w o):IsS s:=by
 obtain⟨p,hp,rfl⟩:=List.mem_map.1 (ig.1 (oR h));exact(y7 hp).less hw.a
theorem wO(w:List Nat×List Nat)(o:List Nat):(pQ w o).length<=98304:=by
 refine Nat.le_trans (xS _) ?_;rw[jq,List.length_map];exact AX _ _
theorem Ip(F:zM T){h:Heap}(hr:Rdy h){q:Nat}{x y:List Nat}(hx:IsS x)(hy:IsS y)(g:h.get q=some (.cells (us x) true 1)):Pu T 197 [sv y, .pointer (some ⟨q,0,none⟩)] h (.bool (!decide (y=x)&&sIn y x)):=by
 have hp:=F.pl.fi.ft.li.p;refine .of hp F.f197 hr rfl ?_;have kq:=hr.wf.fK g;have kx8:=aO hx.len;have kx9:=bn hx.len;have ky8:=aO hy.len;have ky9:=bn hy.len;have x0:Ext h (h.push (.cells (cellsOf (sv y)) true 1)):=(Ext.refl h).push _;have g0:(h.push (.cells (cellsOf (sv y)) true 1)).get h.next=some (.cells (us y) true 1):=YG
 have n0:(h.push (.cells (cellsOf (sv y)) true 1)).next=h.next+1:=rfl
 refine Y4 ?_;generalize(h.push (.cells (cellsOf (sv y)) true 1))=H at*;have W:=x0.wf hr.wf;have hL:=x0.log.trans hr.log;have gx:=(x0.old _ kq).trans g;have C:=vR hp F.f35 F.f121 (h:={H with log:=[]}) (.of W) hy hx;by_cases he:y=x
 ·rw[decide_eq_true he];refine Y3 ?_;refine aF (jb (b:=x) (by exact rfl) (by exact rfl) hy.len hx.len) ?_;rw[decide_eq_true he];refine Y8 ?_;exact aA hL rfl rfl
 ·rw[decide_eq_false he];refine Y3 ?_;refine aF (jb (b:=x) (by exact rfl) (by exact rfl) hy.len hx.len) ?_;rw[decide_eq_false he];refine Y7 ?_;refine FW.pu C ?_;clear C;refine Y4 ?_;exact aA hL rfl rfl
theorem KL(F:zM T){h:Heap}(hr:Rdy h){q:Nat}{v:Value}{r:List (List Nat)}(s:SsQ h v r)(hn:r.length<1000000){x:List Nat}(hx:IsS x)(g:h.get q=some (.cells [v] true 1)):Pu T 195 [sv x, .pointer (some ⟨q,0,none⟩)] h (.bool (uT r x)):=by
 have hp:=F.pl.fi.ft.li.p;refine .of hp F.f195 hr rfl ?_;have kq:=hr.wf.fK g;have x0:Ext h (h.push (.cells (cellsOf (sv x)) true 1)):=(Ext.refl h).push _;have g0:(h.push (.cells (cellsOf (sv x)) true 1)).get h.next=some (.cells (us x) true 1):=YG
 have n0:(h.push (.cells (cellsOf (sv x)) true 1)).next=h.next+1:=rfl
 refine Y4 ?_;generalize(h.push (.cells (cellsOf (sv x)) true 1))=H at*;have W:=x0.wf hr.wf;have hL:=x0.log.trans hr.log;have gx:=(x0.old _ kq).trans g;obtain⟨a,c,rfl⟩:=s.sl.form;have C:=ta hp F.f196 F.f257 (h:={H with log:=[]}) (.of W) ((s.ext x0).log []) hn (g:=197) (cap:=[.pointer (some ⟨h.next,0,none⟩)]) (λy=> !decide (y=x)&&sIn y x) λy hy=>Ip F (h:={H with log:=[]}) (.of W) hx (s.ok y hy) g0;unfold uT;refine Y4 ?_;refine FW.pu C ?_;clear C;refine Y3 ?_;exact aA hL rfl rfl
theorem vT{l:List (List Nat)}{i:Nat}{x:List Nat}(f:List Nat->List Nat)(hi:l[i]? =some x):((l.take i).map f++l.drop i).set i (f x)=(l.take (i+1)).map f++l.drop (i+1):=by
 obtain⟨hlt,hx⟩:=List.getElem?_eq_some_iff.1 hi;have hl:((l.take i).map f).length=i:=by rw[List.length_map,List.length_take];omega
 rw[List.drop_eq_getElem_cons hlt,List.set_append_right _ _ (Nat.le_of_eq hl),hl,Nat.sub_self,List.set_cons_zero,gN hi,List.map_append,List.append_assoc];rfl
theorem AJ{l:List (List Nat)}{i:Nat}{x:List Nat}(f:List Nat->List Nat)(hi:l[i]? =some x):((l.take i).map f++l.drop i)[i]? =some x:=by
 have hlt:=(List.getElem?_eq_some_iff.1 hi).1;rw[List.getElem?_append_right (by simp;omega),List.getElem?_drop,List.length_map,List.length_take,Nat.min_eq_left (by omega),Nat.sub_self,Nat.add_zero,hi]
theorem OwS.wr{lo base p:Nat}{h:Heap}{v:Value}{l:List (List Nat)}{ob:bC}(q:OwS lo h v l)(hz:∀z,vB v z->z≠p):OwS lo (h.wr base p ob) v l:=by
 rcases q with q|⟨b,c,t,h1,h2,h3,rfl,h4⟩
 ·exact .inl q
 ·exact .inr ⟨b,c,t,h1,h2,(z5 (hz b ⟨_,_,rfl⟩)).trans h3,rfl,h4⟩
theorem OwS.ne{lo p:Nat}{h:Heap}{v:Value}{l:List (List Nat)}{vs:List Value}{own:Bool}(q:OwS lo h v l)(g:h.get p=some (.cells vs own 1)):∀z,vB v z->z≠p:=by
 rintro z ⟨m,c,hv⟩ rfl;rcases q with⟨rfl,_⟩|⟨b,c',t,h1,h2,h3,rfl,h4⟩
 ·cases hv
 ·cases hv;rw[g]at h3;cases h3
theorem KP(F:zM T){h:Heap}(hr:Rdy h)(hg:Tab h)(h2:2<h.next){w:List Nat×List Nat}(hw:IsW w){o:List Nat}(ho:IsS o):Al T 92 [wV w,sv o] h λv h'=>OwS h.next h' v (ei w o):=by
 have hp:=F.pl.fi.ft.li.p;refine .of hp F.f92 hr (λv h1 hv q=>OwS.flat hv q) ?_;have hwc:cellsOf (wV w)=wL w:=by show(wL w).toArray.toList=_;simp
 have g0:((h.push (.cells (cellsOf (wV w)) true 1)).push (.cells (cellsOf (sv o)) true 1)).get h.next=some (.cells (wL w) true 1):=by rw[hwc];exact(z4 (Nat.lt_succ_self _)).trans (z3 h _)
 have g1:((h.push (.cells (cellsOf (wV w)) true 1)).push (.cells (cellsOf (sv o)) true 1)).get (h.next+1)=some (.cells (us o) true 1):=z3 _ _;have n0:((h.push (.cells (cellsOf (wV w)) true 1)).push (.cells (cellsOf (sv o)) true 1)).next=h.next+2:=rfl
 have x0:Ext h ((h.push (.cells (cellsOf (wV w)) true 1)).push (.cells (cellsOf (sv o)) true 1)):=((Ext.refl h).push _).push _;refine Y5 ?_;generalize((h.push (.cells (cellsOf (wV w)) true 1)).push (.cells (cellsOf (sv o)) true 1))=H at*;have W:=x0.wf hr.wf;have hL:=x0.log.trans hr.log;have wk:=qq hw;have wkl:=lB hw;have wa:=Fl hw;have wb:=CB hw;have wka:=aO hw.a.len;have wkb:=aO hw.b.len;have k8:=aO ho.len;have k9:=bn ho.len;have C1:=Iv F.pl (h:={H with log:=[]}) (.of W) (show Tab H from hg.ext x0 h2) (by show 2<H.next;omega) hw.b ho;have hok0:∀x∈qg w.2 o,IsS x:=λx hx=>y7 hx;have hlen0:=AX w.2 o;have hA:pQ w o=ddS (eC ((qg w.2 o).map λp=>eX p w.1)):=rfl;have hAl:=wO w o;have hAok:∀x∈pQ w o,IsS x:=λx hx=>uW hw hx;unfold ei;generalize pQ w o=r at*;generalize qg w.2 o=l at*;refine Y5 ?_;refine FW.al C1 (λv h' m q=>q) ?_;rintro _ H1 x1 ⟨u,rfl,q1⟩;have q1:OwS H.next H1 u l:=q1
 clear C1;have ey1:=x0.trans x1;have n1:=x1.next
 have g01:=(x1.old _ (by omega)).trans g0;have x2:=eT (h:=H1) (base:=h.next) (by omega) (.cells [.slice none 0 0] true 1) (.cells [u] true 1);have g5:=fQ (h:=H1) (base:=h.next) [.slice none 0 0] [u];have n2:((H1.push (.cells [.slice none 0 0] true 1)).wr h.next H1.next (.cells [u] true 1)).next=H1.next+1:=rfl
 obtain⟨a,c,rfl⟩:=q1.form;clear g0 g1;refine Y7 ?_;refine WE.Eb ?_;intro H2 hH2;have e2:H2=((H1.push (.cells [.slice none 0 0] true 1)).wr h.next H1.next (.cells [.slice a l.length c] true 1)):=hH2;rw[←e2]at x2 g5 n2;clear hH2 e2;have ey2:=ey1.trans x2;have W2:=ey2.wf hr.wf;have hL2:=ey2.log.trans hr.log;have g02:=(x2.old _ (by omega)).trans g01;have q2:=q1.ext x2;refine ef (E0:=[(2, .pointer (some ⟨h.next,0,none⟩)),(5, .pointer (some ⟨H1.next,0,none⟩)),(16, .int .i64 (l.length:Nat)),(17, .int .i64 (l.length:Nat)),(18, .bool false)]) (P:=λh'=>WF h'∧h'.log=[]/\H2.next<=h'.next/\(∀z,z<H.next->h'.get z=H2.get z)/\h'.get H1.next=some (.cells [.slice a l.length c] true 1)/\OwS H.next h' (.slice a l.length c) (l.map λp=>eX p w.1)) ?_ ?_
 ·rcases q2 with⟨hv,rfl⟩|⟨b,c',tl,hb1,hb2,hb3,hv,hcl,hcu⟩
  ·cases hv;refine Y6 ?_;refine cF (λmm e ds h'=>0=mm/\e=[(2, .pointer (some ⟨h.next,0,none⟩)),(5, .pointer (some ⟨H1.next,0,none⟩)),(16, .int .i64 0),(17, .int .i64 0)]/\ds=[]/\H2=h') ⟨rfl,rfl,rfl,rfl⟩ ?_;rintro mm e ds _ ⟨rfl,rfl,rfl,rfl⟩;refine Y9 ?_;exact⟨rfl,rfl,rfl,W2,hL2,Nat.le_refl _,λ_ _=>rfl,g5, .inl ⟨rfl,rfl⟩⟩
  ·cases hv;have hb0:b<H1.next:=(q1.vb ⟨_,_,rfl⟩).2
   refine Y6 ?_
   refine cF (λmm e ds h'=>∃i:Nat,i<=l.length/\l.length-i=mm/\e=[(2, .pointer (some ⟨h.next,0,none⟩)),(5, .pointer (some ⟨H1.next,0,none⟩)),(16, .int .i64 (l.length:Nat)),(17, .int .i64 (i:Nat))]/\ds=[]/\WF h'∧h'.log=[]/\H2.next=h'.next/\(∀z,z≠b->h'.get z=H2.get z)/\h'.get b=some (.cells (ssL ((l.take i).map (λp=>eX p w.1)++l.drop i)++tl) true 8))
    ⟨0,Nat.zero_le _,rfl,rfl,rfl,W2,hL2,rfl,λ_ _=>rfl,hb3⟩ ?_
   rintro mm e ds H3 ⟨i,hi,rfl,rfl,rfl,w3,l3,n3,o3,gb⟩;have g53:=(o3 H1.next (by omega)).trans g5;have g03:=(o3 h.next (by omega)).trans g02;by_cases hlt:i<l.length
   ·obtain⟨x,hx⟩:∃x,l[i]? =some x:=⟨l[i],List.getElem?_eq_getElem hlt⟩;have hxs:=hok0 x (List.mem_of_getElem? hx);have hokm:∀y∈(l.take i).map (λp=>eX p w.1)++l.drop i,IsS y:=λy hy=>by
     rcases List.mem_append.1 hy with hy|hy
     ·obtain⟨p,hp,rfl⟩:=List.mem_map.1 hy;exact(hok0 p (List.mem_of_mem_take hp)).less hw.a
     ·exact hok0 y (List.mem_of_mem_drop hy)
    have hml:((l.take i).map (λp=>eX p w.1)++l.drop i).length=l.length:=by
     rw[List.length_append,List.length_map,List.length_take,List.length_drop];omega
    have rx:=pq (t:=tl) hokm (AJ _ hx);have hset:=vT (λp=>eX p w.1) hx;have hls:=hxs.less hw.a;have C:=Kx hp F.f124 (h:={H3 with log:=[]}) (.of w3) hxs hw.a;have kc:=zC (t:=tl) hokm hls (i:=i) (by omega);have kw:cM (ssL ((l.take i).map (λp=>eX p w.1)++l.drop i)++tl) (0+i*8) (cellsOf (sv (eX x w.1)))=ssL ((l.take (i+1)).map (λp=>eX p w.1)++l.drop (i+1))++tl:=by
     have e:cellsOf (sv (eX x w.1))=us (eX x w.1):=by show(us (eX x w.1)).toArray.toList=_;simp
     rw[e,zA hokm hls (by omega),hset]
    have kx:=aO hxs.len;have mlt:aq .lss (.int .i64 (i:Nat)) (.int .i64 (l.length:Nat))=some (.bool true):=fR (by omega);generalize eX x w.1=lx at*;generalize(l.take i).map (λp=>eX p w.1)++l.drop i=m at*;obtain rfl:=hcu (λq=>by rw[q]at hlt;simp at hlt);refine Y23 ?_;refine FW.puD C (by(repeat apply aN rfl);apply aL rfl (au rfl (iK (by exact rfl)) (by exact gQ _ _)) rfl;apply aL rfl (au rfl (dh (by exact rfl) (by assumption) (by exact rfl)) (by exact mD _ _ _)) rfl;exact bJ) ?_;clear C;refine qI ?_;refine ij rfl rfl rfl (by exact rfl) (by exact rfl) (by exact rfl) gb kc kw (by omega) (by(repeat apply aN rfl);exact bJ) ?_;refine Y8 ?_;exact⟨l.length-(i+1),by omega,i+1,by omega,rfl,rfl,rfl,w3.as (AS.wr h.next _ _ _),(Heap.aB (by omega)).trans l3,n3,λz hz=>(z5 hz).trans (o3 z hz),by rw[z6,gb];rfl⟩
   ·obtain rfl:i=l.length:=by omega
    have mlt:aq .lss (.int .i64 (l.length:Nat)) (.int .i64 (l.length:Nat))=some (.bool false):=gj (by omega);rw[List.take_length,List.drop_length,List.append_nil]at gb;refine Y9 ?_;refine⟨rfl,rfl,rfl,w3,l3,by omega,λz hz=>o3 z (by omega),g53, .inr ⟨b,c,tl,hb1,by omega,gb,by rw[List.length_map],by rw[List.length_map];exact hcl,λq=>hcu λq2=>q (by rw[q2];rfl)⟩⟩
 have hvb:∀z,vB (.slice a l.length c) z->H.next<=z/\z<H1.next:=λz hz=>q1.vb hz
 rintro H3 ⟨w3,l3,n3,o3,g53,q3⟩;clear q2 q1 g5 g01;have g03:=(o3 _ (by omega)).trans g02;have hokm:∀y∈l.map (λp=>eX p w.1),IsS y:=λy hy=>by
  obtain⟨p,hp,rfl⟩:=List.mem_map.1 hy;exact(hok0 p hp).less hw.a
 have hlm:(l.map λp=>eX p w.1).length=l.length:=List.length_map _;generalize hll:l.map (λp=>eX p w.1)=lm at*;have hlm2:lm.length<1000000:=by omega
 have C2:=Dj F.pl.f189 (.inr rfl) (h:={H3 with log:=[]}) (q3.log []) hokm hlm2;refine Y3 ?_;refine FW.gs0 C2 (λv h' m q=>q.log m) (λz hz=>by have:=(q3.vb hz).1;omega) ?_;rintro v4 H4 n4 l4 o4 w4 q4;clear C2;have W4:=w4 w3;have g54:=(o4 H1.next (by omega) (λq=>by have:=(hvb _ q).2;omega)).trans g53;have hok4:∀x∈eC lm,IsS x:=λx hx=>hokm x (ig.1 hx);have C3:=uw hp F.pl.f192 (h:={H4 with log:=[]}) (.of W4) (q4.log []) hok4 (by rw[jq];exact hlm2);rw[←hA]at C3;refine Y4 ?_;refine FW.gs0 C3 (λv h' m q=>q.log m) (λz hz=>by have:=(q4.vb hz).1;omega) ?_;rintro v5 H5 n5 l5 o5 w5 q5;clear C3;have W5:=w5 W4;have hL5:=l5.trans (l4.trans l3);have g55:=(o5 H1.next (by omega) (λq=>by have:=(hvb _ q).2;omega)).trans g54;have ne5:=q5.ne g55;obtain⟨a5,c5,rfl⟩:=q5.form;have hn1:H1.next<H5.next:=by omega
 have q6:=q5.wr (base:=h.next) (ob:= .cells [.slice a5 r.length c5] true 1) ne5;have g56:(H5.wr h.next H1.next (.cells [.slice a5 r.length c5] true 1)).get H1.next=some (.cells [.slice a5 r.length c5] true 1):=by rw[z6,g55];rfl
 have W6:WF (H5.wr h.next H1.next (.cells [.slice a5 r.length c5] true 1)):=W5.as (AS.wr h.next _ _ _);have hL6:(H5.wr h.next H1.next (.cells [.slice a5 r.length c5] true 1)).log=[]:=(Heap.aB (by omega)).trans hL5;have n6:(H5.wr h.next H1.next (.cells [.slice a5 r.length c5] true 1)).next=H5.next:=rfl
 clear q5 q4 q3 g54 g53;refine Y2 ?_;clear g55;refine WE.Eb ?_;intro H6 hH6;have e6:H6=H5.wr h.next H1.next (.cells [.slice a5 r.length c5] true 1):=hH6
 rw[←e6]at q6 g56 W6 hL6 n6;clear hH6 e6;have hrl:r.length<1000000:=by omega
 have C4:=Gj hp F.f194 (h:={H6 with log:=[]}) (.of W6) ((q6.ss hAok).log []) hrl;refine Y3 ?_;refine FW.al C4 (λv h' m q=>q.log m) ?_;rintro v7 H7 x7 q7;have q7:OwS H6.next H7 v7 r:=q7
 clear C4;have W7:=x7.wf W6;have hL7:=x7.log.trans hL6;have n7:=x7.next
 have C5:=DZ hp F.f193 F.f257 (h:={H7 with log:=[]}) (.of W7) (lo:=H6.next) (q7.log []) hAok hrl (g:=195) (cap:=[.pointer (some ⟨H1.next,0,none⟩)]) (uT r) λh' w hnn hold x hx=>
  KL F (h:={h' with log:=[]}) (.of w) (q:=H1.next) (v:= .slice a5 r.length c5) ((OwS.ss (q6.keep (h':=h') (by have:H7.next<=h'.next:=hnn;omega) λz _ hz=>(hold z hz).trans (x7.old z hz)) hAok).log []) hrl hx ((hold _ (by omega)).trans ((x7.old _ (by omega)).trans g56))
 refine Y2 ?_;refine FW.gs0 C5 (λv h' m q=>q.log m) (λz hz=>by have:=(q7.vb hz).1;omega) ?_;rintro v8 H8 n8 l8 o8 w8 q8;clear C5;refine Y3 ?_;exact dy (l8.trans hL7) rfl (q8.low (by omega))
def pP(w:List Nat×List Nat):Bool:=decide (64<((dJ w.2:Nat):Int)-((dJ w.1:Nat):Int))
theorem Gk(s:List Nat):dJ s<=512:=kA s 512
structure FB (T:Nat->Option af):Prop where
 nd:zM T
 f22:T 22=some f22
 f89:T 89=some f89
 f90:T 90=some f90
 f91:T 91=some f91
theorem OT(F:FB T){h:Heap}(hr:Rdy h){w:List Nat×List Nat}(hw:IsW w):Pu T 89 [wV w] h (.bool (sIn w.1 w.2)):=by
 have hp:=F.nd.pl.fi.ft.li.p;refine .of hp F.f89 hr rfl ?_;have hwc:cellsOf (wV w)=wL w:=by show(wL w).toArray.toList=_;simp
 have g0:(h.push (.cells (cellsOf (wV w)) true 1)).get h.next=some (.cells (wL w) true 1):=by rw[hwc];exact z3 h _
 have W:WF (h.push (.cells (cellsOf (wV w)) true 1)):=hr.wf.push _;have hL:(h.push (.cells (cellsOf (wV w)) true 1)).log=[]:=hr.log;refine Y4 ?_;generalize(h.push (.cells (cellsOf (wV w)) true 1))=H at*;have C:=vR hp F.nd.f35 F.nd.f121 (h:={H with log:=[]}) (.of W) hw.a hw.b;have wa:=Fl hw;have wb:=CB hw;have wka:=aO hw.a.len;have wkb:=aO hw.b.len;refine Y6 ?_;refine FW.pu C ?_;refine Y3 ?_;exact aA hL rfl rfl
theorem NB(F:FB T){h:Heap}(hr:Rdy h){w:List Nat×List Nat}(hw:IsW w):Pu T 91 [wV w] h (.bool (pP w)):=by
 have hp:=F.nd.pl.fi.ft.li.p;refine .of hp F.f91 hr rfl ?_;have hwc:cellsOf (wV w)=wL w:=by show(wL w).toArray.toList=_;simp
 have g0:(h.push (.cells (cellsOf (wV w)) true 1)).get h.next=some (.cells (wL w) true 1):=by rw[hwc];exact z3 h _
 have W:WF (h.push (.cells (cellsOf (wV w)) true 1)):=hr.wf.push _;have hL:(h.push (.cells (cellsOf (wV w)) true 1)).log=[]:=hr.log;refine Y4 ?_;generalize(h.push (.cells (cellsOf (wV w)) true 1))=H at*;have C1:=lT F.nd.pl.fi.ft.co (h:={H with log:=[]}) (.of W) hw.b;have C2:=lT F.nd.pl.fi.ft.co (h:={H with log:=[]}) (.of W) hw.a;have wa:=Fl hw;have wb:=CB hw;have wka:=aO hw.a.len;have wkb:=aO hw.b.len;have b1:=Gk w.1;have b2:=Gk w.2;have m1:aq .sub (.int .i64 ((dJ w.2:Nat):Int)) (.int .i64 ((dJ w.1:Nat):Int))=some (.int .i64 (((dJ w.2:Nat):Int)-((dJ w.1:Nat):Int))):=jG (bK (by omega) (by omega));have m2:aq .gtr (.int .i64 (((dJ w.2:Nat):Int)-((dJ w.1:Nat):Int))) (.int .i64 64)=some (.bool (pP w)):=by
  unfold pP;by_cases q:64<((dJ w.2:Nat):Int)-((dJ w.1:Nat):Int)
  ·rw[decide_eq_true q];exact kI q
  ·rw[decide_eq_false q];exact jM (by omega)
 generalize((dJ w.2:Nat):Int)-((dJ w.1:Nat):Int)=d at*;refine Y7 ?_;refine FW.puD C1 (by apply aL rfl (au rfl (cA (by exact rfl) (by assumption) (by assumption) (by assumption)) (by exact nu _)) rfl;apply aL rfl (au rfl (cT (by exact rfl)) (by exact cE _)) rfl;(repeat apply aN rfl);exact bJ) ?_;clear C1;skip;refine qC ?_;refine FW.puD C2 (by(repeat apply aN rfl);exact bJ) ?_;clear C2;refine Y7 ?_;exact aA hL rfl rfl
structure Ms (T:Nat->Option af):Prop where
 cr:CK T
 f20:T 20=some f20
 f84:T 84=some f84
def jL(s:List Nat):Bool:= !(decide (0<dJ s/\dJ s<40)||decide (60<dJ s))
def uO(w:List Nat×List Nat)(l:List (List Nat)):Bool:=if dJ w.2<=60 then decide (l.length<=8)else l.all jL&&decide (l.length<=8)
theorem KC(F:Ms T){h:Heap}(hr:Rdy h){w:List Nat×List Nat}(hw:IsW w){a:Option Addr}{n c:Nat}{l:List (List Nat)}(s:SsQ h (.slice a n c) l)(hn:n<4611686018427387904):Pu T 20 [wV w, .slice a n c] h (.bool (uO w l)):=by
 have hp:=F.cr.hr.p;refine .of hp F.f20 hr rfl ?_;obtain rfl:n=l.length:=by
  rcases bY.inv s.sl with⟨_,hv,h0,_⟩|⟨b,o,cap,hv,s1,hc⟩
  ·cases hv;exact h0.symm
  ·cases hv;rfl
 have hwc:cellsOf (wV w)=wL w:=by show(wL w).toArray.toList=_;simp
 have x0:Ext h (h.push (.cells (cellsOf (wV w)) true 1)):=(Ext.refl h).push _;have g0:(h.push (.cells (cellsOf (wV w)) true 1)).get h.next=some (.cells (wL w) true 1):=by rw[hwc];exact z3 h _
 refine Y4 ?_;generalize(h.push (.cells (cellsOf (wV w)) true 1))=H at*;have W:=x0.wf hr.wf;have hL:=x0.log.trans hr.log;have wb:=CB hw;have wkb:=aO hw.b.len;have C:=CZ F.cr F.f84 (h:={H with log:=[]}) (.of W) hw.b;have m8:aq .leq (.int .i64 (l.length:Nat)) (.int .i64 8)=some (.bool (decide (l.length<=8))):=by
  by_cases q:l.length<=8
  ·rw[decide_eq_true q];exact lK (by omega)
  ·rw[decide_eq_false q];exact lJ (by omega)
 have s1:=s.ext x0;unfold uO;by_cases h60:dJ w.2<=60
 ·rw[if_pos h60];have m6:aq .leq (.int .i64 ((dJ w.2:Nat):Int)) (.int .i64 60)=some (.bool true):=lK (by omega);refine Y5 ?_;refine FW.pu C ?_;refine Y11 ?_;exact aA hL rfl rfl
 rw[if_neg h60];have m6:aq .leq (.int .i64 ((dJ w.2:Nat):Int)) (.int .i64 60)=some (.bool false):=lJ (by omega);refine Y5 ?_;refine FW.pu C ?_;clear C m6;refine Y10 ?_
 refine cF (λm e ds h'=>∃j:Nat,j<=l.length/\l.length-j=m/\e=[(1, .slice a l.length c),(5, .int .i64 (j:Nat))]/\ds=[]/\H=h'∧(l.take j).all jL=true)
  ⟨0,Nat.zero_le _,rfl,rfl,rfl,rfl,rfl⟩ ?_
 rintro m e ds _ ⟨j,hj,rfl,rfl,rfl,rfl,hall⟩;by_cases hlt:j<l.length
 ·obtain⟨x,hx⟩:∃x,l[j]? =some x:=⟨l[j]'hlt,List.getElem?_eq_getElem _⟩;have hxm:=List.mem_of_getElem? hx;have hxs:=s.ok x hxm;obtain⟨b,o,c2,vs,own,tt,hv,gl,hbl,el⟩:=s1.elem hx;cases hv;have k8:=aO hxs.len;have C:=CZ F.cr F.f84 (h:={H with log:=[]}) (.of W) hxs;have mlt:aq .lss (.int .i64 (j:Nat)) (.int .i64 (l.length:Nat))=some (.bool true):=fR (by omega);have hnot:jL x=false->l.all jL=false:=λq=>by
   rw[List.all_eq_false];exact⟨x,hxm,by rw[q];simp⟩
  by_cases p0:0<dJ x
  ·have m1:aq .gtr (.int .i64 ((dJ x:Nat):Int)) (.int .i64 0)=some (.bool true):=kI (by omega);by_cases p4:dJ x<40
   ·have m2:aq .lss (.int .i64 ((dJ x:Nat):Int)) (.int .i64 40)=some (.bool true):=fR (by omega);have e:jL x=false:=by unfold jL;rw[decide_eq_true ⟨p0,p4⟩];rfl
    rw[hnot e];refine Y18 ?_;refine FW.pu C ?_;refine Y26 ?_;exact aA hL rfl rfl
   ·have m2:aq .lss (.int .i64 ((dJ x:Nat):Int)) (.int .i64 40)=some (.bool false):=gj (by omega);by_cases p6:60<dJ x
    ·have m3:aq .gtr (.int .i64 ((dJ x:Nat):Int)) (.int .i64 60)=some (.bool true):=kI (by omega);have e:jL x=false:=by unfold jL;rw[decide_eq_true p6];simp
     rw[hnot e];refine Y18 ?_;refine FW.pu C ?_;refine Y28 ?_;exact aA hL rfl rfl
    ·have m3:aq .gtr (.int .i64 ((dJ x:Nat):Int)) (.int .i64 60)=some (.bool false):=jM (by omega);have e:jL x=true:=by unfold jL;rw[decide_eq_false p6,decide_eq_false (λq=>p4 q.2)];rfl
     refine Y18 ?_;refine FW.pu C ?_;refine Y27 ?_;refine⟨l.length-(j+1),by omega,j+1,by omega,rfl,rfl,rfl,rfl,?_⟩;rw[gN hx,List.all_append,hall];simp[e]
  ·have m1:aq .gtr (.int .i64 ((dJ x:Nat):Int)) (.int .i64 0)=some (.bool false):=jM (by omega);have m3:aq .gtr (.int .i64 ((dJ x:Nat):Int)) (.int .i64 60)=some (.bool false):=jM (by omega);have e:jL x=true:=by unfold jL;rw[decide_eq_false (show¬60<dJ x by omega),decide_eq_false (λq=>p0 q.1)];rfl
   refine Y18 ?_;refine FW.pu C ?_;refine Y25 ?_;refine⟨l.length-(j+1),by omega,j+1,by omega,rfl,rfl,rfl,rfl,?_⟩;rw[gN hx,List.all_append,hall];simp[e]
 ·obtain rfl:j=l.length:=by omega
  rw[List.take_length]at hall;rw[hall,Bool.true_and];have mlt:aq .lss (.int .i64 (l.length:Nat)) (.int .i64 (l.length:Nat))=some (.bool false):=gj (by omega);refine Y20 ?_;exact aA hL rfl rfl
theorem DU(hp:aR T)(hf:T 32=some f32)(hf1:T 118=some f118)(hf2:T 119=some f119){h:Heap}(hr:Rdy h){w:List Nat×List Nat}(hw:IsW w){s:List Nat}(hs:IsS s):Pu T 32 [wV w,sv s] h (sv (eW w.1 (kN s w.2))):=by
 refine .of hp hf hr (fH _) ?_;have hwc:cellsOf (wV w)=wL w:=by show(wL w).toArray.toList=_;simp
 have g0:(((h.push (.cells (cellsOf (wV w)) true 1)).push (.cells (cellsOf (sv s)) true 1)).push (.cells (aK 8 (.int .u64 0)) true 1)).get h.next=some (.cells (wL w) true 1):=by
  rw[hwc,z4 (by show h.next<h.next+2;omega),z4 (Nat.lt_succ_self _)];exact z3 h _
 have g1:(((h.push (.cells (cellsOf (wV w)) true 1)).push (.cells (cellsOf (sv s)) true 1)).push (.cells (aK 8 (.int .u64 0)) true 1)).get (h.next+1)=some (.cells (us s) true 1):=YG;have g2:(((h.push (.cells (cellsOf (wV w)) true 1)).push (.cells (cellsOf (sv s)) true 1)).push (.cells (aK 8 (.int .u64 0)) true 1)).get (h.next+2)=some (.cells (us s0) true 1):=YG;have n0:(((h.push (.cells (cellsOf (wV w)) true 1)).push (.cells (cellsOf (sv s)) true 1)).push (.cells (aK 8 (.int .u64 0)) true 1)).next=h.next+3:=rfl
 have x0:Ext h (((h.push (.cells (cellsOf (wV w)) true 1)).push (.cells (cellsOf (sv s)) true 1)).push (.cells (aK 8 (.int .u64 0)) true 1)):=(((Ext.refl h).push _).push _).push _;refine Y5 ?_;generalize(((h.push (.cells (cellsOf (wV w)) true 1)).push (.cells (cellsOf (sv s)) true 1)).push (.cells (aK 8 (.int .u64 0)) true 1))=H at*;have W:=x0.wf hr.wf;have hL:=x0.log.trans hr.log;have wa:=Fl hw;have wb:=CB hw;have wka:=aO hw.a.len;have wkb:=aO hw.b.len;have k8:=aO hs.len;have k9:=bn hs.len;have C1:=I4 hp hf2 (h:={H with log:=[]}) (.of W) hs hw.b;have hmt:=hs.meet hw.b;have C2:=I2 hp hf1 (h:={H with log:=[]}) (.of W) hw.a hmt;have hj:=hw.a.join hmt;generalize kN s w.2=mt at*;generalize eW w.1 mt=jn at*;have kj:=aO hj.len;have kj9:=bn hj.len;have kjl:=hj.len;refine Y8 ?_;refine FW.puD C1 (by(repeat apply aN rfl);apply aL rfl (au rfl (cA (by exact rfl) (by assumption) (by assumption) (by assumption)) (by exact nu _)) rfl;apply aL rfl (au rfl (cT (by exact rfl)) (by exact cE _)) rfl;exact bJ) ?_;clear C1;skip;refine qC ?_;refine FW.puD C2 (by(repeat apply aN rfl);exact bJ) ?_;clear C2;refine lu rfl rfl rfl (by exact rfl) (by exact rfl) (by exact rfl) (by assumption) (by(simp only[aD];assumption)) (by exact rfl) (by exact cI _) (by(simp only[z1,z2];omega)) (by(simp only[z1,z2];omega)) (by exact bJ) ?_;refine oD ?_;refine Y3 ?_;refine aA ?_ (bW (own:=true) (s:=1) rfl ?_ kj9 kj rfl) rfl
 ·rw[Heap.aB (by show h.next<=h.next+2;omega)];exact hL
 ·exact YG
structure Pb where
 cells:List Nat
 cost:Int
def pbL(p:Pb):List Value:=us p.cells++[.int .i64 p.cost]
def pbV(p:Pb):Value:= .agg (pbL p).toArray
def y6(l:List Pb):List Value:=l.flatMap pbL
theorem jo{p:Pb}(h:IsS p.cells):(pbL p).length=9:=by simp[pbL,aD,h.len]
theorem AV{p:Pb}(h:IsS p.cells):bN (pbL p) (0+8)=some (.int .i64 p.cost):=by
 rw[cD];show(us p.cells++[Value.int .i64 p.cost])[8]? =_;rw[List.getElem?_append_right (by rw[aD,h.len];omega),aD,h.len];rfl
theorem oZ{p:Pb}(h:IsS p.cells):cu 8 (bM (0+0) (pbL p))=us p.cells:=by
 rw[bU,bg];show(us p.cells++[Value.int .i64 p.cost]).take 8=_;rw[List.take_append_of_le_length (by rw[aD,h.len];omega),List.take_of_length_le (by rw[aD,h.len];omega)]
theorem ve{p:Pb}(h:IsS p.cells):Nat.beq (bG (pbL p)) 9=true:=by rw[bO,jo h];rfl
theorem AW(p:Pb):dX (pbL p)=true:=og (cI _) rfl
theorem It:∀{l:List Pb} {i:Nat} {p:Pb},(∀p∈l,IsS p.cells)->l[i]? =some p->((y6 l).drop (i*9)).take 9=pbL p
 |[],i,p,_,h=>by simp at h
 |q::l,0,p,hl,h=>by
  simp at h;subst h;have e:y6 (q::l)=pbL q++y6 l:=rfl;have:=jo (hl q List.mem_cons_self);rw[e,Nat.zero_mul,List.drop_zero,List.take_append_of_le_length (by omega),List.take_of_length_le (by omega)]
 |q::l,i+1,p,hl,h=>by
  have e:y6 (q::l)=pbL q++y6 l:=rfl;have e8:=jo (hl q List.mem_cons_self);have e2:(pbL q++y6 l).drop 9=y6 l:=by rw[←e8];exact List.drop_left
  rw[e,show(i+1)*9=9+i*9 by omega,←List.drop_drop,e2];exact It (λs hs=>hl s (List.mem_cons_of_mem _ hs)) (by simpa using h)
structure MW (vs:List Value) (o:Nat) (p:Pb):Prop where
 all:cu 9 (bM o vs)=pbL p
 cells:cu 8 (bM (o+0) vs)=us p.cells
 cost:bN vs (o+8)=some (.int .i64 p.cost)
theorem MW.mk'{vs:List Value}{o:Nat}{p:Pb}(hp:IsS p.cells)(h:(vs.drop o).take 9=pbL p):MW vs o p:=by
 refine⟨by rw[bU,bg];exact h,?_,?_⟩
 ·have:=oZ hp;rw[←this,bU,bg,bU,bg,←h,List.drop_take,List.drop_drop,List.take_take];rfl
 ·have:=AV hp;rw[←this,cD,cD,←h,List.getElem?_take_of_lt (by omega),List.getElem?_drop,Nat.zero_add]
structure PbS (h:Heap) (v:Value) (l:List Pb):Prop where
 sl:bY h 9 v l.length (y6 l)
 ok:∀p∈l,IsS p.cells
theorem PbS.elem{h:Heap}{v:Value}{l:List Pb}(s:PbS h v l){i:Nat}{p:Pb}(hi:l[i]? =some p):
 ∃b o c vs own t,v= .slice (some ⟨b,o,none⟩) l.length c/\h.get b=some (.cells vs own t)/\b<h.next/\MW vs (o+i*9) p:=by
 have hlt:=(List.getElem?_eq_some_iff.1 hi).1;rcases bY.inv s.sl with⟨_,_,h0,_⟩|⟨b,o,cap,hv,s1,hc⟩
 ·omega
 ·obtain⟨vs,own,t,g1,g2⟩:=s1.obj;refine⟨b,o,cap,vs,own,t,hv,g1,s1.lt, .mk' (s.ok p (List.mem_of_getElem? hi)) ?_⟩;rw[←It s.ok hi,←g2];simp only[bU,bg,List.drop_take,List.take_take,List.drop_drop];congr 1;omega
theorem PbS.form{h:Heap}{v:Value}{l:List Pb}(s:PbS h v l):∃a c,v= .slice a l.length c:=s.sl.form
theorem PbS.ext{h h':Heap}{v:Value}{l:List Pb}(s:PbS h v l)(x:Ext h h'):PbS h' v l:=⟨s.sl.ext x,s.ok⟩
theorem PbS.log{h:Heap}{v:Value}{l:List Pb}(s:PbS h v l)(m:List Nat):PbS {h with log:=m} v l:=⟨s.sl.log m,s.ok⟩
def kL(p:Pb):Bool:=decide (p.cells=s0)|| !inR p.cost 1 1000
def prE(l:List Pb):Int:=if 8<l.length then 2 else if l.any kL then 1 else 0
def uK(P:Pb->Bool):List Pb->Nat->Int
 |[],_=> -1
 |r::l,i=>if P r then(i:Int)else uK P l (i+1)
theorem Ee(P:Pb->Bool){l:List Pb}{i:Nat}{r:Pb}(hi:l[i]? =some r):uK P (l.drop i) i=if P r then(i:Int)else uK P (l.drop (i+1)) (i+1):=by
 obtain⟨hlt,rfl⟩:=List.getElem?_eq_some_iff.1 hi;rw[List.drop_eq_getElem_cons hlt,uK]
theorem GN(P:Pb->Bool)(l:List Pb):uK P (l.drop l.length) l.length= -1:=by
 rw[List.drop_length];rfl
theorem Ar(P:Pb->Bool):∀(l:List Pb) (i:Nat),decide (0<=uK P l i)=l.any P
 |[],_=>rfl
 |r::l,i=>by
  rw[uK,List.any_cons];by_cases h:P r=true
  ·rw[if_pos h,h,Bool.true_or];exact decide_eq_true (by omega)
  ·rw[if_neg h,Ar P l (i+1)];have:P r=false:=by simpa using h
   rw[this,Bool.false_or]
structure CI (T:Nat->Option af):Prop where
 p:aR T
 f62:T 62=some f62
 f90:T 90=some f90
 f106:T 106=some f106
 f155:T 155=some f155
 f156:T 156=some f156
 f231:T 231=some f231
theorem M4(F:CI T){h:Heap}(hr:Rdy h){p:Pb}(hs:IsS p.cells):Pu T 156 [pbV p] h (.bool (kL p)):=by
 refine .of F.p F.f156 hr rfl ?_;have hpc:cellsOf (pbV p)=pbL p:=by show(pbL p).toArray.toList=_;simp
 have x0:Ext h (h.push (.cells (cellsOf (pbV p)) true 1)):=(Ext.refl h).push _;have g0:(h.push (.cells (cellsOf (pbV p)) true 1)).get h.next=some (.cells (pbL p) true 1):=by rw[hpc];exact z3 h _
 refine Y4 ?_;generalize(h.push (.cells (cellsOf (pbV p)) true 1))=H at*;have W:=x0.wf hr.wf;have hL:=x0.log.trans hr.log;have kc:=oZ hs;have kk:=aO hs.len;have kx:=AV hs;have C1:=C8 F.p F.f90 (h:={H with log:=[]}) (.of W) hs;have C2:=MF F.p F.f106 (h:={H with log:=[]}) (.of W) p.cost 1 1000;unfold kL;generalize decide (p.cells=s0)=b1 at*;generalize inR p.cost 1 1000=b2 at*;cases b1 with
 |true=>
  refine Y4 ?_;refine FW.pu C1 ?_;refine Y9 ?_;exact aA hL rfl rfl
 |false=>
  refine Y4 ?_;refine FW.pu C1 ?_;refine Y7 ?_;refine FW.pu C2 ?_;refine Y6 ?_;exact aA hL rfl rfl
theorem GR(F:CI T){h:Heap}(hr:Rdy h){v:Value}{l:List Pb}(s:PbS h v l)(hn:l.length<1000000){g:Nat}{cap:List Value}(P:Pb->Bool)
 (HP:∀r∈l,Pu T g (pbV r::cap) h (.bool (P r))):Pu T 231 [v, .func (.func g) #[] cap.toArray] h (.int .i64 (uK P l 0)):=by
 refine .of F.p F.f231 hr rfl ?_;obtain⟨a,c,rfl⟩:=s.form;refine Y10 ?_
 refine cF (λm e ds h'=>∃i:Nat,i<=l.length/\m=l.length-i/\e=[(0, .slice a l.length c),(1, .func (.func g) #[] cap.toArray),(7, .int .i64 (l.length:Nat)),(8, .int .i64 (i:Nat))]/\ds=[]/\h=h'∧uK P l 0=uK P (l.drop i) i)
  ⟨0,Nat.zero_le _,rfl,rfl,rfl,rfl,rfl⟩ ?_
 rintro m e ds _ ⟨i,hin,rfl,rfl,rfl,rfl,hi⟩;by_cases hlt:i<l.length
 ·obtain⟨r,hri⟩:∃r,l[i]? =some r:=⟨l[i],List.getElem?_eq_getElem hlt⟩;have hrm:=List.mem_of_getElem? hri;obtain⟨b,o,c2,vs,own,t,hv,g1,hb,g2⟩:=s.elem hri;cases hv;have k1:=g2.all;have k2:=ve (s.ok r hrm);have H:=HP r hrm;have mlt:aq .lss (.int .i64 (i:Nat)) (.int .i64 (l.length:Nat))=some (.bool true):=fR (by omega);rw[Ee P hri]at hi;refine Y19 ?_;refine ng (uc (all:=pbV r::cap) (by exact rfl) (by exact rfl) (by exact rfl) (by rw[dx,dx];simp[pbV])) ?_;refine FW.pu (by rw[hr.self];exact H) ?_;clear H HP;cases hpr:P r with
  |true=>
   rw[hpr,if_pos rfl]at hi;rw[hi];refine Y12 ?_;exact aA hr.log rfl rfl
  |false=>
   rw[hpr,if_neg (by simp)]at hi;refine Y9 ?_;exact⟨l.length-(i+1),by omega,i+1,by omega,rfl,rfl,rfl,rfl,hi⟩
 ·obtain rfl:i=l.length:=by omega
  have mlt:aq .lss (.int .i64 (l.length:Nat)) (.int .i64 (l.length:Nat))=some (.bool false):=gj (by omega);rw[GN]at hi;rw[hi];refine Y14 ?_;exact aA hr.log rfl rfl
theorem Kh(F:CI T){h:Heap}(hr:Rdy h){v:Value}{l:List Pb}(s:PbS h v l)(hn:l.length<1000000):Pu T 62 [v] h (.int .i64 (prE l)):=by
 refine .of F.p F.f62 hr rfl ?_;obtain⟨a,c,rfl⟩:=s.form;have hL:=hr.log;unfold prE;by_cases h8:8<l.length
 ·have m1:aq .gtr (.int .i64 (l.length:Nat)) (.int .i64 8)=some (.bool true):=kI (by omega);rw[if_pos h8];refine Y15 ?_;exact aA hL rfl rfl
 rw[if_neg h8];have m1:aq .gtr (.int .i64 (l.length:Nat)) (.int .i64 8)=some (.bool false):=jM (by omega);have C:Pu T 155 [.slice a l.length c, .func (.func 156) #[] #[]] {h with log:=[]} (.bool (l.any kL)):=by
  refine .of F.p F.f155 (.of hr.wf) rfl ?_;have C:=GR F (h:={h with log:=[]}) (.of hr.wf) (s.log []) hn (g:=156) (cap:=[]) kL λr hrm=>M4 F (.of hr.wf) (s.ok r hrm);rw[←Ar kL l 0];generalize uK kL l 0=z at C⊢;refine Y7 ?_;refine FW.pu C ?_;clear C;have m1:aq .geq (.int .i64 z) (.int .i64 0)=some (.bool (decide (0<=z))):=Dm;refine Y4 ?_;exact aA rfl rfl rfl
 cases hb:l.any kL with
 |true=>
  rw[hb]at C;rw[if_pos rfl];refine Y16 ?_;refine FW.pu C ?_;refine Y7 ?_;exact aA hL rfl rfl
 |false=>
  rw[hb]at C;rw[if_neg (by simp)];refine Y16 ?_;refine FW.pu C ?_;refine Y8 ?_;exact aA hL rfl rfl
def fL(f:List Nat):List Value:=f.map λk=> .int .u8 (k:Nat)
def fV(f:List Nat):Value:= .agg (fL f).toArray
theorem ji(f:List Nat):(fL f).length=f.length:=by simp[fL]
theorem qX:∀f:List Nat,dX (fL f)=true
 |[]=>rfl
 |_::f=>qX f
theorem Gv{f:List Nat}{i k:Nat}(h:f[i]? =some k):bN (fL f) (0+i*1)=some (.int .u8 (k:Nat)):=by
 rw[cD,Nat.zero_add,Nat.mul_one];simp[fL,h]
theorem si{f:List Nat}(h:f.length=8):cu 8 (bM 0 (fL f))=fL f:=by
 rw[bU,bg,List.drop_zero,List.take_of_length_le (by rw[ji];omega)]
theorem oS{f:List Nat}(h:f.length=8):Nat.beq (bG (fL f)) 8=true:=by rw[bO,ji,h];rfl
theorem MP(f:List Nat):iM (.agg (fL f).toArray) (.agg (fL f).toArray)=true:=by
 refine jO ?_;rw[List.toList_toArray];induction f with
 |nil=>rfl
 |cons p f ih=>exact cZ (dH _ _) ih
def quL(w:List Nat×List Nat)(pv nv ov mv:Value):List Value:=wL w++[pv,nv,ov,mv]
theorem Ck{w:List Nat×List Nat}(hw:IsW w)(pv nv ov mv:Value):(quL w pv nv ov mv).length=20:=by
 unfold quL;rw[List.length_append,iq hw];rfl
theorem QK{w:List Nat×List Nat}(hw:IsW w)(pv nv ov mv:Value):cu 16 (bM (0+0) (quL w pv nv ov mv))=wL w:=by
 have:=iq hw;unfold quL;rw[bU,bg,Nat.zero_add,List.drop_zero,List.take_append_of_le_length (by omega),List.take_of_length_le (by omega)]
theorem QH{w:List Nat×List Nat}(hw:IsW w)(pv nv ov mv:Value):cu 8 (bM (0+0+0) (quL w pv nv ov mv))=us w.1:=by
 have h:=iq hw;have e:=Fl hw;rw[bU,bg,Nat.zero_add,List.drop_zero]at e;unfold quL;rw[bU,bg,Nat.zero_add,List.drop_zero,List.take_append_of_le_length (by omega)];exact e
theorem QI{w:List Nat×List Nat}(hw:IsW w)(pv nv ov mv:Value):cu 8 (bM (0+0+8) (quL w pv nv ov mv))=us w.2:=by
 have h:=iq hw;have e:=CB hw;rw[bU,bg,Nat.zero_add]at e;unfold quL;rw[bU,bg,Nat.zero_add,List.drop_append_of_le_length (by omega),List.take_append_of_le_length (by rw[List.length_drop];omega)];exact e
theorem Cj{w:List Nat×List Nat}(hw:IsW w)(pv nv ov mv:Value)(i:Nat):bN (quL w pv nv ov mv) (16+i)=[pv,nv,ov,mv][i]? :=by
 have h:=iq hw;unfold quL;rw[cD,List.getElem?_append_right (by omega),h,Nat.add_sub_cancel_left]
theorem II{w:List Nat×List Nat}(hw:IsW w)(pv nv ov mv:Value):bN (quL w pv nv ov mv) (0+16)=some pv:=Cj hw pv nv ov mv 0
theorem MO{w:List Nat×List Nat}(hw:IsW w)(pv nv ov mv:Value):bN (quL w pv nv ov mv) (0+17)=some nv:=Cj hw pv nv ov mv 1
theorem QJ{w:List Nat×List Nat}(hw:IsW w)(pv nv ov mv:Value):bN (quL w pv nv ov mv) (0+18)=some ov:=Cj hw pv nv ov mv 2
abbrev Zs:=List (Pb×Nat)
def alB(z:Zs)(s:List Nat):Bool:=z.all λx=> !(decide (x.2=2)&&sIn x.1.cells s)
def bsJ(s:List Nat)(x:Pb×Nat):List Nat:=if x.2=1 then eW s x.1.cells else s
def bsS(s:List Nat)(z:Zs):List Nat:=z.foldl bsJ s
def bsB(w:List Nat×List Nat)(z:Zs):Bool:=sIn (bsS w.1 z) w.2&&alB z (bsS w.1 z)
theorem lD:∀{z:Zs} {s:List Nat},IsS s->(∀x∈z,IsS x.1.cells)->IsS (bsS s z)
 |[],s,hs,_=>hs
 |x::z,s,hs,h=>by
  have hx:=h x List.mem_cons_self;refine lD (z:=z) (s:=bsJ s x) ?_ λy hy=>h y (List.mem_cons_of_mem _ hy);unfold bsJ;split
  ·exact hs.join hx
  ·exact hs
theorem JW{l:List Pb}{f:List Nat}{i:Nat}{p:Pb}{k:Nat}(hp:l[i]? =some p)(hk:f[i]? =some k):(l.zip f)[i]? =some (p,k):=List.getElem?_zip_eq_some.2 ⟨hp,hk⟩
theorem DQ{l:List Pb}{f:List Nat}(h:l.length<=f.length):(l.zip f).length=l.length:=by rw[List.length_zip];omega
theorem ni{l:List Pb}{f:List Nat}(h:∀p∈l,IsS p.cells):∀x∈l.zip f,IsS x.1.cells:=λx hx=>h _ (List.of_mem_zip hx).1
theorem MQ{z:Zs}{i:Nat}{x:Pb×Nat}(h:z[i]? =some x):z.take (i+1)=z.take i++[x]:=by
 obtain⟨hlt,rfl⟩:=List.getElem?_eq_some_iff.1 h;exact List.take_succ_eq_append_getElem hlt
structure CM (T:Nat->Option af):Prop where
 p:aR T
 f35:T 35=some f35
 f121:T 121=some f121
 f143:T 143=some f143
 f174:T 174=some f174
 f207:T 207=some f207
 f226:T 226=some f226
theorem uh(F:CM T){h:Heap}(hr:Rdy h){q:Nat}{w:List Nat×List Nat}(hw:IsW w){pv nv ov mv:Value}(gq:h.get q=some (.cells (quL w pv nv ov mv) true 1)){l:List Pb}(sp:PbS h pv l)(hl:l.length<=8){f:List Nat}(hf:f.length=8){s:List Nat}(hs:IsS s):
 Pu T 226 [.pointer (some ⟨q,0,none⟩),fV f,sv s] h (.bool (alB (l.zip f) s)):=by
 refine .of F.p F.f226 hr rfl ?_;obtain⟨a,c,rfl⟩:=sp.form;have hfc:cellsOf (fV f)=fL f:=by show(fL f).toArray.toList=_;simp
 have x0:Ext h ((h.push (.cells (cellsOf (fV f)) true 1)).push (.cells (cellsOf (sv s)) true 1)):=((Ext.refl h).push _).push _;have g0:((h.push (.cells (cellsOf (fV f)) true 1)).push (.cells (cellsOf (sv s)) true 1)).get h.next=some (.cells (fL f) true 1):=by rw[hfc];exact(z4 (Nat.lt_succ_self _)).trans (z3 h _)
 have g1:((h.push (.cells (cellsOf (fV f)) true 1)).push (.cells (cellsOf (sv s)) true 1)).get (h.next+1)=some (.cells (us s) true 1):=z3 _ _;have n0:((h.push (.cells (cellsOf (fV f)) true 1)).push (.cells (cellsOf (sv s)) true 1)).next=h.next+2:=rfl
 refine Y5 ?_;generalize((h.push (.cells (cellsOf (fV f)) true 1)).push (.cells (cellsOf (sv s)) true 1))=H at*;have W:=x0.wf hr.wf;have hL:=x0.log.trans hr.log;have gqH:=(x0.old _ (hr.wf.fK gq)).trans gq;have spH:=sp.ext x0;have kp:=II hw (.slice a l.length c) nv ov mv;have k8:=aO hs.len;have k9:=bn hs.len;have hzl:=DQ (l:=l) (f:=f) (by omega);refine Y10 ?_
 refine cF (λm e ds h'=>∃i:Nat,i<=l.length/\m=l.length-i/\e=[(4, .pointer (some ⟨h.next,0,none⟩)),(5, .pointer (some ⟨h.next+1,0,none⟩)),(12, .slice a l.length c),(13, .int .i64 (l.length:Nat)),(14, .int .i64 (i:Nat))]/\ds=[]/\Ext H h'∧alB ((l.zip f).take i) s=true)
  ⟨0,Nat.zero_le _,rfl,rfl,rfl, .refl H,rfl⟩ ?_
 rintro m e ds G ⟨i,hin,rfl,rfl,rfl,xG,hall⟩;have WG:=xG.wf W;have hLG:=xG.log.trans hL;have nG:=xG.next
 by_cases hlt:i<l.length
 ·obtain⟨p,hpi⟩:∃r,l[i]? =some r:=⟨l[i],List.getElem?_eq_getElem hlt⟩;obtain⟨k,hki⟩:∃r,f[i]? =some r:=⟨f[i]'(by omega),List.getElem?_eq_getElem _⟩;have hps:=sp.ok p (List.mem_of_getElem? hpi);obtain⟨b,o,c2,vs,own,t,hv,gl,hb,gat⟩:=(spH.ext xG).elem hpi;cases hv;have k1:=gat.all;have k2:=ve hps;have k3:=jo hps;have k4:=AW p;have mlt:aq .lss (.int .i64 (i:Nat)) (.int .i64 (l.length:Nat))=some (.bool true):=fR (by omega);have g0G:=(xG.old _ (by omega)).trans g0;have g1G:=(xG.old _ (by omega)).trans g1;have hz:=JW hpi hki;have hst:alB ((l.zip f).take (i+1)) s=(alB ((l.zip f).take i) s&& !(decide (k=2)&&sIn p.cells s)):=by
   unfold alB;rw[MQ hz,List.all_append];simp
  have hno:(decide (k=2)&&sIn p.cells s)=true->alB (l.zip f) s=false:=λq=>by
   unfold alB;rw[List.all_eq_false];exact⟨(p,k),List.mem_of_getElem? hz,by rw[q];simp⟩
  refine Y9 ?_;refine ef (E0:=[(4, .pointer (some ⟨h.next,0,none⟩)),(5, .pointer (some ⟨h.next+1,0,none⟩)),(7, .int .i64 (i:Nat)),(8, .pointer (some ⟨G.next,0,none⟩)),(12, .slice (some ⟨b,o,none⟩) l.length c),(13, .int .i64 (l.length:Nat)),(14, .int .i64 (i:Nat))]) (P:=λh'=>Ext G h'∧h'.next=G.next+1/\h'.get G.next=some (.cells (pbL p) true 1)) ?_ ?_
  ·refine Y6 ?_;refine aF (br (by exact rfl) (by exact rfl) YG (by assumption) (by exact rfl) (by assumption)) ?_;refine dn ?_;refine y1 ?_;exact⟨rfl,rfl,rfl,eT (by omega) _ _,rfl,fQ _ _⟩
  rintro G2 ⟨x2,n2,g2⟩;have WG2:=x2.wf WG;have hLG2:=x2.log.trans hLG;have g0G2:=(x2.old _ (by omega)).trans g0G;have g1G2:=(x2.old _ (by omega)).trans g1G;have kf:=Gv hki;have kc:=oZ hps;have kcl:=aO hps.len;have x02:=xG.trans x2;clear g0G g1G gl k1 k2 gat;have mk:aq .eql (.int .u8 (k:Nat)) (.int .u8 2)=some (.bool (decide (k=2))):=Hl (c:=2) rfl;have C:=vR F.p F.f35 F.f121 (h:={G2 with log:=[]}) (.of WG2) hps hs;cases hk2:decide (k=2)with
  |false=>
   rw[hk2]at mk hst;refine Y20 ?_;exact⟨l.length-(i+1),by omega,i+1,by omega,rfl,rfl,rfl,x02,by rw[hst,hall];rfl⟩
  |true=>
   rw[hk2]at mk hst hno;cases hin:sIn p.cells s with
   |true=>
    rw[hin]at C hno;rw[hno rfl];refine Y14 ?_;refine FW.pu C ?_;refine Y12 ?_;exact aA hLG2 rfl rfl
   |false=>
    rw[hin]at C hst;refine Y14 ?_;refine FW.pu C ?_;refine Y10 ?_;exact⟨l.length-(i+1),by omega,i+1,by omega,rfl,rfl,rfl,x02,by rw[hst,hall];rfl⟩
 ·obtain rfl:i=l.length:=by omega
  have mlt:aq .lss (.int .i64 (l.length:Nat)) (.int .i64 (l.length:Nat))=some (.bool false):=gj (by omega);rw[←hzl,List.take_length]at hall;rw[hall];refine Y14 ?_;exact aA hLG rfl rfl
theorem LJ(s:List Nat)(b:Bool):cg (.tuple #[sv s, .bool b])=true:=by
 have q:flat (sv s)=true:=rN s;show gI [sv s, .bool b]=true;simp only[gI,q];rfl
theorem xN(F:CM T){h:Heap}(hr:Rdy h){q:Nat}{w:List Nat×List Nat}(hw:IsW w){pv nv ov mv:Value}(gq:h.get q=some (.cells (quL w pv nv ov mv) true 1)){l:List Pb}(sp:PbS h pv l)(hl:l.length<=8){f:List Nat}(hf:f.length=8):
 Pu T 143 [.pointer (some ⟨q,0,none⟩),fV f] h (.tuple #[sv (bsS w.1 (l.zip f)), .bool (bsB w (l.zip f))]):=by
 refine .of F.p F.f143 hr (LJ _ _) ?_;obtain⟨a,c,rfl⟩:=sp.form;have hfc:cellsOf (fV f)=fL f:=by show(fL f).toArray.toList=_;simp
 have x0:Ext h ((h.push (.cells (cellsOf (fV f)) true 1)).push (.cells (aK 8 (.int .u64 0)) true 1)):=((Ext.refl h).push _).push _;have g0:((h.push (.cells (cellsOf (fV f)) true 1)).push (.cells (aK 8 (.int .u64 0)) true 1)).get h.next=some (.cells (fL f) true 1):=by rw[hfc];exact(z4 (Nat.lt_succ_self _)).trans (z3 h _)
 have g1:((h.push (.cells (cellsOf (fV f)) true 1)).push (.cells (aK 8 (.int .u64 0)) true 1)).get (h.next+1)=some (.cells (us s0) true 1):=z3 _ _;have n0:((h.push (.cells (cellsOf (fV f)) true 1)).push (.cells (aK 8 (.int .u64 0)) true 1)).next=h.next+2:=rfl
 refine Y5 ?_;generalize((h.push (.cells (cellsOf (fV f)) true 1)).push (.cells (aK 8 (.int .u64 0)) true 1))=H at*;have W:=x0.wf hr.wf;have hL:=x0.log.trans hr.log;have gqH:=(x0.old _ (hr.wf.fK gq)).trans gq;have kqn:=hr.wf.fK gq;have spH:=sp.ext x0;have g0':=g0;have g1':=g1;have gqH':=gqH;have spH':=spH;have kp:=II hw (.slice a l.length c) nv ov mv;have ka:=QH hw (.slice a l.length c) nv ov mv;have kb:=QI hw (.slice a l.length c) nv ov mv;have kal:=aO hw.a.len;have ka9:=bn hw.a.len;have kan:=hw.a.len;have kbl:=aO hw.b.len;have hzl:=DQ (l:=l) (f:=f) (by omega);have hzok:=ni (f:=f) sp.ok;refine ef (E0:=[(0, .pointer (some ⟨q,0,none⟩)),(3, .pointer (some ⟨h.next,0,none⟩)),(4, .pointer (some ⟨h.next+1,0,none⟩)),(6, .pointer (some ⟨H.next,0,none⟩))]) (P:=λh'=>Ext H h'∧h'.next=H.next+1/\h'.get H.next=some (.cells (us w.1) true 1)) ?_ ?_
 ·refine Y7 ?_;refine aF (br (by exact rfl) (by exact rfl) YG (by(simp only[aD];assumption)) (by exact rfl) (by exact cI _)) ?_;refine dn ?_;refine y1 ?_;exact⟨rfl,rfl,rfl,eT (by omega) _ _,rfl,YG⟩
 rintro H1 ⟨x1,n1,g6⟩;have W1:=x1.wf W;have hL1:=x1.log.trans hL;have g01:=(x1.old _ (by omega)).trans g0;have g11:=(x1.old _ (by omega)).trans g1;have gq1:=(x1.old _ (by omega)).trans gqH;have sp1:=spH.ext x1;clear g0 g1 gqH spH;refine Y10 ?_
 refine cF (λm e ds h'=>∃i:Nat,i<=l.length/\m=l.length-i/\e=[(0, .pointer (some ⟨q,0,none⟩)),(3, .pointer (some ⟨h.next,0,none⟩)),(4, .pointer (some ⟨h.next+1,0,none⟩)),(6, .pointer (some ⟨H.next,0,none⟩)),(17, .slice a l.length c),(18, .int .i64 (l.length:Nat)),(19, .int .i64 (i:Nat))]/\ds=[]/\Ext H h'∧H.next<h'.next/\h'.get H.next=some (.cells (us (bsS w.1 ((l.zip f).take i))) true 1))
  ⟨0,Nat.zero_le _,rfl,rfl,rfl,x1,by omega,g6⟩ ?_
 clear g6 g01 g11 gq1 sp1;rintro m e ds G ⟨i,hin,rfl,rfl,rfl,xG,hnG,g6⟩;have WG:=xG.wf W;have hLG:=xG.log.trans hL;have nG:=xG.next
 have g0G:=(xG.old _ (by omega)).trans g0';have g1G:=(xG.old _ (by omega)).trans g1';have gqG:=(xG.old _ (by omega)).trans gqH';have spG:=spH'.ext xG;have hso:IsS (bsS w.1 ((l.zip f).take i)):=lD hw.a λx hx=>hzok x (List.mem_of_mem_take hx);by_cases hlt:i<l.length
 ·obtain⟨p,hpi⟩:∃r,l[i]? =some r:=⟨l[i],List.getElem?_eq_getElem hlt⟩;obtain⟨k,hki⟩:∃r,f[i]? =some r:=⟨f[i]'(by omega),List.getElem?_eq_getElem _⟩;have hps:=sp.ok p (List.mem_of_getElem? hpi);obtain⟨b,o,c2,vs,own,t,hv,gl,hb,gat⟩:=spG.elem hpi;cases hv;have k1:=gat.all;have k2:=ve hps;have k3:=jo hps;have k4:=AW p;have mlt:aq .lss (.int .i64 (i:Nat)) (.int .i64 (l.length:Nat))=some (.bool true):=fR (by omega);have hst:bsS w.1 ((l.zip f).take (i+1))=bsJ (bsS w.1 ((l.zip f).take i)) (p,k):=by
   unfold bsS;rw[MQ (JW hpi hki),List.foldl_append];rfl
  generalize bsS w.1 ((l.zip f).take i)=s at*;have ks8:=aO hso.len;have ks9:=bn hso.len;have ksn:=hso.len;refine Y9 ?_;refine ef (E0:=[(0, .pointer (some ⟨q,0,none⟩)),(3, .pointer (some ⟨h.next,0,none⟩)),(4, .pointer (some ⟨h.next+1,0,none⟩)),(6, .pointer (some ⟨H.next,0,none⟩)),(7, .int .i64 (i:Nat)),(8, .pointer (some ⟨G.next,0,none⟩)),(17, .slice (some ⟨b,o,none⟩) l.length c),(18, .int .i64 (l.length:Nat)),(19, .int .i64 (i:Nat))]) (P:=λh'=>Ext G h'∧h'.next=G.next+1/\h'.get G.next=some (.cells (pbL p) true 1)) ?_ ?_
  ·refine Y6 ?_;refine aF (br (by exact rfl) (by exact rfl) YG (by assumption) (by exact rfl) (by assumption)) ?_;refine dn ?_;refine y1 ?_;exact⟨rfl,rfl,rfl,eT (by omega) _ _,rfl,fQ _ _⟩
  rintro G2 ⟨x2,n2,g2⟩;have WG2:=x2.wf WG;have hLG2:=x2.log.trans hLG;have g0G2:=(x2.old _ (by omega)).trans g0G;have g6G2:=(x2.old _ (by omega)).trans g6;have kf:=Gv hki;have kc:=oZ hps;have kcl:=aO hps.len;have x02:=xG.trans x2;clear g0G g1G gqG gl k1 k2 gat g6 spG;have mk:aq .eql (.int .u8 (k:Nat)) (.int .u8 1)=some (.bool (decide (k=1))):=Hl (c:=1) rfl;have C:=Dk F.p F.f174 (h:={G2 with log:=[]}) (.of WG2) hso hps;unfold bsJ at hst;dsimp only at hst;by_cases hk1:k=1
  ·rw[decide_eq_true hk1]at mk;rw[if_pos hk1]at hst;have hjs:=hso.join hps;generalize eW s p.cells=j at*;have kj8:=aO hjs.len;have kjn:=hjs.len;refine Y12 ?_;refine FW.pu C ?_;refine aF (br (by exact rfl) (by exact rfl) (by assumption) (by(simp only[aD];assumption)) (by(simp only[aD];assumption)) (by exact cI _)) ?_;refine dn ?_;refine y1 ?_;refine Qm ?_;refine Az ?_;refine sQ ?_;refine Y3 ?_;refine⟨l.length-(i+1),by omega,i+1,by omega,rfl,rfl,rfl,⟨?_,?_,?_,?_⟩,?_,?_⟩
   ·exact Nat.le_trans x02.next (Nat.le_refl _)
   ·rw[Heap.aB (by omega)];exact x02.log
   ·intro z hz;exact(z5 (by omega)).trans (x02.old z hz)
   ·intro wf;exact(x02.wf wf).as (AS.wr h.next _ _ _)
   ·show H.next<G2.next;omega
   ·rw[hst];(simp(disch:=first|omega|(simp only[z1,z2];omega))only[z3,z4,z5,z6,z7,z1,z2,g0',g1',gq,gqH',g2,g0G2,g6G2];done)
  ·rw[decide_eq_false hk1]at mk;rw[if_neg hk1]at hst;refine Y14 ?_;exact⟨l.length-(i+1),by omega,i+1,by omega,rfl,rfl,rfl,x02,by omega,by rw[hst];exact g6G2⟩
 ·obtain rfl:i=l.length:=by omega
  have mlt:aq .lss (.int .i64 (l.length:Nat)) (.int .i64 (l.length:Nat))=some (.bool false):=gj (by omega);rw[←hzl,List.take_length]at g6 hso;have C2:=uh F (h:={G with log:=[]}) (.of WG) hw gqG (spG.log []) hl hf hso;have C1:=vR F.p F.f35 F.f121 (h:={G with log:=[]}) (.of WG) hso hw.b;unfold bsB;generalize alB (l.zip f) (bsS w.1 (l.zip f))=al at*;generalize bsS w.1 (l.zip f)=s at*;have ks8:=aO hso.len;have ks9:=bn hso.len;have ksn:=hso.len;have kf8:=si hf;have kf9:=oS hf;cases hin:sIn s w.2 with
  |false=>
   rw[hin]at C1;refine Y20 ?_;refine FW.puD C1 (by(repeat apply aN rfl);apply aL rfl (au rfl (cA (by exact rfl) (by assumption) (by assumption) (by assumption)) (by exact nu _)) rfl;exact bJ) ?_;clear C1 C2;refine Y6 ?_;refine lu rfl rfl rfl (by exact rfl) (by exact rfl) (by exact rfl) (by assumption) (by(simp only[aD];assumption)) (by exact rfl) (by exact cI _) (by omega) (by omega) (by apply aL rfl (au rfl (xM (by exact rfl) (by exact rfl)) (by exact jy _)) rfl;(repeat apply aN rfl);exact bJ) ?_;refine Y5 ?_;refine aA ?_ (bW (own:=true) (s:=1) rfl ?_ ks9 ks8 (iW rfl rfl)) rfl
   ·rw[Heap.aB (by omega)];exact hLG
   ·exact YG
  |true=>
   rw[hin]at C1;refine Y20 ?_;refine FW.puD C1 (by(repeat apply aN rfl);apply aL rfl (au rfl (cA (by exact rfl) (by assumption) (by assumption) (by assumption)) (by exact nu _)) rfl;exact bJ) ?_;clear C1;refine Y5 ?_;refine FW.puD C2 (by(repeat apply aN rfl);apply aL rfl (au rfl (cA (by exact rfl) (by assumption) (by assumption) (by assumption)) (by exact nu _)) rfl;exact bJ) ?_;clear C2;refine aH rfl rfl rfl (by exact rfl) (by exact rfl) (by exact rfl) (tG (by exact rfl) (by exact rfl)) ?_;refine lu rfl rfl rfl (by exact rfl) (by exact rfl) (by exact rfl) (by assumption) (by(simp only[aD];assumption)) (by exact rfl) (by exact cI _) (by omega) (by omega) (by apply aL rfl (au rfl (tG (by exact rfl) (by exact rfl)) (by exact jy _)) rfl;apply aN rfl;exact bJ) ?_;refine Y5 ?_;refine aA ?_ (bW (own:=true) (s:=1) rfl ?_ ks9 ks8 (iW rfl rfl)) rfl
   ·rw[Heap.aB (by omega)];exact hLG
   ·exact YG
structure NdS (h:Heap) (nv:Value) (ns:List (List (List Nat))):Prop where
 ex:∃vals:List Value,bY h 1 nv ns.length vals/\∀(i:Nat) (r:List (List Nat)),ns[i]? =some r->∃v,vals[i]? =some v/\SsQ h v r
theorem NdS.ext{h h':Heap}{nv:Value}{ns:List (List (List Nat))}(s:NdS h nv ns)(x:Ext h h'):NdS h' nv ns:=by
 obtain⟨vals,s1,s2⟩:=s.ex;exact⟨vals,s1.ext x,λi r hi=>by
  obtain⟨v,hv,sv⟩:=s2 i r hi;exact⟨v,hv,sv.ext x⟩⟩
theorem NdS.log{h:Heap}{nv:Value}{ns:List (List (List Nat))}(s:NdS h nv ns)(m:List Nat):NdS {h with log:=m} nv ns:=by
 obtain⟨vals,s1,s2⟩:=s.ex;exact⟨vals,s1.log m,λi r hi=>by
  obtain⟨v,hv,sv⟩:=s2 i r hi;exact⟨v,hv,sv.log m⟩⟩
theorem NdS.elem{h:Heap}{nv:Value}{ns:List (List (List Nat))}(s:NdS h nv ns){i:Nat}{r:List (List Nat)}(hi:ns[i]? =some r):
 ∃b o c vs own t v,nv= .slice (some ⟨b,o,none⟩) ns.length c/\h.get b=some (.cells vs own t)/\b<h.next/\bN vs (o+i*1)=some v/\SsQ h v r:=by
 obtain⟨vals,s1,s2⟩:=s.ex;obtain⟨v,hv,sv⟩:=s2 i r hi;have hlt:=(List.getElem?_eq_some_iff.1 hi).1;rcases bY.inv s1 with⟨_,_,h0,_⟩|⟨b,o,cap,hs,s3,hc⟩
 ·omega
 ·obtain⟨vs,own,t,g1,g2⟩:=s3.obj;refine⟨b,o,cap,vs,own,t,v,hs,g1,s3.lt,?_,sv⟩;rw[bU,bg]at g2;rw[←g2,List.getElem?_take_of_lt (by omega),List.getElem?_drop]at hv;rw[cD,Nat.mul_one];exact hv
def iO(z:Zs)(s:List Nat)(r:List (List Nat)):Nat:=if r.any (λn=>sIn n s)then 1 else if r.any (λn=>alB z (eW s n))then 3 else 2
theorem Ej(F:CM T){h:Heap}(hr:Rdy h){q:Nat}{w:List Nat×List Nat}(hw:IsW w){pv nv ov mv:Value}(gq:h.get q=some (.cells (quL w pv nv ov mv) true 1)){l:List Pb}(sp:PbS h pv l)(hl:l.length<=8){f:List Nat}(hf:f.length=8){s:List Nat}(hs:IsS s)
 {ns:List (List (List Nat))}(sn:NdS h nv ns)(hnn:ns.length<1000000){j:Nat}{r:List (List Nat)}(hj:ns[j]? =some r)(hrl:r.length<1000000):
 Pu T 207 [.pointer (some ⟨q,0,none⟩),fV f,sv s, .int .i64 (j:Nat)] h (.int .u8 ((iO (l.zip f) s r:Nat):Int)):=by
 refine .of F.p F.f207 hr rfl ?_;have hfc:cellsOf (fV f)=fL f:=by show(fL f).toArray.toList=_;simp
 have x0:Ext h ((h.push (.cells (cellsOf (fV f)) true 1)).push (.cells (cellsOf (sv s)) true 1)):=((Ext.refl h).push _).push _;have g0:((h.push (.cells (cellsOf (fV f)) true 1)).push (.cells (cellsOf (sv s)) true 1)).get h.next=some (.cells (fL f) true 1):=by rw[hfc];exact(z4 (Nat.lt_succ_self _)).trans (z3 h _)
 have g1:((h.push (.cells (cellsOf (fV f)) true 1)).push (.cells (cellsOf (sv s)) true 1)).get (h.next+1)=some (.cells (us s) true 1):=z3 _ _;have n0:((h.push (.cells (cellsOf (fV f)) true 1)).push (.cells (cellsOf (sv s)) true 1)).next=h.next+2:=rfl
 refine Y5 ?_;refine Bs ?_;generalize((h.push (.cells (cellsOf (fV f)) true 1)).push (.cells (cellsOf (sv s)) true 1))=H at*;have W:=x0.wf hr.wf;have hL:=x0.log.trans hr.log;have kqn:=hr.wf.fK gq;have gqH:=(x0.old _ kqn).trans gq;have spH:=sp.ext x0;have kn:=MO hw pv nv ov mv;have hjl:=(List.getElem?_eq_some_iff.1 hj).1;obtain⟨nb,no,nc,nvs,nown,nt,v,hnv,gn,hnb,gv,sr⟩:=(sn.ext x0).elem hj;subst hnv;have sr':=sr;obtain⟨a,c,rfl⟩:=sr.sl.form;have ks8:=aO hs.len;have ks9:=bn hs.len;have kf8:=si hf;have kf9:=oS hf;unfold iO;refine Y19 ?_
 refine cF (λm e ds h'=>∃i:Nat,i<=r.length/\m=r.length-i/\e=[(0, .pointer (some ⟨q,0,none⟩)),(5, .pointer (some ⟨h.next,0,none⟩)),(6, .pointer (some ⟨h.next+1,0,none⟩)),(9, .int .u8 ((if(r.take i).any (λn=>alB (l.zip f) (eW s n))then 3 else 2:Nat):Int)),(18, .slice a r.length c),(19, .int .i64 (r.length:Nat)),(20, .int .i64 (i:Nat))]/\ds=[]/\Ext H h'∧(r.take i).any (λn=>sIn n s)=false)
  ⟨0,Nat.zero_le _,rfl,rfl,rfl, .refl H,rfl⟩ ?_
 rintro m e ds G ⟨i,hin,rfl,rfl,rfl,xG,hno⟩;have WG:=xG.wf W;have hLG:=xG.log.trans hL;have nG:=xG.next
 by_cases hlt:i<r.length
 ·obtain⟨x,hx⟩:∃s,r[i]? =some s:=⟨r[i],List.getElem?_eq_getElem hlt⟩;have hxs:=sr'.ok x (List.mem_of_getElem? hx);obtain⟨b,o,c3,vs,own,tt,hv,gl,hbl,el⟩:=(sr'.ext xG).elem hx;cases hv;have kx8:=aO hxs.len;have kx9:=bn hxs.len;have kxn:=hxs.len;have mlt:aq .lss (.int .i64 (i:Nat)) (.int .i64 (r.length:Nat))=some (.bool true):=fR (by omega);have g0G:=(xG.old _ (by omega)).trans g0;have g1G:=(xG.old _ (by omega)).trans g1;have gqG:=(xG.old _ (by omega)).trans gqH;have hs1:(r.take (i+1)).any (λn=>sIn n s)=((r.take i).any (λn=>sIn n s)||sIn x s):=by rw[gN hx,List.any_append];simp
  have hs2:(r.take (i+1)).any (λn=>alB (l.zip f) (eW s n))=((r.take i).any (λn=>alB (l.zip f) (eW s n))||alB (l.zip f) (eW s x)):=by rw[gN hx,List.any_append];simp
  have hyes:sIn x s=true->r.any (λn=>sIn n s)=true:=λq=>List.any_eq_true.2 ⟨x,List.mem_of_getElem? hx,q⟩;generalize(r.take i).any (λn=>alB (l.zip f) (eW s n))=bb at*;refine Y9 ?_;refine ef (E0:=[(0, .pointer (some ⟨q,0,none⟩)),(5, .pointer (some ⟨h.next,0,none⟩)),(6, .pointer (some ⟨h.next+1,0,none⟩)),(9, .int .u8 ((if bb then 3 else 2:Nat):Int)),(11, .pointer (some ⟨G.next,0,none⟩)),(18, .slice (some ⟨b,o,none⟩) r.length c),(19, .int .i64 (r.length:Nat)),(20, .int .i64 (i:Nat))]) (P:=λh'=>Ext G h'∧h'.next=G.next+1/\h'.get G.next=some (.cells (us x) true 1)) ?_ ?_
  ·refine Y4 ?_;refine aF (br (by exact rfl) (by exact rfl) YG (by(simp only[aD];assumption)) (by exact rfl) (by exact cI _)) ?_;refine dn ?_;refine y1 ?_;exact⟨rfl,rfl,rfl,eT (by omega) _ _,rfl,YG⟩
  rintro G2 ⟨x2,n2,g2⟩;have WG2:=x2.wf WG;have hLG2:=x2.log.trans hLG;have g0G2:=(x2.old _ (by omega)).trans g0G;have g1G2:=(x2.old _ (by omega)).trans g1G;have gqG2:=(x2.old _ (by omega)).trans gqG;have x02:=xG.trans x2;have C1:=vR F.p F.f35 F.f121 (h:={G2 with log:=[]}) (.of WG2) hxs hs;have C2:=Dk F.p F.f174 (h:={G2 with log:=[]}) (.of WG2) hs hxs;have C3:=uh F (h:={G2 with log:=[]}) (.of WG2) hw gqG2 ((spH.ext x02).log []) hl hf (hs.join hxs);clear g0G g1G gqG gl el;generalize alB (l.zip f) (eW s x)=ab at*;generalize eW s x=jx at*;cases hin2:sIn x s with
  |true=>
   rw[hin2]at C1;rw[if_pos (hyes hin2)];refine Y5 ?_;refine FW.pu C1 ?_;refine Y7 ?_;refine Nq (by exact rfl) ?_;refine Nq (by exact rfl) ?_;refine Y9 ?_;exact aA hLG2 rfl rfl
  |false=>
   rw[hin2]at C1 hs1;rw[hno]at hs1;cases ab with
   |true=>
    rw[Bool.or_true]at hs2;refine Y5 ?_;refine FW.pu C1 ?_;clear C1;refine Y10 ?_;refine FW.puD C2 (by(repeat apply aN rfl);apply aL rfl (au rfl (cA (by exact rfl) (by assumption) (by assumption) (by assumption)) (by exact MP _)) rfl;apply aL rfl (au rfl (iK (by exact rfl)) (by exact cE _)) rfl;exact bJ) ?_;clear C2;skip;refine qC ?_;refine FW.puD C3 (by(repeat apply aN rfl);exact bJ) ?_;clear C3;refine Y7 ?_;refine dn ?_;refine Y8 ?_;exact⟨r.length-(i+1),by omega,i+1,by omega,rfl,by rw[hs2];rfl,rfl,x02,hs1⟩
   |false=>
    rw[Bool.or_false]at hs2;refine Y5 ?_;refine FW.pu C1 ?_;clear C1;refine Y10 ?_;refine FW.puD C2 (by(repeat apply aN rfl);apply aL rfl (au rfl (cA (by exact rfl) (by assumption) (by assumption) (by assumption)) (by exact MP _)) rfl;apply aL rfl (au rfl (iK (by exact rfl)) (by exact cE _)) rfl;exact bJ) ?_;clear C2;skip;refine qC ?_;refine FW.puD C3 (by(repeat apply aN rfl);exact bJ) ?_;clear C3;refine Y13 ?_;exact⟨r.length-(i+1),by omega,i+1,by omega,rfl,by rw[hs2],rfl,x02,hs1⟩
 ·obtain rfl:i=r.length:=by omega
  have mlt:aq .lss (.int .i64 (r.length:Nat)) (.int .i64 (r.length:Nat))=some (.bool false):=gj (by omega);rw[List.take_length]at hno⊢;rw[if_neg (by rw[hno];simp)];refine Y15 ?_;exact aA hLG rfl rfl
end Go.A.Pk
end
section
namespace Go.Proofs
open Go.Shelf
def Tryz.p9:Go.Shelf.Ren:=⟨fun|6=>189|15=>241|14=>255|28=>290|29=>291|20=>307|21=>308|22=>309|23=>310|24=>311|25=>312|26=>313|27=>314|46=>344|47=>325|48=>326|49=>345|50=>346|57=>362|n=>n,fun|22=>29|24=>24|25=>215|3=>3|39=>90|0=>0|53=>338|55=>22|4=>4|46=>331|45=>330|50=>196|5=>5|9=>9|66=>372|70=>376|76=>403|77=>404|n=>n,fun|n=>n⟩
theorem Tryz.nS:Go.Proofs.SlLaysF0.n6 Tryz.prog Tryz.p9:={
 mixed:=by kernel_rfl
 f6:=⟨Tryz.f189.name,by decide,Tryz.func189.trans (congrArg some (by kernel_rfl))⟩
 f14:=⟨Tryz.f255.name,by decide,Tryz.func255.trans (congrArg some (by kernel_rfl))⟩
 f15:=Tryz.func241.trans (congrArg some (by kernel_rfl))
 f20:=⟨Tryz.f307.name,by decide,Tryz.func307.trans (congrArg some (by kernel_rfl))⟩
 f21:=⟨Tryz.f308.name,by decide,Tryz.func308.trans (congrArg some (by kernel_rfl))⟩
 f22:=⟨Tryz.f309.name,by decide,Tryz.func309.trans (congrArg some (by kernel_rfl))⟩
 f23:=⟨Tryz.f310.name,by decide,Tryz.func310.trans (congrArg some (by kernel_rfl))⟩
 f24:=⟨Tryz.f311.name,by decide,Tryz.func311.trans (congrArg some (by kernel_rfl))⟩
 f25:=⟨Tryz.f312.name,by decide,Tryz.func312.trans (congrArg some (by kernel_rfl))⟩
 f26:=⟨Tryz.f313.name,by decide,Tryz.func313.trans (congrArg some (by kernel_rfl))⟩
 f27:=⟨Tryz.f314.name,by decide,Tryz.func314.trans (congrArg some (by kernel_rfl))⟩
 f28:=Tryz.func290.trans (congrArg some (by kernel_rfl))
 f29:=Tryz.func291.trans (congrArg some (by kernel_rfl))
 f46:=⟨Tryz.f344.name,by decide,Tryz.func344.trans (congrArg some (by kernel_rfl))⟩
 f47:=Tryz.func325.trans (congrArg some (by kernel_rfl))
 f48:=Tryz.func326.trans (congrArg some (by kernel_rfl))
 f49:=⟨Tryz.f345.name,by decide,Tryz.func345.trans (congrArg some (by kernel_rfl))⟩
 f50:=⟨Tryz.f346.name,by decide,Tryz.func346.trans (congrArg some (by kernel_rfl))⟩
 f57:=⟨Tryz.f362.name,by decide,Tryz.func362.trans (congrArg some (by kernel_rfl))⟩
 t0:=Tryz.underlying0
 a0:=Tryz.isAgg0
 z0:=Tryz.sizeOf0
 v0:=Tryz.zeroValue0
 t3:=Tryz.underlying3
 a3:=Tryz.isAgg3
 z3:=Tryz.sizeOf3
 v3:=Tryz.zeroValue3
 t4:=Tryz.underlying4
 a4:=Tryz.isAgg4
 z4:=Tryz.sizeOf4
 v4:=Tryz.zeroValue4
 t5:=Tryz.underlying5
 a5:=Tryz.isAgg5
 z5:=Tryz.sizeOf5
 v5:=Tryz.zeroValue5
 t9:=Tryz.underlying9
 a9:=Tryz.isAgg9
 z9:=Tryz.sizeOf9
 v9:=Tryz.zeroValue9
 t22:=Tryz.underlying29
 a22:=Tryz.isAgg29
 z22:=Tryz.sizeOf29
 v22:=Tryz.zeroValue29
 t25:=Tryz.underlying215
 a25:=Tryz.isAgg215
 z25:=Tryz.sizeOf215
 v25:=Tryz.zeroValue215
 t39:=Tryz.underlying90
 a39:=Tryz.isAgg90
 z39:=Tryz.sizeOf90
 v39:=Tryz.zeroValue90
 t45:=Tryz.underlying330
 a45:=Tryz.isAgg330
 z45:=Tryz.sizeOf330
 v45:=Tryz.zeroValue330
 t46:=Tryz.underlying331
 a46:=Tryz.isAgg331
 z46:=Tryz.sizeOf331
 v46:=Tryz.zeroValue331
 t50:=Tryz.underlying196
 a50:=Tryz.isAgg196
 z50:=Tryz.sizeOf196
 v50:=Tryz.zeroValue196
 t53:=Tryz.underlying338
 a53:=Tryz.isAgg338
 z53:=Tryz.sizeOf338
 v53:=Tryz.zeroValue338
 t55:=Tryz.underlying22
 a55:=Tryz.isAgg22
 z55:=Tryz.sizeOf22
 v55:=Tryz.zeroValue22
 t66:=Tryz.underlying372
 a66:=Tryz.isAgg372
 z66:=Tryz.sizeOf372
 v66:=Tryz.zeroValue372
 t70:=Tryz.underlying376
 a70:=Tryz.isAgg376
 z70:=Tryz.sizeOf376
 v70:=Tryz.zeroValue376
 t76:=Tryz.underlying403
 a76:=Tryz.isAgg403
 z76:=Tryz.sizeOf403
 v76:=Tryz.zeroValue403
 t77:=Tryz.underlying404
 a77:=Tryz.isAgg404
 z77:=Tryz.sizeOf404
 v77:=Tryz.zeroValue404}
open Go.RowKit Go.Lib Go.Sort in
theorem Tryz.slices_SortFunc_none(p:Option Addr)(cap:Nat)(fv:Value)(w:World):
 Calls Tryz.prog 189 #[.slice p 0 cap,fv] w λe w'=>e= .returned (.tuple #[])/\w'=w:=AnyF.slices_SortFunc_none Tryz.nS p cap fv w
end Go.Proofs
end
section
namespace Go.A.Pk
open Go Go.Proofs Go.Sort
theorem lS:∀{a b:List Nat},a.length=b.length->cmpL b a= -cmpL a b
 |[],[],_=>rfl
 |[],_::_,h=>by cases h
 |_::_,[],h=>by cases h
 |x::a,y::b,h=>by
  unfold cmpL;by_cases h1:x<y
  ·rw[if_neg (by omega),if_pos h1,if_pos h1];rfl
  ·by_cases h2:y<x
   ·rw[if_pos h2,if_neg h1,if_pos h2]
   ·rw[if_neg h2,if_neg h1,if_neg h1,if_neg h2];exact lS (by simpa using h)
theorem oP:∀{a b:List Nat},a.length=b.length->cmpL a b=0->a=b
 |[],[],_,_=>rfl
 |[],_::_,h,_=>by cases h
 |_::_,[],h,_=>by cases h
 |x::a,y::b,h,h0=>by
  unfold cmpL at h0;by_cases h1:x<y
  ·rw[if_pos h1]at h0;cases h0
  ·by_cases h2:y<x
   ·rw[if_neg h1,if_pos h2]at h0;cases h0
   ·rw[if_neg h1,if_neg h2]at h0;rw[show x=y by omega,oP (by simpa using h) h0]
theorem pW:∀{a b c:List Nat},a.length=b.length->b.length=c.length->cmpL a b<0->cmpL b c<0->cmpL a c<0
 |[],[],_,_,_,h,_=>by unfold cmpL at h;omega
 |[],_::_,_,h,_,_,_=>by cases h
 |_::_,[],_,h,_,_,_=>by cases h
 |_::_,_::_,[],_,h,_,_=>by cases h
 |x::a,y::b,z::c,h1,h2,q1,q2=>by
  unfold cmpL at q1 q2⊢;by_cases a1:x<y
  ·by_cases b1:y<z
   ·rw[if_pos (show x<z by omega)];omega
   ·rw[if_neg b1]at q2;by_cases b2:z<y
    ·rw[if_pos b2]at q2;omega
    ·rw[if_pos (show x<z by omega)];omega
  ·rw[if_neg a1]at q1;by_cases a2:y<x
   ·rw[if_pos a2]at q1;omega
   ·rw[if_neg a2]at q1;by_cases b1:y<z
    ·rw[if_pos (show x<z by omega)];omega
    ·rw[if_neg b1]at q2;by_cases b2:z<y
     ·rw[if_pos b2]at q2;omega
     ·rw[if_neg b2]at q2;rw[if_neg (show¬x<z by omega),if_neg (show¬z<x by omega)];exact pW (by simpa using h1) (by simpa using h2) q1 q2
abbrev Sol:={l:List Nat // IsS l}
instance:Inhabited Sol:=⟨⟨s0,xg⟩⟩
def uA(x:Sol):List Value:=us x.1
def cfS(x y:Sol):Int:=cmpL x.1 y.1
theorem iY(x y:Sol):x.1.length=y.1.length:=x.2.len.trans y.2.len.symm
theorem Kg:SWO (ltOf cfS):=by
 refine⟨λx=> ?_,λx y z h1 h2=> ?_,λx y z h1 h2=> ?_⟩
 ·unfold ltOf cfS;rw[se];rfl
 ·unfold ltOf cfS at*;rw[decide_eq_true_eq]at*;exact pW (iY x y) (iY y z) h1 h2
 ·unfold ltOf cfS at*;rw[decide_eq_false_iff_not]at*;have a1:=lS (iY x y);have a2:=lS (iY y z);have a3:=lS (iY x z);rcases Int.lt_or_eq_of_le (show cmpL y.1 x.1<=0 by omega)with q|q
  ·rcases Int.lt_or_eq_of_le (show cmpL z.1 y.1<=0 by omega)with p|p
   ·have:=pW (iY z y) (iY y x) p q;omega
   ·have e:=oP (iY z y) p;rw[e];omega
  ·have e:=oP (iY y x) q;rw[←e];omega
theorem Gi(x y:Sol)(h1:ltOf cfS x y=false)(h2:ltOf cfS y x=false):x=y:=by
 unfold ltOf cfS at*;rw[decide_eq_false_iff_not]at*;have a1:=lS (iY x y);exact Subtype.ext (oP (iY x y) (by omega))
theorem Ab(x:Sol):(uA x).length=8:=by unfold uA;rw[aD,x.2.len]
theorem Df(d:Array Sol):flatK uA 8 d=(ssL (d.toList.map (·.1))).toArray:=by
 have hok:∀s∈d.toList.map (·.1),IsS s:=λs hs=>by
  obtain⟨x,_,rfl⟩:=List.mem_map.1 hs;exact x.2
 have hl:(ssL (d.toList.map (·.1))).length=d.size*8:=by rw[fm hok];simp
 apply ext_get! ((size_flatK uA 8 d).trans hl.symm);intro t ht;have ht':t<d.size*8:=by simpa using ht
 rw[get_flatK _ _ _ t ht'];have hd:t / 8<d.size:=by omega
 have hx:(d.toList.map (·.1))[t / 8]? =some (d[t / 8]!).1:=by
  rw[List.getElem?_map,Array.getElem?_toList,Array.getElem?_eq_getElem hd,getElem!_pos d (t / 8) hd];rfl
 have h8:=DL hok hx;have e:((ssL (d.toList.map (·.1))).drop (t / 8*8))[t % 8]? =(us (d[t / 8]!).1)[t % 8]? :=by
  rw[←h8,List.getElem?_take_of_lt (by omega)]
 rw[List.getElem?_drop,show t / 8*8+t % 8=t by omega]at e;have e1:(us (d[t / 8]!).1).length=8:=Ab _;rw[List.getElem?_eq_getElem (by omega),List.getElem?_eq_getElem (by omega),Option.some.injEq]at e;show(us (d[t / 8]!).1)[t % 8]! =(ssL (d.toList.map (·.1))).toArray[t]!;rw[getElem!_pos _ (t % 8) (by omega),getElem!_pos _ t (show t<(ssL (d.toList.map (·.1))).length by rw[hl];exact ht'),←e];rfl
theorem Aa:Rdy (⟨[],1000,[]⟩:Heap):=⟨⟨by simp,by intro b hb;simp at hb⟩,rfl⟩
theorem LR.flat{μ:Mu}:∀{l:List Value},(∀a∈l,cg a=true)->LR μ l l
 |[],_=> .nil
 |a::l,h=> .cons (VR.cg (h a List.mem_cons_self)).1 (LR.flat λx hx=>h x (List.mem_cons_of_mem _ hx))
theorem sY{P:Program}{T:Nat->Option af}(S:dR P T)(hg:P.globals.size<=1000){f:Nat}{args:List Value}{v:Value}(hnc:fN (T f)=false)(H:Pu T f args ⟨[],1000,[]⟩ v)(ha:∀a∈args,cg a=true)(hv:cg v=true)(w:World):
 Calls P f args.toArray w λe w'=>e= .returned v/\∃q os',w'=Sort.grow (w.drewN q) os':=by
 obtain⟨r',h',⟨m,hm⟩,rfl,rfl⟩:=H;have hrun:=hm m (Nat.le_refl _);refine(kW S hrun rfl hnc (R.none (P:=P) (w:=w) hg) (LR.flat ha)).mono λe w' hq=> ?_;obtain⟨μ',q1,q2,q3⟩:=hq;cases e with
 |returned v'=>
  have hv':VR μ' v v':=q1;rw[(VR.cg hv).2 _ hv'];have hk:∀r,r<w.heap.size->w'.heap[r]? =w.heap[r]? :=λr hr=>q3.keep r hr λ⟨b,o,k,g,_⟩=>by cases g
  refine⟨rfl,w'.drawn-w.drawn,w'.heap.extract w.heap.size w'.heap.size,?_⟩;have hle:=q3.le;have hh:w'.heap=w.heap++w'.heap.extract w.heap.size w'.heap.size:=by
   apply Array.ext_getElem?;intro i;by_cases hi:i<w.heap.size
   ·rw[hk i hi,Array.getElem?_append_left hi]
   ·rw[Array.getElem?_append_right (by omega),Array.getElem?_extract];by_cases h2:i<w'.heap.size
    ·rw[if_pos (by omega)];congr 1;omega
    ·rw[if_neg (by omega),Array.getElem?_eq_none (by omega)]
  obtain⟨s1,s2,s3,s4⟩:=q3.same;cases w with
  |mk a1 a2 a3 a4 a5=>
   cases w' with
   |mk b1 b2 b3 b4 b5=>
    dsimp only at s1 s2 s3 s4 hh;subst s1;subst s2;subst s3;show World.mk b1 _ b3 _ _=World.mk (a1++_) _ (a3+(b3-a3)) _ _;rw[show a3+(b3-a3)=b3 by omega];congr 1
 |panicked _=>exact q1.elim
 |outgrown=>exact q1.elim
theorem Rv:aI Tryz.prog Tryz.f168 [[2,3],[4]]=some f168:=by kernel_rfl
theorem Rw:aI Tryz.prog Tryz.f190 [[2,3],[4]]=some f190:=by kernel_rfl
theorem Rx:aI Tryz.prog Tryz.f191 [[0,1],[0,1,9,10,11],[0,1,9,10,11,12],[0,1,5,6,9,10,11],[0,1,5,6,9,10,11,19],[4],[0,1,6,7,9,10,11],[0,1,8,9,10,11],[0,1,8,9,10,11,28],[4],[0,1,9,10,11],[35],[4],[4]]=some f191:=by kernel_rfl
theorem Ry:aI Tryz.prog Tryz.f256 [[0,1],[0,1,5],[0,1,5,6],[0,1,6,11],[12],[4],[4],[0,1,13],[4],[0,1,16],[4],[19],[4],[4]]=some f256:=by kernel_rfl
theorem Rz:aI Tryz.prog Tryz.f315 [[0],[2]]=some f315:=by kernel_rfl
def JB:Tr:=(.node (.node (.node .nil 168 f168 .nil) 190 f190 .nil) 191 f191 (.node (.node .nil 256 f256 .nil) 315 f315 .nil))
def TC:Nat->Option af:=JB.get
theorem Rs:JB.all (Entry Tryz.prog):=by
 unfold JB;exact(Tr.aa (Tr.aa (Tr.aa Tr.all_nil (.of Tryz.func168 Rv) Tr.all_nil) (.of Tryz.func190 Rw) Tr.all_nil) (.of Tryz.func191 Rx) (Tr.aa (Tr.aa Tr.all_nil (.of Tryz.func256 Ry) Tr.all_nil) (.of Tryz.func315 Rz) Tr.all_nil))
theorem Ct:dR Tryz.prog TC:=pn (by kernel_rfl) Rs
theorem Qg:vU TC:={p:=Ct.aR,f191:=by kernel_rfl,f256:=by kernel_rfl,f315:=by kernel_rfl}
theorem DY(k:Nat)(hk:k=168∨k=190)(x y:Sol)(w:World):Calls Tryz.prog k #[.agg (uA x).toArray, .agg (uA y).toArray] w λe w'=>e= .returned (.int .i64 (cfS x y))/\∃q os',w'=Sort.grow (w.drewN q) os':=by
 have hn:∀a∈[sv x.1,sv y.1],cg a=true:=λa ha=>by
  rcases List.mem_cons.1 ha with rfl|ha
  ·exact fH _
  ·rw[List.mem_singleton.1 ha];exact fH _
 rcases hk with rfl|rfl
 ·exact sY Ct lW (by kernel_rfl) (Ky Qg (by kernel_rfl) Aa x.2 y.2) hn rfl w
 ·exact sY Ct lW (by kernel_rfl) (Kz Qg (by kernel_rfl) Aa x.2 y.2) hn rfl w
theorem KI(l:List (List Nat))(h:∀s∈l,IsS s):∃d:List Sol,d.map (·.1)=l:=⟨l.attach.map λx=>⟨x.1,h _ x.2⟩,by simp⟩
theorem Je(d:List Sol):(d.mergeSort λx y=> !(ltOf cfS) y x).map (·.1)=eC (d.map (·.1)):=by
 unfold eC;exact List.map_mergeSort λa _ b _=>rfl
theorem BF(k:Nat)(hk:k=168∨k=190):∀args w,(callFunc k args).run Tryz.prog w= .ok (.enter k args) w:=by
 rcases hk with rfl|rfl
 ·exact enters_of Tryz.func168 (by kernel_rfl) rfl
 ·exact enters_of Tryz.func190 (by kernel_rfl) rfl
theorem QF:Entry Tryz.prog 189 (.jN (oh 168 190)):=by
 refine .jN (EM Tryz.func189 (of_decide_eq_true (by kernel_rfl)) (by kernel_rfl) (λk p cap w=>Tryz.slices_SortFunc_none p cap _ w) ?_);intro k hk blk off cap l w hok hH hblk hl;obtain⟨d,hd⟩:=KI l hok;have hfl:flatK uA 8 d.toArray=(ssL l).toArray:=by rw[Df];simp[hd]
 have hdl:d.length=l.length:=by rw[←hd];simp
 have h:=AnyQ.slices_SortFunc_total Tryz.nS 8 (Tryz.isAgg24) (Tryz.sizeOf24) uA Ab (λx v hv=>by
  obtain⟨n,_,rfl⟩:=List.mem_map.1 hv;rfl) cfS Kg k #[] blk off cap d.toArray w (BF k hk) (λm os dk hs x y=>by
   have:=DY k hk x y (sortWorldK uA 8 w blk off m dk os);simpa using this) (by
   show Holds id w blk off (flatK uA 8 d.toArray);rw[hfl];exact hH) hblk (by simpa[hdl]using hl) Gi
 have hs:d.toArray.size=l.length:=by simpa using hdl
 rw[hs]at h;refine h.mono λe w' ⟨he,n,os,hw⟩=>⟨he,n,os,?_⟩;rw[hw];show Sort.grow (putRow id (Sort.ahead w n) blk off (flatK uA 8 _)) os=_;rw[Df];congr 2;have:=Je d;rw[hd]at this;simpa using congrArg ssL this
end Go.A.Pk
end
section
namespace Go.A.Pk
open Go.Sort Go.Proofs
def SLt(a b:List Nat):Prop:=cmpL a b<0
theorem wP{w:List Nat×List Nat}{o q:List Nat}:q∈pQ w o↔ ∃p∈qg w.2 o,eX p w.1=q:=by
 unfold pQ;constructor
 ·intro h;exact List.mem_map.1 (ig.1 (oR h))
 ·intro h;exact qU (ig.2 (List.mem_map.2 h))
theorem Iu{a b p:List Nat}(hb:¬b=s0):p∈qg a b↔ ∃f∈dY a b,f.s=p:=by
 unfold qg;rw[if_neg hb];constructor
 ·intro h;exact List.mem_map.1 (ig.1 (oR h))
 ·intro h;exact qU (ig.2 (List.mem_map.2 h))
theorem AM{α:Type}[DecidableEq α]:∀{l k:List α},l.Nodup->(∀x∈l,x∈k)->l.length<=k.length
 |[],_,_,_=>Nat.zero_le _
 |a::l,k,hn,h=>by
  obtain⟨h1,h2⟩:=List.nodup_cons.1 hn;have ha:=h a List.mem_cons_self;have ih:=AM (k:=k.erase a) h2 λx hx=>(List.mem_erase_of_ne (λ(e:x=a)=>h1 (by rw[←e];exact hx))).2 (h x (List.mem_cons_of_mem _ hx));rw[List.length_erase_of_mem ha]at ih;have:=List.length_pos_of_mem ha;rw[List.length_cons];omega
theorem Ka{n m:Nat}(h:ceN n=ceN m):n=m:=by
 unfold ceN at h;injection h with h1 h2 h3
 omega
theorem zW(s:List Nat)(n:Nat):(bt s n).Nodup:=by
 unfold bt;refine List.Pairwise.filter _ ?_;rw[List.pairwise_map];exact List.nodup_range.imp λ{a b} h e=>h (Ka e)
theorem wK{f:Ce->Ce}{s:List Nat}(hin:∀c∈bt s 512,inG (f c)=true)(hf:∀c d,f c=f d->c=d):dJ s<=dJ (lM f s):=by
 unfold dJ;rw[←List.length_map (f:=f)];refine AM ?_ λx hx=> ?_
 ·unfold List.Nodup;rw[List.pairwise_map];exact(zW s 512).imp λ{a b} h e=>h (hf a b e)
 ·obtain⟨c,hc,rfl⟩:=List.mem_map.1 hx;exact dM.2 ((rD hin _).2 ⟨c,dM.1 hc,rfl⟩)
theorem I5(k:Nat)(c d:Ce)(h:fU k c=fU k d):c=d:=by
 obtain⟨c1,c2,c3⟩:=c;obtain⟨d1,d2,d3⟩:=d;unfold fU at h;split at h<;>(injection h with h1 h2 h3;(try dsimp only at h1 h2 h3);congr 1<;>omega)
theorem Bh:∀(n:Nat) (c d:Ce),rJ n c=rJ n d->c=d
 |0,_,_,h=>h
 |n+1,c,d,h=>by
  refine Bh n c d ?_;unfold rJ I8 at h;injection h with h1 h2 h3
  generalize rJ n c=x at*;generalize rJ n d=y at*;obtain⟨x1,x2,x3⟩:=x;obtain⟨q1,q2,q3⟩:=y;dsimp only at h1 h2 h3;congr 1;omega
theorem JC(t:Nat)(c d:Ce)(h:jT t c=jT t d):c=d:=I5 _ _ _ (Bh _ _ _ h)
theorem Om(x y z:Int)(c d:Ce)(h:shC x y z c=shC x y z d):c=d:=by
 obtain⟨c1,c2,c3⟩:=c;obtain⟨d1,d2,d3⟩:=d;unfold shC at h;injection h with h1 h2 h3
 dsimp only at h1 h2 h3;congr 1<;>omega
theorem y8{b:List Nat}{t:Nat}{x y z:Int}(r:Rng (dA (ew b t)).1 x y z):dJ b<=dJ (lM (shC x y z) (ew b t)):=
 Nat.le_trans (wK (λc hc=>tT c (lR hc)) (JC t)) (wK (λc hc=>r.all (dM.1 hc)) (Om x y z))
def MU(a b p:List Nat):Prop:=∃t,t<24/\∃x y z,Rng (dA (ew b t)).1 x y z/\lM (shC x y z) (ew b t)=p/\sIn p a=true
theorem xV{a b:List Nat}(ha:IsS a)(hb:IsS b)(h0:¬b=s0){p:List Nat}:(∃f∈dY a b,f.s=p)↔MU a b p:=by
 have hsp:=λt=>oB b t;constructor
 ·rintro⟨f,hf,rfl⟩;unfold dY at hf;split at hf
  ·cases hf
  ·obtain⟨t,ht,hf⟩:=List.mem_flatMap.1 hf;have bi:=jU (ew b t);have bia:=jU a;unfold jK BI pH lV ny at hf;obtain⟨z,hz,hf⟩:=List.mem_flatMap.1 hf;obtain⟨y,hy,hf⟩:=List.mem_flatMap.1 hf;obtain⟨x,hx,hf⟩:=List.mem_flatMap.1 hf;rw[zI]at hx hy hz;obtain⟨⟨bl1,bl2,bl3⟩,⟨bh1,bh2,bh3⟩⟩:=bia;have r:Rng (dA (ew b t)).1 x y z:=⟨by omega,by omega,by omega⟩;split at hf
   ·rename_i hin;rw[List.mem_singleton.1 hf];refine⟨t,List.mem_range.1 ht,x,y,z,r,?_,hin⟩;exact(Dl (hsp t) r).symm
   ·cases hf
 ·rintro⟨t,ht,x,y,z,r,rfl,hin⟩;have hsub:=(dF (uR r) ha).1 hin;have hcell:∀c,dN (ew b t) c=true->dN a (shC x y z c)=true:=λc hc=>hsub _ ((rD (λd hd=>r.all (dM.1 hd)) _).2 ⟨c,hc,rfl⟩);have hall:∀x∈bt b 512,inG (jT t x)=true:=λc hc=>tT c (lR hc);have hs0:¬ew b t=s0:=by
   intro q;obtain⟨c,hc⟩:=xy hb h0;have:=(rD hall (jT t c)).2 ⟨c,hc,rfl⟩;rw[show lM (jT t) b=s0 from q,rK]at this;cases this
  obtain⟨c1,hc1⟩:=xy (hsp t) hs0;have k1:=qQ (hcell c1 hc1);obtain⟨k2x,k2y,k2z⟩:=mO.1 (GF hc1);unfold shC at k1;dsimp only at k1;have lo:=M7 hs0 (x:=(dA a).1.lo.x-x) (y:=(dA a).1.lo.y-y) (z:=(dA a).1.lo.z-z) (by omega) (by omega) (by omega) λc hc=>by
   have:=qQ (hcell c hc);unfold shC at this;dsimp only at this;omega
  have hi:=M8 hs0 (x:=(dA a).1.hi.x-x) (y:=(dA a).1.hi.y-y) (z:=(dA a).1.hi.z-z) (by omega) (by omega) (by omega) λc hc=>by
   have:=qQ (hcell c hc);unfold shC at this;dsimp only at this;omega
  have hcnt:¬dJ a<dJ b:=by
   have h1:=y8 r;have h2:=Sub.cnt hsub;omega
  have h0a:¬a=s0:=by
   intro q;have:=hcell c1 hc1;rw[q,rK]at this;cases this
  have hle:=Dl (hsp t) r;refine⟨⟨t,x,y,z,iu (ew b t) (dA (ew b t)).1 x y z⟩,?_,hle⟩;unfold dY;rw[if_neg (λq=>q.elim h0a hcnt)];refine List.mem_flatMap.2 ⟨t,List.mem_range.2 ht,?_⟩;unfold jK BI pH lV ny;refine List.mem_flatMap.2 ⟨z,zI.2 (by omega),List.mem_flatMap.2 ⟨y,zI.2 (by omega),List.mem_flatMap.2 ⟨x,zI.2 (by omega),?_⟩⟩⟩;rw[if_pos (by rw[hle];exact hin)];exact List.mem_singleton.2 rfl
theorem Dv{a b p:List Nat}(ha:IsS a)(hb:IsS b)(h0:¬b=s0):p∈qg a b↔MU a b p:=by
 rw[Iu h0,xV ha hb h0]
theorem Dd{a b:List Nat}(ha:IsS a)(hb:IsS b)(h0:¬b=s0):pG a b=true↔ ∃p,MU a b p:=by
 rw[Dc h0];constructor
 ·intro h;cases hl:dY a b with
  |nil=>rw[hl]at h;cases h
  |cons f r=>exact⟨f.s,(xV ha hb h0).1 ⟨f,by rw[hl];exact List.mem_cons_self,rfl⟩⟩
 ·rintro⟨p,hp⟩;obtain⟨f,hf,_⟩:=(xV ha hb h0).2 hp;cases hl:dY a b with
  |nil=>rw[hl]at hf;cases hf
  |cons f r=>rfl
end Go.A.Pk
end
section
namespace Go.A.Pk
variable {T:Nat->Option af}
theorem EY{a b c:List Nat}(ha:IsS a)(hb:IsS b)(hc:IsS c)(h1:sIn a b=true)(h2:sIn b c=true):sIn a c=true:=
 (dF ha hc).2 λx hx=>(dF hb hc).1 h2 x ((dF ha hb).1 h1 x hx)
theorem filter_lt{α:Type}{p q:α->Bool}(h:∀x,p x=true->q x=true):∀{l:List α} {x:α},x∈l->q x=true->p x=false->(l.filter p).length<(l.filter q).length
 |[],_,hx,_,_=>by cases hx
 |a::l,x,hx,hq,hp=>by
  rw[List.filter_cons,List.filter_cons];rcases List.mem_cons.1 hx with rfl|hx
  ·rw[if_neg (by rw[hp];simp),if_pos hq,List.length_cons];exact Nat.lt_succ_of_le (filter_le h l)
  ·have ih:=filter_lt h hx hq hp;by_cases ha:p a=true
   ·rw[if_pos ha,if_pos (h a ha),List.length_cons,List.length_cons];omega
   ·rw[if_neg ha];split
    ·rw[List.length_cons];omega
    ·exact ih
theorem Nc{a b:List Nat}(ha:IsS a)(hb:IsS b)(h:sIn a b=true)(hne:a≠b):dJ a<dJ b:=by
 have hs:=(dF ha hb).1 h;have hex:∃c,dN b c=true/\dN a c=false:=by
  rcases Classical.em (∃c,dN b c=true/\dN a c=false)with q|q
  ·exact q
  ·exfalso;apply hne;refine tO ha hb λz i hz hi=> ?_;cases h1:dN a (fq z i)with
   |true=>rw[hs _ h1]
   |false=>
    cases h2:dN b (fq z i)with
    |false=>rfl
    |true=>exact absurd ⟨_,h2,h1⟩ q
 obtain⟨c,h1,h2⟩:=hex;unfold dJ bt;exact filter_lt hs (List.mem_filter.1 (dM.2 h1)).1 h1 h2
theorem AF{r:List (List Nat)}(hr:∀s∈r,IsS s){t:List Nat}(ht:IsS t):∀(n:Nat) {q:List Nat},dJ q<=n->q∈r->sIn q t=true->∃y∈r,uT r y=false/\sIn y t=true
 |n,q,hn,hq,hin=>by
  cases hm:uT r q with
  |false=>exact⟨q,hq,hm,hin⟩
  |true=>
   unfold uT at hm;obtain⟨y,hy,h2⟩:=List.any_eq_true.1 hm;rw[Bool.and_eq_true,Bool.not_eq_true',decide_eq_false_iff_not]at h2;have hlt:=Nc (hr y hy) (hr q hq) h2.2 h2.1;cases n with
   |zero=>omega
   |succ n=>exact AF hr ht n (by omega) hy (EY (hr y hy) (hr q hq) ht h2.2 hin)
def BB(w:List Nat×List Nat)(s:List Nat):List Nat:=eW w.1 (kN s w.2)
theorem J8{w:List Nat×List Nat}(hw:IsW w){s:List Nat}(hs:IsS s):IsS (BB w s):=hw.a.join (hs.meet hw.b)
theorem F8{w:List Nat×List Nat}(hw:IsW w){s:List Nat}(hs:IsS s)(hin:sIn w.1 w.2=true):Sub w.1 (BB w s)/\Sub (BB w s) w.2:=by
 have h1:=(dF hw.a hw.b).1 hin;unfold BB;refine⟨λc hc=> ?_,λc hc=> ?_⟩
 ·rw[mC hw.a (hs.meet hw.b),hc];rfl
 ·rw[mC hw.a (hs.meet hw.b),sO hs hw.b,Bool.or_eq_true,Bool.and_eq_true]at hc;exact hc.elim (h1 c) λq=>q.2
theorem nX{w:List Nat×List Nat}(hw:IsW w){o s:List Nat}(h:s∈ei w o):IsS s:=uW hw (List.mem_filter.1 h).1
theorem Et(w:List Nat×List Nat)(o:List Nat):(ei w o).length<=98304:=Nat.le_trans (List.length_filter_le ..) (wO w o)
theorem KN{w:List Nat×List Nat}(hw:IsW w){o t:List Nat}(ho:IsS o)(h0:¬o=s0)(ht:IsS t)(h1:Sub w.1 t)(h2:Sub t w.2):(ei w o).any (λn=>sIn n t)=pG t o:=by
 cases hf:pG t o with
 |true=>
  obtain⟨p,tt,htt,x,y,z,r,rfl,hin⟩:=(Dd ht ho h0).1 hf;have hps:=uR r;have hpt:=(dF hps ht).1 hin;have hpl:lM (shC x y z) (ew o tt)∈qg w.2 o:=(Dv hw.b ho h0).2 ⟨tt,htt,x,y,z,r,rfl,(dF hps hw.b).2 λc hc=>h2 c (hpt c hc)⟩;generalize lM (shC x y z) (ew o tt)=p at*;have hq:eX p w.1∈pQ w o:=wP.2 ⟨p,hpl,rfl⟩;have hqt:sIn (eX p w.1) t=true:=(dF (hps.less hw.a) ht).2 λc hc=>by
   rw[xh hps hw.a,Bool.and_eq_true]at hc;exact hpt c hc.1
  obtain⟨y,hy,hm,hyt⟩:=AF (λs hs=>uW hw hs) ht (dJ (eX p w.1)) (Nat.le_refl _) hq hqt;exact List.any_eq_true.2 ⟨y,List.mem_filter.2 ⟨hy,by rw[hm];rfl⟩,hyt⟩
 |false=>
  rw[List.any_eq_false];intro n hn hnt;have hnA:=(List.mem_filter.1 hn).1;obtain⟨p,hp,rfl⟩:=wP.1 hnA;have hps:=y7 hp;obtain⟨tt,htt,x,y,z,r,e,hin⟩:=(Dv hw.b ho h0).1 hp;have hpt:sIn p t=true:=(dF hps ht).2 λc hc=>by
   cases hs:dN w.1 c with
   |true=>exact h1 c hs
   |false=>
    refine(dF (hps.less hw.a) ht).1 hnt c ?_;rw[xh hps hw.a,hc,hs];rfl
  have:=(Dd ht ho h0).2 ⟨p,tt,htt,x,y,z,r,e,hpt⟩;rw[hf]at this;cases this
end Go.A.Pk
end
section
namespace Go.A.Pk
theorem Sub.trans{a b c:List Nat}(h1:Sub a b)(h2:Sub b c):Sub a c:=λx hx=>h2 x (h1 x hx)
theorem xz{a b:List Nat}(ha:IsS a)(hb:IsS b):Sub a (eW a b):=λc hc=>by rw[mC ha hb,hc];rfl
theorem xA{a b:List Nat}(ha:IsS a)(hb:IsS b):Sub b (eW a b):=λc hc=>by rw[mC ha hb,hc,Bool.or_true]
theorem ru{a b c:List Nat}(ha:IsS a)(hb:IsS b)(h1:Sub a c)(h2:Sub b c):Sub (eW a b) c:=λx hx=>by
 rw[mC ha hb,Bool.or_eq_true]at hx;exact hx.elim (h1 x) (h2 x)
theorem tJ:∀{z:Zs} {s:List Nat},IsS s->(∀x∈z,IsS x.1.cells)->Sub s (bsS s z)
 |[],s,_,_=>λc hc=>hc
 |x::z,s,hs,h=>by
  have hx:=h x List.mem_cons_self;have hz:∀y∈z,IsS y.1.cells:=λy hy=>h y (List.mem_cons_of_mem _ hy);show Sub s (bsS (bsJ s x) z);unfold bsJ;split
  ·exact(xz hs hx).trans (tJ (hs.join hx) hz)
  ·exact tJ hs hz
theorem xO:∀{z:Zs} {s:List Nat},IsS s->(∀x∈z,IsS x.1.cells)->∀x∈z,x.2=1->Sub x.1.cells (bsS s z)
 |[],_,_,_,x,hx,_=>by cases hx
 |y::z,s,hs,h,x,hx,h1=>by
  have hy:=h y List.mem_cons_self;have hz:∀y∈z,IsS y.1.cells:=λy hy=>h y (List.mem_cons_of_mem _ hy);show Sub x.1.cells (bsS (bsJ s y) z);rcases List.mem_cons.1 hx with rfl|hx
  ·unfold bsJ;rw[if_pos h1];exact(xA hs hy).trans (tJ (hs.join hy) hz)
  ·unfold bsJ;split
   ·exact xO (hs.join hy) hz x hx h1
   ·exact xO hs hz x hx h1
theorem oO:∀{z:Zs} {s t:List Nat},IsS s->(∀x∈z,IsS x.1.cells)->Sub s t->(∀x∈z,x.2=1->Sub x.1.cells t)->Sub (bsS s z) t
 |[],_,_,_,_,h1,_=>h1
 |x::z,s,t,hs,h,h1,h2=>by
  have hx:=h x List.mem_cons_self;have hz:∀y∈z,IsS y.1.cells:=λy hy=>h y (List.mem_cons_of_mem _ hy);show Sub (bsS (bsJ s x) z) t;unfold bsJ;split
  ·rename_i hk;exact oO (hs.join hx) hz (ru hs hx h1 (h2 x List.mem_cons_self hk)) λy hy=>h2 y (List.mem_cons_of_mem _ hy)
  ·exact oO hs hz h1 λy hy=>h2 y (List.mem_cons_of_mem _ hy)
theorem qP{z:Zs}{s:List Nat}:alB z s=true↔ ∀x∈z,x.2=2->sIn x.1.cells s=false:=by
 unfold alB;rw[List.all_eq_true];refine⟨λh x hx hk=> ?_,λh x hx=> ?_⟩
 ·have:=h x hx;rw[decide_eq_true hk,Bool.true_and,Bool.not_eq_true']at this;exact this
 ·by_cases hk:x.2=2
  ·rw[h x hx hk,Bool.and_false];rfl
  ·rw[decide_eq_false hk];rfl
def eS(t:List Nat)(p:Pb):Nat:=if sIn p.cells t then 1 else 2
def tV(t:List Nat)(z:Zs):Prop:=∀x∈z,x.2=0∨x.2=eS t x.1
theorem uJ{w:List Nat×List Nat}(hw:IsW w){t:List Nat}(ht:IsS t)(h1:Sub w.1 t){z:Zs}(hz:∀x∈z,IsS x.1.cells)(hh:tV t z):Sub (bsS w.1 z) t:=
 oO hw.a hz h1 λx hx hk=>by
  rcases hh x hx with q|q
  ·omega
  ·unfold eS at q;split at q
   ·rename_i hi;exact(dF (hz x hx) ht).1 hi
   ·omega
theorem GG{t:List Nat}(ht:IsS t){z:Zs}(hz:∀x∈z,IsS x.1.cells)(hh:tV t z){s:List Nat}(hs:IsS s)(hst:Sub s t):alB z s=true:=qP.2 λx hx hk=>by
 rcases hh x hx with q|q
 ·omega
 ·unfold eS at q;split at q
  ·omega
  ·rename_i hi;cases hq:sIn x.1.cells s with
   |false=>rfl
   |true=>exact absurd ((dF (hz x hx) ht).2 (((dF (hz x hx) hs).1 hq).trans hst)) hi
theorem tP{w:List Nat×List Nat}(hw:IsW w){t:List Nat}(ht:IsS t)(h1:Sub w.1 t)(h2:Sub t w.2){z:Zs}(hz:∀x∈z,IsS x.1.cells)(hh:tV t z):bsB w z=true:=by
 have hb:=lD hw.a hz;have hbt:=uJ hw ht h1 hz hh;unfold bsB;rw[(dF hb hw.b).2 (hbt.trans h2),GG ht hz hh hb hbt];rfl
theorem yc{z:Zs}{s:List Nat}{r:List (List Nat)}:iO z s r=1↔r.any (λn=>sIn n s)=true:=by
 unfold iO;cases r.any (λn=>sIn n s)<;>cases r.any (λn=>alB z (eW s n))<;>simp
theorem yd{z:Zs}{s:List Nat}{r:List (List Nat)}:iO z s r=2↔r.any (λn=>sIn n s)=false/\r.any (λn=>alB z (eW s n))=false:=by
 unfold iO;cases r.any (λn=>sIn n s)<;>cases r.any (λn=>alB z (eW s n))<;>simp
theorem sq(z:Zs)(s:List Nat)(r:List (List Nat)):iO z s r=1∨iO z s r=2∨iO z s r=3:=by
 unfold iO;cases r.any (λn=>sIn n s)<;>cases r.any (λn=>alB z (eW s n))<;>simp
theorem GU{w:List Nat×List Nat}(hw:IsW w){z z':Zs}(hz:∀x∈z,IsS x.1.cells)(hz':∀x∈z',IsS x.1.cells)(hb:Sub (bsS w.1 z) (bsS w.1 z'))(hno:∀x∈z,x.2=2->x∈z')(hc':bsB w z'=true){r:List (List Nat)}(hr:∀n∈r,IsS n)(h3:iO z (bsS w.1 z) r≠3):iO z' (bsS w.1 z') r=iO z (bsS w.1 z) r:=by
 have b1:=lD hw.a hz;have b2:=lD hw.a hz';rcases sq z (bsS w.1 z) r with q|q|q
 ·rw[q];obtain⟨n,hn,hin⟩:=List.any_eq_true.1 (yc.1 q);exact yc.2 (List.any_eq_true.2 ⟨n,hn,(dF (hr n hn) b2).2 (((dF (hr n hn) b1).1 hin).trans hb)⟩)
 ·rw[q];obtain⟨q1,q2⟩:=yd.1 q;have key:∀n∈r,alB z' (eW (bsS w.1 z') n)=false:=λn hn=>by
   cases hq:alB z' (eW (bsS w.1 z') n)with
   |false=>rfl
   |true=>
    have hns:=hr n hn;have:=List.any_eq_false.1 q2 n hn;exfalso;apply this;refine qP.2 λx hx hk=> ?_;have h5:=qP.1 hq x (hno x hx hk) hk;cases h6:sIn x.1.cells (eW (bsS w.1 z) n)with
    |false=>rfl
    |true=>
     have h7:=(dF (hz x hx) (b1.join hns)).1 h6;have h8:Sub (eW (bsS w.1 z) n) (eW (bsS w.1 z') n):=ru b1 hns (hb.trans (xz b2 hns)) (xA b2 hns);rw[(dF (hz x hx) (b2.join hns)).2 (h7.trans h8)]at h5;cases h5
  refine yd.2 ⟨?_,?_⟩
  ·rw[List.any_eq_false];intro n hn hin;have hns:=hr n hn;have h5:=key n hn;have hal:alB z' (bsS w.1 z')=true:=by
    unfold bsB at hc';rw[Bool.and_eq_true]at hc';exact hc'.2
   have:alB z' (eW (bsS w.1 z') n)=true:=qP.2 λx hx hk=>by
    have h6:=qP.1 hal x hx hk;cases h7:sIn x.1.cells (eW (bsS w.1 z') n)with
    |false=>rfl
    |true=>
     have h8:=(dF (hz' x hx) (b2.join hns)).1 h7;rw[(dF (hz' x hx) b2).2 (h8.trans (ru b2 hns (λc hc=>hc) ((dF hns b2).1 hin)))]at h6;cases h6
   rw[h5]at this;cases this
  ·rw[List.any_eq_false];intro n hn;rw[key n hn];simp
 ·exact absurd q h3
theorem Ei{w:List Nat×List Nat}(hw:IsW w){t o:List Nat}(ho:IsS o)(h0:¬o=s0)(ht:IsS t)(h1:Sub w.1 t)(h2:Sub t w.2){z:Zs}(hz:∀x∈z,IsS x.1.cells)(hh:tV t z):
 (iO z (bsS w.1 z) (ei w o)=1->pG t o=true)/\(iO z (bsS w.1 z) (ei w o)=2->pG t o=false):=by
 have hb:=lD hw.a hz;have hbt:=uJ hw ht h1 hz hh;have hni:=KN hw ho h0 ht h1 h2;refine⟨λq=> ?_,λq=> ?_⟩
 ·obtain⟨n,hn,hin⟩:=List.any_eq_true.1 (yc.1 q);rw[←hni];exact List.any_eq_true.2 ⟨n,hn,(dF (nX hw hn) ht).2 (((dF (nX hw hn) hb).1 hin).trans hbt)⟩
 ·cases hf:pG t o with
  |false=>rfl
  |true=>
   rw[←hni]at hf;obtain⟨n,hn,hin⟩:=List.any_eq_true.1 hf;have hns:=nX hw hn;have:=List.any_eq_false.1 (yd.1 q).2 n hn;exact absurd (GG ht hz hh (hb.join hns) (ru hb hns hbt ((dF hns ht).1 hin))) this
end Go.A.Pk
end
section
namespace Go.A.Pk
variable {T:Nat->Option af}
theorem OwS.MH{lo:Nat}{h h':Heap}{v:Value}{l:List (List Nat)}(q:OwS lo h v l)(hn:h.next<=h'.next)(ha:∀z,vB v z->h'.get z=h.get z):OwS lo h' v l:=by
 rcases q with q|⟨b,c,t,h1,h2,h3,rfl,h4⟩
 ·exact .inl q
 ·exact .inr ⟨b,c,t,h1,by omega,(ha b ⟨_,_,rfl⟩).trans h3,rfl,h4⟩
theorem IJ{w:List Nat×List Nat}(hw:IsW w)(pv nv ov mv v:Value)(hv:cellsOf v=[v]):cM (quL w pv nv ov mv) (0+17) (cellsOf v)=quL w pv v ov mv:=by
 have hl:=iq hw;rw[hv];unfold quL;rw[fB (by rw[List.length_append,hl];simp),Nat.zero_add,List.take_append,List.take_of_length_le (by omega),hl,List.drop_append,List.drop_of_length_le (by simp;omega),hl];simp
theorem Ld{lo sz n p m c:Nat}{h:Heap}{cs:List Value}(s:Own lo h sz (.slice (some ⟨p,0,none⟩) m c) n cs):h.get p=some (.cells cs true sz):=by
 cases s with
 |full h1 h2 h3=>exact h3
theorem Le{lo n:Nat}{h:Heap}{v:Value}{cs:List Value}(s:Own lo h 1 v n cs):cs.length=n:=by
 cases s with
 |nil=>rfl
 |full h1 h2 h3 h4=>omega
theorem Iq{lo sz n:Nat}{h:Heap}{v:Value}{cs:List Value}(s:Own lo h sz v n cs)(hn:0<n):kV v=false:=by
 cases s with
 |nil=>omega
 |full=>rfl
structure Mr (T:Nat->Option af):Prop where
 nd:zM T
 f201:T 201=some f201
theorem KE(F:Mr T){h:Heap}(hr:Rdy h)(hg:Tab h)(h2:2<h.next){q:Nat}(hq2:2<q){w:List Nat×List Nat}(hw:IsW w){pv ov mv:Value}(gq:h.get q=some (.cells (quL w pv (.slice none 0 0) ov mv) true 1)){os:List (List Nat)}(so:SsQ h ov os)(hol:os.length<1000000)
 (hov:∀b o m c,ov= .slice (some ⟨b,o,none⟩) m c->b<q):
 Gs T 201 [.pointer (some ⟨q,0,none⟩)] h (λz=>q<=z) λ_ h'=>(∀z,z<h.next->z≠q->h'.get z=h.get z)/\∃nv,h'.get q=some (.cells (quL w pv nv ov mv) true 1)/\NdS h' nv (os.map (ei w)):=by
 have hp:=F.nd.pl.fi.ft.li.p;refine .ofK hp F.f201 ?_;obtain⟨a,c,rfl⟩:=so.sl.form;have hqn:=hr.wf.fK gq;have ko:=λnv=>QJ hw pv nv (.slice a os.length c) mv;have kn:=λnv=>MO hw pv nv (.slice a os.length c) mv;have kw:=λnv=>QK hw pv nv (.slice a os.length c) mv;have kwl:=lB hw;have kqset:=λnv v=>IJ hw pv nv (.slice a os.length c) mv v;have kql:=λnv=>Ck hw pv nv (.slice a os.length c) mv;have ko0:=ko (.slice none 0 0);refine Y9 ?_
 refine cF (λm e ds h'=>∃(i:Nat) (v:Value) (vals:List Value),i<=os.length/\m=os.length-i/\e=[(0, .pointer (some ⟨q,0,none⟩)),(7, .slice a os.length c),(8, .int .i64 (os.length:Nat)),(9, .int .i64 (i:Nat))]/\ds=[]/\WF h'∧h.next<=h'.next/\dK q h'.log/\(i=0->h'=h)/\(0<i->q∈h'.log)/\(∀z,z<h.next->z≠q->h'.get z=h.get z)/\h'.get q=some (.cells (quL w pv v (.slice a os.length c) mv) true 1)/\Own h.next h' 1 v i vals/\dX vals=true/\∀j r,((os.take i).map (ei w))[j]? =some r->∃u,vals[j]? =some u/\OwS h.next h' u r)
  ⟨0, .slice none 0 0,[],Nat.zero_le _,rfl,rfl,rfl,hr.wf,Nat.le_refl _,by rw[hr.log];exact dK.nil _,λ_=>rfl,λq=>absurd q (Nat.lt_irrefl 0),λ_ _ _=>rfl,gq, .nil,rfl,λj r hj=>(by rw[List.take_zero,List.map_nil,List.getElem?_nil]at hj;cases hj)⟩ ?_
 rintro m e ds G ⟨i,v,vals,hin,rfl,rfl,rfl,WG,nG,lG,hi0,hi1,oG,gqG,ow,on1,hvs⟩;have hgG:G.get 2=h.get 2:=oG 2 h2 (by omega);by_cases hlt:i<os.length
 ·obtain⟨x,hx⟩:∃s,os[i]? =some s:=⟨os[i],List.getElem?_eq_getElem hlt⟩;have hxs:=so.ok x (List.mem_of_getElem? hx);obtain⟨b,o,c3,vs,own,tt,hv,gl,hbl,el⟩:=so.elem hx;cases hv;have hbq:b≠q:=Nat.ne_of_lt (hov _ _ _ _ rfl);have glG:=(oG b hbl hbq).trans gl;have kx8:=aO hxs.len;have kx9:=bn hxs.len;have kxn:=hxs.len;have mlt:aq .lss (.int .i64 (i:Nat)) (.int .i64 (os.length:Nat))=some (.bool true):=fR (by omega);refine Y9 ?_;refine ef (E0:=[(0, .pointer (some ⟨q,0,none⟩)),(3, .pointer (some ⟨G.next,0,none⟩)),(7, .slice (some ⟨b,o,none⟩) os.length c),(8, .int .i64 (os.length:Nat)),(9, .int .i64 (i:Nat))]) (P:=λh'=>Ext G h'∧h'.next=G.next+1/\h'.get G.next=some (.cells (us x) true 1)) ?_ ?_
  ·refine Y4 ?_;refine aF (br (by exact rfl) (by exact rfl) YG (by(simp only[aD];assumption)) (by exact rfl) (by exact cI _)) ?_;refine dn ?_;refine y1 ?_;exact⟨rfl,rfl,rfl,eT (by omega) _ _,rfl,YG⟩
  rintro G2 ⟨x2,n2,g2⟩;have WG2:=x2.wf WG;have gqG2:=(x2.old _ (by omega)).trans gqG;have hgG2:Tab G2:=((x2.old 2 (by omega)).trans hgG).trans hg;have C:=KP F.nd (h:={G2 with log:=[]}) (.of WG2) (show Tab G2 from hgG2) (by show 2<G2.next;omega) hw hxs;obtain⟨av,cv,rfl⟩:∃a c,v= .slice a i c:=(ow.slice (by omega)).form;have kov:=ko (.slice av i cv);have knv:=kn (.slice av i cv);have kwv:=kw (.slice av i cv);refine Y12 ?_;refine FW.alD C (λv h' m q=>q.log m) ?_;rintro u G5 x5 q5;clear C;have q5:OwS G2.next G5 u (ei w x):=q5
  have n5:=x5.next
  have gq5:=(x5.old _ (by omega)).trans gqG2;have g25:=(x5.old _ (by omega)).trans g2;refine⟨_,by(repeat apply aN rfl);apply aL rfl (au rfl (dh (by exact rfl) (by assumption) (by assumption)) (by exact mD _ _ _)) rfl;apply aL rfl (au rfl (cT (by exact rfl)) (by exact cE _)) rfl;apply aL rfl (au rfl (nE (by exact rfl)) (by exact cE _)) rfl;apply aL rfl (au rfl (iK (by exact rfl)) (by exact cE _)) rfl;apply aL rfl (au rfl (iK (by exact rfl)) (by exact cE _)) rfl;exact bJ,?_⟩;obtain⟨a5,c5,rfl⟩:=q5.form;refine sP rfl rfl rfl (by exact rfl) (by exact rfl) (by exact rfl) (kr (by exact rfl) (by exact rfl)) (by refine cN (au rfl (dh (by exact rfl) YG (by assumption)) (by exact mD _ _ _)) ?_;refine cN (au rfl (cT (by exact rfl)) (by exact cE _)) ?_;refine cN (au rfl (nE (by exact rfl)) (by exact cE _)) ?_;refine cN (au rfl (iK (by exact rfl)) (by exact cE _)) ?_;refine cN (au rfl (iK (by exact rfl)) (by exact cE _)) ?_;exact sN) ?_;have x6:Ext G5 (G5.push (.cells [.slice a5 (ei w x).length c5] true 1)):=(Ext.refl G5).push _;have hvb:∀q' a c,(.slice av i cv:Value)= .slice (some ⟨q',0,none⟩) a c->h.next<=q'∧q'<G.next:=λq' a c e=>by rw[e]at ow;exact B4 ow
  have n6:(G5.push (.cells [.slice a5 (ei w x).length c5] true 1)).next=G5.next+1:=rfl
  refine JF (lo:=q) (n:=i) (cs:=vals) (c1:=[.slice a5 (ei w x).length c5]) ((ow.ext (x2.trans (x5.trans x6))).low (by omega)) (by omega) (by omega) (by omega) rfl rfl rfl (by exact rfl) (by exact rfl) (by exact rfl) (LI (j8 (cs:=[.slice a5 (ei w x).length c5]) (z3 G5 _) rfl rfl)) rfl rfl on1 (by show dK q G5.log;rw[x5.log,x2.log];exact lG) (x6.wf (x5.wf WG2)) ?_;intro G7 lg o7 n7 l7 W7 hold7;have n7:G5.next+1<G7.next:=n7
  have hold7:∀z,z<G5.next->(∀q' a c,(.slice av i cv:Value)= .slice (some ⟨q',0,none⟩) a c->z≠q')->G7.get z=G5.get z:=λz hz hne=>(hold7 z (by show z<G5.next+1;omega) hne).trans (z4 hz)
  have o7:Own (G5.next+1) G7 1 (.slice (some ⟨G5.next+1,0,none⟩) (i+1) UNK) (i+1) (vals++[.slice a5 (ei w x).length c5]):=o7;have gq7:G7.get q=some (.cells (quL w pv (.slice av i cv) (.slice (some ⟨b,o,none⟩) os.length c) mv) true 1):=(hold7 q (by omega) (λq' a c e=>by have:=(hvb q' a c e).1;omega)).trans gq5;refine⟨_,by(repeat apply aN rfl);apply aL rfl (au rfl (iK (by exact rfl)) (by exact cE _)) rfl;exact bJ,?_⟩;have kc:(Nat.beq (bG (cellsOf (.slice (some ⟨G5.next+1,0,none⟩) (i+1) UNK))) 1&&Nat.ble (0+17+1) (bG (quL w pv (.slice av i cv) (.slice (some ⟨b,o,none⟩) os.length c) mv))&&dX (cellsOf (.slice (some ⟨G5.next+1,0,none⟩) (i+1) UNK)))=true:=by
   rw[bO (quL w pv (.slice av i cv) (.slice (some ⟨b,o,none⟩) os.length c) mv),kql (.slice av i cv)];rfl
  have kst:=kqset (.slice av i cv) (.slice (some ⟨G5.next+1,0,none⟩) (i+1) UNK) rfl;have kqn7:q<G7.next:=by omega
  refine Y2 ?_;refine ij rfl rfl rfl (by exact rfl) (by exact rfl) (by exact rfl) gq7 kc kst kqn7 (by(repeat apply aN rfl);exact bJ) ?_;refine Y8 ?_;refine⟨os.length-(i+1),by omega,i+1, .slice (some ⟨G5.next+1,0,none⟩) (i+1) UNK,vals++[.slice a5 (ei w x).length c5],by omega,rfl,rfl,rfl,W7.as (AS.wr h.next _ _ _),(by show h.next<=G7.next;omega),vN l7 (Nat.le_refl q),λe=>(by omega),λ_=>OU hqn,λz hz hne=> ?_,?_,?_,og on1 rfl,λj r hj=> ?_⟩
  ·exact(z5 hne).trans ((hold7 z (by omega) (λq' a c e=>by have:=(hvb q' a c e).1;omega)).trans ((x5.old z (by omega)).trans ((x2.old z (by omega)).trans (oG z hz hne))))
  ·rw[z6,gq7];rfl
  ·exact(o7.keep (h':=G7.wr h.next q (.cells (quL w pv (.slice (some ⟨G5.next+1,0,none⟩) (i+1) UNK) (.slice (some ⟨b,o,none⟩) os.length c) mv) true 1)) (Nat.le_refl _) λz hz _=>z5 (by omega)).low (by omega)
  ·have hvl:vals.length=i:=by
    have:=ow.slice (by omega);exact Le ow
   have hml:((os.take i).map (ei w)).length=i:=by rw[List.length_map,List.length_take];omega
   rw[gN hx,List.map_append]at hj;rcases Nat.lt_or_ge j i with hji|hji
   ·rw[List.getElem?_append_left (by omega)]at hj;obtain⟨u',hu',qo⟩:=hvs j r hj;refine⟨u',by rw[List.getElem?_append_left (by omega)];exact hu',qo.MH (by show G.next<=G7.next;omega) λz hz=> ?_⟩;have hzb:=qo.vb hz;refine(z5 (by omega)).trans ((hold7 z (by omega) (λq' a c e=> ?_)).trans ((x5.old z (by omega)).trans (x2.old z (by omega))));rw[e]at ow;exact qo.ne (Ld ow) z hz
   ·obtain rfl:j=i:=by
     have:=(List.getElem?_eq_some_iff.1 hj).1;rw[List.length_append,hml]at this;simp at this;omega
    rw[List.getElem?_append_right (by omega),hml,Nat.sub_self]at hj;simp at hj;subst hj;refine⟨_,by rw[List.getElem?_append_right (by omega),hvl,Nat.sub_self];rfl,(q5.low (by omega)).MH (by show G5.next<=G7.next;omega) λz hz=> ?_⟩;have hzb:=q5.vb hz;exact(z5 (by omega)).trans ((hold7 z (by omega) (λq' a c e=>by have:=(hvb q' a c e).2;omega)))
 ·obtain rfl:i=os.length:=by omega
  have mlt:aq .lss (.int .i64 (os.length:Nat)) (.int .i64 (os.length:Nat))=some (.bool false):=gj (by omega);rw[List.take_length]at hvs;have hon:0<os.length->kV v=false:=λq=>Iq ow q;have hsl:=ow.slice (by omega);refine Y9 ?_;refine D8 (λz hz=>lG z hz) ?_ rfl ⟨oG,v,gqG,vals,?_,λj r hj=> ?_⟩
  ·rcases Nat.eq_zero_or_pos os.length with q0|q0
   ·exact .inl (hi0 q0)
   ·exact .inr ⟨q,hqn,hi1 q0,_,_,_,gqG,Bj (hon q0) (List.mem_append_right _ (by simp))⟩
  ·rw[List.length_map];exact hsl
  ·obtain⟨u,hu,qu⟩:=hvs j r hj;refine⟨u,hu,qu.ss λs hs=> ?_⟩;have hjm:=List.mem_of_getElem? hj;obtain⟨x,_,rfl⟩:=List.mem_map.1 hjm;exact nX hw hs
def jJ(w:List Nat×List Nat)(l:List Pb)(os:List (List Nat)):Int:=
 if sIn w.1 w.2=false then 1 else if 6<os.length then 2 else if os.any (λs=>decide (s=s0))=true then 1 else prE l
structure Ml (T:Nat->Option af):Prop where
 ne:FB T
 cp:CI T
 f141:T 141=some f141
theorem Kp{h:Heap}{e:Env}{w:List Nat×List Nat}(hw:IsW w){x1 x2 x3 x4:Operand}{pv ov mv:Value}(h1:ev h e x1=some (wV w))(h2:ev h e x2=some pv)(h3:ev h e x3=some ov)(h4:ev h e x4=some mv)(c2:cellsOf pv=[pv])(c3:cellsOf ov=[ov])(c4:cellsOf mv=[mv]):
 iS h e [(.int .u64 0),(.int .u64 0),(.int .u64 0),(.int .u64 0),(.int .u64 0),(.int .u64 0),(.int .u64 0),(.int .u64 0),(.int .u64 0),(.int .u64 0),(.int .u64 0),(.int .u64 0),(.int .u64 0),(.int .u64 0),(.int .u64 0),(.int .u64 0),(.slice none 0 0),(.slice none 0 0),(.slice none 0 0),(.map none)] [(0,16,x1),(16,1,x2),(18,1,x3),(19,1,x4)]=some (quL w pv (.slice none 0 0) ov mv):=by
 have hl:=iq hw;have e1:cellsOf (wV w)=wL w:=by show(wL w).toArray.toList=_;simp
 have k1:bG (wL w)=16:=by rw[bO,hl]
 have p1:cM [(.int .u64 0),(.int .u64 0),(.int .u64 0),(.int .u64 0),(.int .u64 0),(.int .u64 0),(.int .u64 0),(.int .u64 0),(.int .u64 0),(.int .u64 0),(.int .u64 0),(.int .u64 0),(.int .u64 0),(.int .u64 0),(.int .u64 0),(.int .u64 0),(.slice none 0 0),(.slice none 0 0),(.slice none 0 0),(.map none)] 0 (wL w)=wL w++[.slice none 0 0, .slice none 0 0, .slice none 0 0, .map none]:=by
  rw[fB (by rw[hl];decide),hl];rfl
 have p2:cM (wL w++[.slice none 0 0, .slice none 0 0, .slice none 0 0, .map none]) 16 [pv]=wL w++[pv, .slice none 0 0, .slice none 0 0, .map none]:=by
  rw[fB (by rw[List.length_append,hl];simp),List.take_append_of_le_length (by omega),List.take_of_length_le (by omega),List.drop_append,List.drop_of_length_le (by simp;omega),hl];simp
 have p3:cM (wL w++[pv, .slice none 0 0, .slice none 0 0, .map none]) 18 [ov]=wL w++[pv, .slice none 0 0,ov, .map none]:=by
  rw[fB (by rw[List.length_append,hl];simp),List.take_append,List.take_of_length_le (by omega),List.drop_append,List.drop_of_length_le (by simp;omega),hl];simp
 have p4:cM (wL w++[pv, .slice none 0 0,ov, .map none]) 19 [mv]=wL w++[pv, .slice none 0 0,ov,mv]:=by
  rw[fB (by rw[List.length_append,hl];simp),List.take_append,List.take_of_length_le (by omega),List.drop_append,List.drop_of_length_le (by simp;omega),hl];simp
 have k2:∀a b c d:Value,bG (wL w++[a,b,c,d])=20:=λa b c d=>by rw[bO,List.length_append,hl];rfl
 simp only[iS,h1,h2,h3,h4,e1,c2,c3,c4,k1,k2,p1,p2,p3,p4];rfl
theorem DW(l:List Value):cellsOf (.agg l.toArray)=l:=by show l.toArray.toList=_;simp
def Rn(h:Heap)(w:List Nat×List Nat)(pv ov:Value)(e:Int)(v:Value)(h':Heap):Prop:=
 (e≠0/\v= .tuple #[.pointer none, .int .i64 e])∨(e=0/\∃q m,v= .tuple #[.pointer (some ⟨q,0,none⟩), .int .i64 0]/\h.next<=m/\m<q/\q<h'.next/\h'.get q=some (.cells (quL w pv (.slice none 0 0) ov (.map (some m))) true 1)/\h'.get m=some (.map []))
theorem uo(F:Ml T){h:Heap}(hr:Rdy h){w:List Nat×List Nat}(hw:IsW w){pv ov:Value}{l:List Pb}(sp:PbS h pv l)(hl:l.length<1000000){os:List (List Nat)}(so:SsQ h ov os)(hol:os.length<1000000):
 Al T 141 [wV w,pv,ov] h (Rn h w pv ov (jJ w l os)):=by
 have hp:=F.cp.p;refine .of hp F.f141 hr ?_ ?_
 ·rintro v h1 hv (q|⟨_,q,m,rfl,_⟩)
  ·exact .inl q
  ·cases hv
 obtain⟨a,c,rfl⟩:=sp.form;obtain⟨a2,c2,rfl⟩:=so.sl.form;have hwc:cellsOf (wV w)=wL w:=by show(wL w).toArray.toList=_;simp
 have x0:Ext h (h.push (.cells (cellsOf (wV w)) true 1)):=(Ext.refl h).push _;have g0:(h.push (.cells (cellsOf (wV w)) true 1)).get h.next=some (.cells (wL w) true 1):=by rw[hwc];exact z3 h _
 have n0:(h.push (.cells (cellsOf (wV w)) true 1)).next=h.next+1:=rfl
 refine Y5 ?_;generalize(h.push (.cells (cellsOf (wV w)) true 1))=H at*;have W:=x0.wf hr.wf;have hL:=x0.log.trans hr.log;have wk:=qq hw;have wkl:=lB hw;have C1:=OT F.ne (h:={H with log:=[]}) (.of W) hw;have C2:=ta hp F.ne.nd.f196 F.ne.nd.f257 (h:={H with log:=[]}) (.of W) ((so.ext x0).log []) hol (g:=90) (cap:=[]) (λs=>decide (s=s0)) λs hs=>C8 hp F.cp.f90 (.of W) (so.ok s hs);have C3:=Kh F.cp (h:={H with log:=[]}) (.of W) ((sp.ext x0).log []) hl;unfold jJ;cases hin:sIn w.1 w.2 with
 |false=>
  rw[hin]at C1;rw[if_pos rfl];refine Y4 ?_;refine FW.pu C1 ?_;refine Y9 ?_;exact dy hL rfl (.inl ⟨by decide,rfl⟩)
 |true=>
 rw[hin]at C1;rw[if_neg (by simp)];by_cases h6:6<os.length
 ·have m1:aq .gtr (.int .i64 (os.length:Nat)) (.int .i64 6)=some (.bool true):=kI (by omega);rw[if_pos h6];refine Y4 ?_;refine FW.pu C1 ?_;refine Y18 ?_;exact dy hL rfl (.inl ⟨by decide,rfl⟩)
 have m1:aq .gtr (.int .i64 (os.length:Nat)) (.int .i64 6)=some (.bool false):=jM (by omega);rw[if_neg h6];cases ha:os.any (λs=>decide (s=s0))with
 |true=>
  rw[ha]at C2;rw[if_pos rfl];refine Y4 ?_;refine FW.pu C1 ?_;refine Y18 ?_;refine FW.pu C2 ?_;refine Y8 ?_;exact dy hL rfl (.inl ⟨by decide,rfl⟩)
 |false=>
 rw[ha]at C2;rw[if_neg (by simp)];by_cases he:prE l=0
 ·rw[he]at C3⊢;have mn:aq .neq (.int .i64 0) (.int .i64 0)=some (.bool false):=rfl;refine Y4 ?_;refine FW.pu C1 ?_;refine Y18 ?_;refine FW.pu C2 ?_;refine Y8 ?_;refine FW.pu C3 ?_;clear C1 C2 C3;refine Y13 ?_;refine aF J1 ?_;refine aF (oK (Kp hw (by exact rfl) (by exact rfl) (by exact rfl) (by exact rfl) rfl rfl rfl)) ?_;have hqc:=DW (quL w (.slice a l.length c) (.slice none 0 0) (.slice a2 os.length c2) (.map (some H.next)));refine Y5 ?_;refine dy hL rfl (.inr ⟨rfl,_,_,rfl,?_,Nat.lt_succ_self _,Nat.lt_succ_self _,?_,?_⟩)
  ·show h.next<=H.next;omega
  ·rw[hqc];exact z3 _ _
  ·exact(z4 (Nat.lt_succ_self _)).trans (z3 _ _)
 ·have mn:aq .neq (.int .i64 (prE l)) (.int .i64 0)=some (.bool true):=kJ he;generalize prE l=e at*;refine Y4 ?_;refine FW.pu C1 ?_;refine Y18 ?_;refine FW.pu C2 ?_;refine Y8 ?_;refine FW.pu C3 ?_;refine Y14 ?_;exact dy hL rfl (.inl ⟨he,rfl⟩)
end Go.A.Pk
end
