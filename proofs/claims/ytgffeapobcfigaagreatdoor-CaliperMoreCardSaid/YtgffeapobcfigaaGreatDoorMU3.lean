/- Walks of functions, plain laws, the table. -/
import Derived.Test.YtgffeapobcfigaaGreatDoorMU2
import Derived.Test.YtgffeapobcfigaaGreatDoorMU1
import Derived.Test.YtgffeapobcfigaaGreatDoorMF
import Derived.Shelf.SlSortCmp.NoneTotal
import Derived.Test.YtgffeapobcfigaaGreatDoorProg
import Derived.Test.YtgffeapobcfigaaGreatDoorMH
import Derived.KernelRfl
import Derived.Test.YtgffeapobcfigaaGreatDoorMD
set_option linter.all false
section
set_option maxRecDepth 100000
namespace Go.A.Pk
variable {T:Nat→Option af}
inductive OwE (lo:Nat) (h:Heap) (sz:Nat):Value→Nat→List Value→Prop
 |own {v n cs}:Own lo h sz v n cs→OwE lo h sz v n cs
 |lit {b}:lo≤b→b<h.next→h.get b=some (.cells [] true sz)→OwE lo h sz (.slice (some ⟨b,0,none⟩) 0 0) 0 []
section
variable {base:Nat} {rnd:Option Nat} {Q:XQ} {e:Env} {ds:Dfs} {h:Heap} {dst:Option Nat} {os:List aW} {x y:Operand} {v u:Value} {lo sz n i:Nat} {cs:List Value} {k:IntKind}
end
end Go.A.Pk
end
section
set_option maxRecDepth 100000
namespace Go.A.Pk
variable {T:Nat→Option af}
theorem IL{base:Nat}{rnd:Option Nat}{Q:XQ}{e:Env}{ds:Dfs}{h:Heap}{lo sz bytes n:Nat}{dst:Option Nat}{os:List aW}{x y:Operand}{v u:Value}{cs c1:List Value}(s:Own lo h sz v n cs)(hn:n<1000000)(hsz:0<sz)(hb:bytes≤100000)
 (hx:ev h e x=some v)(hy:ev h e y=some u)(hs:cW h sz u=some (c1,1))(hl1:c1.length=sz)(h1:dR c1=true)
 (hK:∀h',Own h.next h' sz (.slice (some ⟨h.next,0,none⟩) (n+1) UNK) (n+1) (cs++c1)→h'.next=h.next+1→(∀z∈h'.log,lo≤z∨z∈h.log)→(WF h→WF h')→(∀z,z<h.next→(∀m c,v≠ .slice (some ⟨z,0,none⟩) m c)→h'.get z=h.get z)→WO T base rnd Q os (bM e dst (.slice (some ⟨h.next,0,none⟩) (n+1) UNK)) ds h'):
 WO T base rnd Q (⟨dst, .append sz bytes x y,none⟩::os) e ds h:=by
 have hbd:(2*(n+1)+768)*bytes≤281474976710656:=by
  have:(2*(n+1)+768)*bytes≤2000768*100000:=Nat.mul_le_mul (by omega) hb
  omega
 cases s with
 |nil=>
  refine an (qS (n:=1) hx hy hs (by omega) (by simpa using hbd) rfl) ?_
  exact hK _ (Own.full (lo:=h.next) (h:=h.push (.cells c1 true sz)) (sz:=sz) (q:=h.next) (n:=1) (cs:=c1) (Nat.le_refl _) (Nat.lt_succ_self _) (z3 _ _) (by omega) (by omega)) rfl (fun z hz=> .inr hz) (fun w=>w.push _) (fun z hz _=>z4 hz)
 | @full q _ _ q1 q2 q3 q4 q5=>
   refine an (mg (n:=1) (vs:=cs) (ws:=cs++c1) hx hy hs (by omega) q3 q4 hsz h1 hbd (dD _ _)) ?_
   exact hK _ (.full (Nat.le_refl _) (Nat.lt_succ_self _) (z3 _ _) (by rw[List.length_append,q4,hl1,Nat.add_mul,Nat.one_mul]) (by omega)) rfl (fun z hz=>by
    rcases dO (b:=q) (o:= .dead) hz with rfl|hz
    ·exact .inl q1
    ·exact .inr hz) (fun w=>(w.as (AS.wr base _ q .dead)).push _) (fun z hz hne=>(z4 (by exact hz)).trans (z5 (fun e=>hne n UNK (by subst e;rfl))))
section
open I
def vt:aY:=I.R [g 8 (.new (aT 8 (.int .u64 0))),S 8 8 16] [6,8]
def vu:aY:= .block 1 (I.R [L 17 6,N 18 8 8,g 19 (.cU (aT 8 (.int .u64 0)) 1 [(0,8,(t 18))]),g 20 (.append 8 64 (t 17) (t 19)),S 1 6 20] [])
end
set_option maxHeartbeats 8000000 in
theorem zW(hp:bt T){H:Heap}(hr:Rdy H){q l lo lo2:Nat}{fv v:Value}{ss:List (List Nat)}{f:Fi}(hfs:IsS f.s)(hm:ss.length<1000000)(hlo:lo≤q)
 (gl:H.get l=some (.loop [(6, .pointer (some ⟨q,0,none⟩)),(14,fv)] [15,16] vt vu 0 .normal))
 (go:H.get q=some (.cells [v] true 1))(own:Own lo2 H 8 v ss.length (ssL ss))(hlo2:lo≤lo2)(hq2:q<lo2)(hl2:l<lo2)(h2n:lo2≤H.next):
 FW T (.yield l) (fiV f) H fun r H'=>r= .ret (.bool true)∧(∀z∈H'.log,lo≤z)∧q∈H'.log∧∃p,H'.get q=some (.cells [.slice (some ⟨p,0,none⟩) (ss.length+1) UNK] true 1)∧H.next≤p∧Own lo2 H' 8 (.slice (some ⟨p,0,none⟩) (ss.length+1) UNK) (ss++[f.s]).length (ssL (ss++[f.s]))∧(∀z,z<H.next→z≠q→(∀m c,v≠ .slice (some ⟨z,0,none⟩) m c)→H'.get z=H.get z)∧WF H'∧H.next≤H'.next∧p<H'.next:=by
 have no:q≠l:=fun e=>by subst e;rw[go]at gl;cases gl
 have ko:=hr.wf.ef go
 have kl:=hr.wf.ef gl
 have hvl:∀m c,v≠ .slice (some ⟨l,0,none⟩) m c:=fun m c e=>by
  rw[e]at own
  generalize hn:ss.length=n at own
  generalize ssL ss=cs at own
  cases own with
  |full h1=>omega
 have hvq:∀m c,v≠ .slice (some ⟨q,0,none⟩) m c:=fun m c e=>by
  rw[e]at own
  generalize hn:ss.length=n at own
  generalize ssL ss=cs at own
  cases own with
  |full h1=>omega
 refine FW.NL hp (q:=q) (R:=fun H'=>∃p,H'.get q=some (.cells [.slice (some ⟨p,0,none⟩) (ss.length+1) UNK] true 1)∧H.next≤p∧Own lo2 H' 8 (.slice (some ⟨p,0,none⟩) (ss.length+1) UNK) (ss++[f.s]).length (ssL (ss++[f.s]))∧(∀z,z<H.next→z≠q→(∀m c,v≠ .slice (some ⟨z,0,none⟩) m c)→H'.get z=H.get z)∧WF H'∧H.next≤H'.next∧p<H'.next) gl rfl kl ko no ?_
 have k8:=bF hfs.len
 have k9:=cD hfs.len
 have kln:=hfs.len
 unfold vt
 refine aJ ?_;refine an (dL) ?_
 refine an (dg (by exact rfl) (by exact rfl) (by(simp(disch:=first|omega|(simp only[z1,z2];omega))only[z3,z4,z5,z6,z7,z1,z2,gl,go];exact rfl)) (by(simp only[aI];assumption)) (by exact rfl) (by exact dB _)) ?_;refine dN ?_
 refine y1 ?_
 refine⟨rfl,by(simp(disch:=first|omega|(simp only[z1,z2];omega))only[z3,z4,z5,z6,z7,z1,z2,gl,go];exact rfl),?_⟩
 unfold vu
 refine aK ?_
 refine WE.wR ?_
 intro hA hAe
 have A1:∀z,z<H.next→z≠l→H.get z=hA.get z:=fun z hz hne=>by rw[hAe];symm;simp(disch:=first|omega|(simp only[z1,z2];omega))only[z5,z4]
 have A3:hA.get H.next=some (.cells (us f.s) true 1):=by rw[hAe];(simp(disch:=first|omega|(simp only[z1,z2];omega))only[z3,z4,z5,z6,z7,z1,z2,gl,go];done)
 have A2:hA.get l=some (.loop [(6, .pointer (some ⟨q,0,none⟩)),(14,fv)] [15,16] vt vu 1 .normal):=by rw[hAe];(simp(disch:=first|omega|(simp only[z1,z2];omega))only[z3,z4,z5,z6,z7,z1,z2,gl,go,A3];exact rfl)
 have A5:hA.next=H.next+1:=by rw[hAe];rfl
 have A6:hA.log=[]:=by rw[hAe];simp(disch:=first|omega|(simp only[z1,z2];omega))only[Heap.aN,Heap.tS];exact hr.log
 have A7:WF hA:=by rw[hAe];exact(((hr.wf.push _).as (AS.wr _ _ _ _)).as (AS.wr _ _ _ _))
 clear hAe
 have Bo:=(A1 q ko no).symm.trans go
 have hsl:ssL [f.s]=us f.s:=by simp[ssL]
 have ownA:Own lo2 hA 8 v ss.length (ssL ss):=own.keep (by omega) fun z hz hz2=>(A1 z hz2 (by omega)).symm
 clear go
 refine aJ ?_;refine yL ?_;refine yV ?_
 refine an (iZ (Js hfs (by exact rfl)) (show bZ (aT 8 (Value.int IntKind.u64 0))=8 from rfl)) ?_
 refine IL (lo:=lo2) (c1:=us f.s) (ownA.ext ((Ext.refl hA).push _)) hm (by omega) (by omega) (by exact rfl) (by exact rfl) (ki (cs:=us f.s) (by(simp(disch:=first|omega|(simp only[z1,z2];omega))only[z3,z4,z5,z6,z7,z1,z2,gl,A3,A2,Bo];exact rfl)) k9 (by rw[aI,hfs.len])) (by rw[aI,hfs.len]) (dB _) ?_
 intro h3 own3 n3 l3 w3 o3
 have own3:Own (H.next+2) h3 8 (.slice (some ⟨H.next+2,0,none⟩) (ss.length+1) UNK) (ss.length+1) (ssL ss++us f.s):=by
  have e:(hA.push (.cells (us f.s) true 8)).next=H.next+2:=by show hA.next+1=_;omega
  rw[←e];exact own3
 have n3:h3.next=H.next+3:=by rw[n3];show hA.next+1+1=_;omega
 have l3:∀z∈h3.log,lo2≤z:=fun z hz=>(l3 z hz).elim id fun e=>by
  have e:z∈hA.log:=e
  rw[A6]at e;cases e
 have o3:∀z,z<H.next+1→(∀m c,v≠ .slice (some ⟨z,0,none⟩) m c)→h3.get z=hA.get z:=fun z hz hne=>(o3 z (by show z<hA.next+1;omega) hne).trans (z4 (by omega))
 have W3:WF h3:=w3 (A7.push _)
 have e5:∀o,(hA.push o).next=H.next+2:=fun o=>by show hA.next+1=_;omega
 rw[e5]
 have Co:=(o3 q (by omega) hvq).trans Bo
 have Cl:=(o3 l (by omega) hvl).trans A2
 have hce:ssL (ss++[f.s])=ssL ss++us f.s:=by rw[sV,hsl]
 have hcl:(ss++[f.s]).length=ss.length+1:=by simp
 clear Bo A3 A2
 refine yS ?_;refine dN ?_;refine y1 ?_;refine ff ?_
 refine⟨rfl,⟨_,by(simp(disch:=first|omega|(simp only[z1,z2];omega))only[z3,z4,z5,z6,z7,z1,z2,gl,Co,Cl];exact rfl),rfl⟩,fun z hz=> ?_,pP (by omega),⟨_,_,_,Heap.bB Co,rfl⟩,H.next+2,(z5 no).trans (Heap.bB Co),by omega,?_,fun z hz h1 h2=> ?_,?_,?_,?_⟩
 ·rcases dO hz with rfl|hz
  ·exact hlo
  ·exact Nat.le_trans hlo2 (l3 z hz)
 ·rw[hce,hcl]
  exact Own.low (lo:=H.next+2) (Own.keep own3 (Nat.le_refl _) fun z hz _=>(z5 (by omega)).trans (z5 (by omega))) (by omega)
 ·by_cases hl:z=l
  ·subst hl
   rw[gl]
   exact Heap.bB ((z5 (Ne.symm no)).trans Cl)
  ·exact(z5 hl).trans ((z5 h1).trans ((o3 z (by omega) h2).trans (A1 z (by omega) hl).symm))
 ·exact(W3.as (AS.wr _ _ _ _)).as (AS.wr _ _ _ _)
 ·show H.next≤h3.next
  omega
 ·show H.next+2<h3.next
  omega
theorem wO{a b:List Nat}{f:Fi}(h:f∈jP a b):IsS f.s∧∃t x y z,f.s=nA (jj b t) (jm (jj b t)).1 x y z:=by
 unfold jP at h
 split at h
 ·cases h
 ·obtain⟨t,_,h⟩:=List.mem_flatMap.1 h
  unfold oU Jt wN tL vh at h
  obtain⟨z,_,h⟩:=List.mem_flatMap.1 h
  obtain⟨y,_,h⟩:=List.mem_flatMap.1 h
  obtain⟨x,_,h⟩:=List.mem_flatMap.1 h
  split at h
  ·rw[List.mem_singleton.1 h]
   exact⟨qk (uO b t) _ _ _ _,t,x,y,z,rfl⟩
  ·cases h
structure PPl (l q:Nat) (H0:Heap) (L:bJ) (done:List Fi) (H:Heap):Prop where
 old:∀z,z<l→z≠q→H.get z=H0.get z
 loop:H.get l=some L
 nx:l<H.next
 val:∃v,H.get q=some (.cells [v] true 1)∧Own (l+1) H 8 v (done.map (·.s)).length (ssL (done.map (·.s)))
 few:done.length≤100000
def wPl(q:Nat)(H:Heap)(z:Nat):Prop:=z=q∨∃m c,H.get q=some (.cells [.slice (some ⟨z,0,none⟩) m c] true 1)
theorem PPl.fF{l q:Nat}{H0:Heap}{L:bJ}(hq:q<l)(done:List Fi)(H H':Heap)(p:PPl l q H0 L done H)(hn:H.next≤H'.next)(h:∀x,x<H.next→H'.get x=H.get x):PPl l q H0 L done H':=by
 obtain⟨p1,p2,p3,⟨v,p4,p5⟩,p6⟩:=p
 exact⟨fun z hz hne=>(h z (by omega)).trans (p1 z hz hne),(h l p3).trans p2,by omega,⟨v,(h q (by omega)).trans p4,p5.keep hn fun z _ hz=>h z hz⟩,p6⟩
theorem Bh{lo sz n:Nat}{h:Heap}{p m c:Nat}{cs:List Value}(s:Own lo h sz (.slice (some ⟨p,0,none⟩) m c) n cs):lo≤p∧p<h.next:=by
 cases s with
 |full h1 h2=>exact⟨h1,h2⟩
theorem Cb(hf:T 189=some (.jW (nM 168 190))){k:Nat}(hk:k=168∨k=190){lo:Nat}{h:Heap}{v:Value}{l:List (List Nat)}(s:OwS lo h v l)(hok:∀x∈l,IsS x)(hl:l.length<1000000):
 Gs T 189 [v, .func (.func k) #[] #[]] h (vB v) (fun _ h'=>OwS lo h' v (eD l)):=by
 have hlen:=jG l
 have e0:Dd 168 190 (.func (.func k) #[] #[])=true:=by
  rcases hk with rfl|rfl<;>rfl
 rcases s with⟨rfl,rfl⟩|⟨b,c,tl,h1,h2,h3,rfl,h4,h5⟩
 ·have e:eD []=[]:=List.length_eq_zero_iff.1 hlen
  rw[e]
  refine⟨.ret (.tuple #[]),h,⟨1,fun n hn=> ?_⟩,⟨Nat.le_refl _,fun z hz=> .inl hz,fun _ _ _=>rfl,id⟩, .tuple #[],rfl, .inl ⟨rfl,rfl⟩⟩
  obtain⟨k',rfl⟩:∃k,n=k+1:=⟨n-1,by omega⟩
  simp only[iE,hf,nM,e0,cond_true]
 ·have e2:(Dd 168 190 (.func (.func k) #[] #[])&&(Nat.beq 0 0&&Nat.blt l.length 1000000))=true:=by rw[e0,fR hl];rfl
  have e3:=Ah (t:=tl) hok
  have e4:bW (l.length*8) (ssL l++tl)=tl:=by rw[bD,←fA hok,List.drop_left]
  refine⟨.ret (.tuple #[]),h.wr h.next b (.cells (ssL (eD l)++tl) true 8),⟨1,fun n hn=> ?_⟩,?_, .tuple #[],rfl, .inr ⟨b,c,tl,h1,h2,?_,by rw[hlen],by omega,fun q=>h5 fun q2=>q (by rw[q2];exact List.length_eq_zero_iff.1 (jG []))⟩⟩
  ·obtain⟨k',rfl⟩:∃k,n=k+1:=⟨n-1,by omega⟩
   simp only[iE,hf,nM,h3,e2,cond_true,e3,e4]
  ·refine⟨Nat.le_refl _,fun z hz=> ?_,fun z hz hnz=> ?_,fun w=>w.as (AS.wr h.next _ _ _)⟩
   ·rcases dO hz with rfl|hz
    ·exact .inr ⟨_,_,rfl⟩
    ·exact .inl hz
   ·exact z5 (fun e=>hnz (by rw[e];exact⟨_,_,rfl⟩))
  ·show(h.wr h.next b (.cells (ssL (eD l)++tl) true 8)).get b=_
   rw[z6,h3];rfl
structure EF (T:Nat→Option af):Prop where
 fi:Ll T
 f72:T 72=some f72
 f167:T 167=some f167
 f189:T 189=some (.jW (nM 168 190))
 f192:T 192=some f192
theorem Ec(F:EF T){h:Heap}(hr:Rdy h){lo:Nat}(hlo:h.next≥lo){v:Value}{l:List (List Nat)}(s:OwS lo h v l)(hok:∀x∈l,IsS x)(hl:l.length<1000000):
 Gs T 167 [v, .func (.func 168) #[] #[]] h (vB v) (fun v h'=>OwS lo h' v (ddS (eD l))):=by
 have hp:=F.fi.ft.li.p
 refine .of hp F.f167 (fun v h1 h2 hv hn2 hag hq=>OwS.flat hv hq) ?_
 have C1:=Cb F.f189 (.inl rfl) (h:={h with log:=[]}) (s.log []) hok hl
 refine y4 ?_;refine yM ?_;refine y3 ?_;refine y4 ?_;refine yM ?_;refine yM ?_
 refine yC ?_
 refine FW.gs C1 (fun v h' m q=>q.log m) ?_
 rintro _ H1 x1 q1
 clear C1
 have hok2:∀x∈eD l,IsS x:=fun x hx=>hok x (lZ.1 hx)
 have C2:=tD hp F.f192 (h:={H1 with log:=[]}) (.of (x1.wf hr.wf)) (q1.log []) hok2 (by rw[jG];exact hl)
 refine y3 ?_;refine y4 ?_;refine yM ?_
 refine yC ?_
 refine FW.gs C2 (fun v h' m q=>q.log m) ?_
 rintro v2 H2 x2 q2
 clear C2
 have lg1:∀z∈H1.log,vB v z:=fun z hz=>(x1.log z hz).elim (fun q=>by rw[hr.log]at q;cases q) id
 have lg2:∀z∈H2.log,vB v z:=fun z hz=>(x2.log z hz).elim (fun q=>lg1 z q) id
 refine yM ?_;refine y3 ?_;refine aG ?_
 exact jd lg2 rfl q2
def vg(a b:List Nat):List (List Nat):=if b=s0 then []else ddS (eD ((jP a b).map (·.s)))
theorem Cq{a b s:List Nat}(h:s∈vg a b):IsS s:=by
 unfold vg at h
 split at h
 ·cases h
 ·obtain⟨f,hf,rfl⟩:=List.mem_map.1 (lZ.1 (sM h))
  exact(wO hf).1
theorem Lf(lo:Int)(n:Nat):(zrN lo n).length=n:=by unfold zrN;simp
theorem qe{α β:Type}{f:α→List β}{k:Nat}:∀{l:List α},(∀x∈l,(f x).length≤k)→(l.flatMap f).length≤l.length*k
 |[],_=>by simp
 |x::l,h=>by
  have h1:=h x List.mem_cons_self
  have h2:=qe fun y hy=>h y (List.mem_cons_of_mem x hy)
  rw[List.flatMap_cons,List.length_append,List.length_cons,Nat.add_mul];omega
theorem vH(a b:List Nat):(jP a b).length≤98304:=by
 have hz:∀{lo hi:Int}, -7≤lo→hi≤7→(zr lo hi).length≤16:=fun {lo hi} h1 h2=>by
  unfold zr;rw[Lf];omega
 have ra:=sK a
 unfold jP
 split
 ·simp
 ·refine Nat.le_trans (qe (k:=4096) fun t _=> ?_) (by simp)
  have bp:=sK (jj b t)
  obtain⟨⟨⟨r1,r2⟩,⟨r3,r4⟩,⟨r5,r6⟩⟩,⟨⟨r7,r8⟩,⟨r9,r10⟩,⟨r11,r12⟩⟩⟩:=ra
  obtain⟨⟨⟨b1,b2⟩,⟨b3,b4⟩,⟨b5,b6⟩⟩,⟨⟨b7,b8⟩,⟨b9,b10⟩,⟨b11,b12⟩⟩⟩:=bp
  unfold oU Jt
  refine Nat.le_trans (qe (k:=256) fun z _=> ?_) (by have:=hz (lo:=(jm a).1.lo.z-(jm (jj b t)).1.lo.z) (hi:=(jm a).1.hi.z-(jm (jj b t)).1.hi.z) (by omega) (by omega);omega)
  unfold wN
  refine Nat.le_trans (qe (k:=16) fun y _=> ?_) (by have:=hz (lo:=(jm a).1.lo.y-(jm (jj b t)).1.lo.y) (hi:=(jm a).1.hi.y-(jm (jj b t)).1.hi.y) (by omega) (by omega);omega)
  unfold tL
  refine Nat.le_trans (qe (k:=1) fun x _=> ?_) (by have:=hz (lo:=(jm a).1.lo.x-(jm (jj b t)).1.lo.x) (hi:=(jm a).1.hi.x-(jm (jj b t)).1.hi.x) (by omega) (by omega);omega)
  unfold vh
  split<;>simp
theorem zV(a b:List Nat):(vg a b).length≤98304:=by
 unfold vg
 split
 ·simp
 ·refine Nat.le_trans (wH _) ?_
  rw[jG,List.length_map];exact vH a b
def Kg(b:List Nat):Int:=if b=s0 then 1 else 0
set_option maxHeartbeats 16000000 in
theorem Hr(F:EF T){h:Heap}(hr:Rdy h)(hg:Tab h)(h2:2<h.next){a b:List Nat}(ha:IsS a)(hb:IsS b):
 Al T 72 [sv a,sv b] h fun v h'=>∃u,v= .tuple #[u, .int .i64 (Kg b)]∧OwS h.next h' u (vg a b):=by
 have hp:=F.fi.ft.li.p
 refine .of hp F.f72 hr ?_ ?_
 ·rintro v h1 hv ⟨u,rfl,q⟩
  have hu:cB u=true:=by
   have e:cB (.tuple #[u, .int .i64 (Kg b)])=iS [u, .int .i64 (Kg b)]:=rfl
   rw[e]at hv
   simp only[iS,cond_eq_ite,Bool.if_false_right,Bool.and_eq_true]at hv
   have hf:flat u=true:=of_decide_eq_true hv.1
   unfold cB
   split
   ·rename_i cs
    rcases q with⟨h1,_⟩|⟨_,_,_,_,_,_,h1,_⟩<;>cases h1
   ·exact hf
  exact⟨u,rfl,OwS.flat hu q⟩
 have ka8:=bF ha.len
 have ka9:=cD ha.len
 have kb8:=bF hb.len
 have kb9:=cD hb.len
 have x0:Ext h ((h.push (.cells (cellsOf (sv a)) true 1)).push (.cells (cellsOf (sv b)) true 1)):=((Ext.refl h).push _).push _
 have gA:((h.push (.cells (cellsOf (sv a)) true 1)).push (.cells (cellsOf (sv b)) true 1)).get h.next=some (.cells (us a) true 1):=by(simp(disch:=first|omega|(simp only[z1,z2];omega))only[z3,z4,z5,z6,z7,z1,z2];exact rfl)
 have gB:((h.push (.cells (cellsOf (sv a)) true 1)).push (.cells (cellsOf (sv b)) true 1)).get (h.next+1)=some (.cells (us b) true 1):=by(simp(disch:=first|omega|(simp only[z1,z2];omega)|(simp only[z1,z2];done)|fail)only[z8,z4,z5,z9,z7,z1,z2,gA];exact rfl)
 have n0:((h.push (.cells (cellsOf (sv a)) true 1)).push (.cells (cellsOf (sv b)) true 1)).next=h.next+2:=rfl
 refine y4 ?_;refine yB ?_;refine yB ?_;refine yM ?_;refine yM ?_;refine y3 ?_
 generalize((h.push (.cells (cellsOf (sv a)) true 1)).push (.cells (cellsOf (sv b)) true 1))=H at*
 have W:=x0.wf hr.wf
 have hL:=x0.log.trans hr.log
 have hfl:=vH a b
 unfold vg Kg
 by_cases he:b=s0
 ·rw[if_pos he,if_pos he]
  refine ah ?_;refine y4 ?_;refine yV ?_;refine an (ez (by exact rfl)) ?_
  refine an (mP (b:=s0) (by exact rfl) (by exact rfl) hb.len rfl) ?_
  rw[decide_eq_true he]
  refine y3 ?_;refine yY ?_;refine y4 ?_;refine yM ?_;refine yM ?_;refine y3 ?_;refine aG ?_;refine eW ?_
  exact ej hL rfl ⟨_,rfl, .inl ⟨rfl,rfl⟩⟩
 rw[if_neg he,if_neg he]
 refine ah ?_;refine y4 ?_;refine yV ?_;refine an (ez (by exact rfl)) ?_
 refine an (mP (b:=s0) (by exact rfl) (by exact rfl) hb.len rfl) ?_
 rw[decide_eq_false he]
 have x1:Ext H (H.push (.cells [.slice none 0 0] true 1)):=(Ext.refl H).push _
 have q6:(H.push (.cells [.slice none 0 0] true 1)).get H.next=some (.cells [.slice none 0 0] true 1):=z3 _ _
 have n1:(H.push (.cells [.slice none 0 0] true 1)).next=H.next+1:=rfl
 refine y3 ?_;refine yX ?_;refine aH ?_;refine aV ?_;refine y4 ?_;refine an (dL) ?_;refine y3 ?_
 generalize(H.push (.cells [.slice none 0 0] true 1))=H1 at*
 have ey1':=x0.trans x1
 have W1:=ey1'.wf hr.wf
 have hL1:=ey1'.log.trans hr.log
 have gA1:=(x1.old _ (by omega)).trans gA
 have gB1:=(x1.old _ (by omega)).trans gB
 have C:=Ju F.fi (h:={H1 with log:=[]}) (.of W1) ha hb
 clear gA gB
 refine ah ?_;refine y4 ?_;refine yV ?_;refine yV ?_
 refine yC ?_
 refine FW.al C (fun v h' m q=>q) ?_
 rintro _ H2 x2 ⟨qa,qb,rfl,ga,gb,kqa,kqb,na,nb⟩
 clear C
 have na:H1.next≤qa:=na
 have nb:H1.next≤qb:=nb
 have ey2':=ey1'.trans x2
 have W2:=ey2'.wf hr.wf
 have hL2:=ey2'.log.trans hr.log
 have n2:=x2.next
 have p6:=(x2.old _ (by omega)).trans q6
 have hg2:Tab H2:=hg.ext ey2' h2
 clear gA1 gB1 q6
 refine y3 ?_;refine aK ?_
 refine Et (lo:=H.next) (P:=PPl H2.next H.next H2 (.loop [(6, .pointer (some ⟨H.next,0,none⟩)),(14,fnF qa qb)] [15,16] vt vu 0 .normal) (jP a b)) rfl (by rfl) (by rw[F.fi.ft.f209];rfl) (by omega) (by omega) hL2 W2 ?_ (fun H p=>⟨_,_,_,_,p.loop⟩) ?_
 ·have Y:CR T H.next (H2.next+1) H2.next H.next fiV (jP a b) (PPl H2.next H.next H2 (.loop [(6, .pointer (some ⟨H.next,0,none⟩)),(14,fnF qa qb)] [15,16] vt vu 0 .normal)) (wPl H.next):=by
   refine⟨by omega,fun done f Hh hx hlen hrH hN hP=> ?_,PPl.fF (by omega),fun done H' H'' p hn hs z hz=> ?_,fun done H' z p hz=> ?_⟩
   ·obtain⟨p1,p2,p3,⟨v,p4,p5⟩,p6⟩:=hP
    refine FW.mono' (zW hp hrH (lo:=H.next) (lo2:=H2.next+1) (ss:=done.map (·.s)) (wO hx).1 (by rw[List.length_map];omega) (Nat.le_refl _) p2 p4 p5 (by omega) (by omega) (by omega) hN) ?_
    rintro r' H' ⟨r1,r2,r3,p,r4,r5,r6,r7,r8,r9,r10⟩
    have hvl:∀z,z<H2.next+1→∀m c,v≠ .slice (some ⟨z,0,none⟩) m c:=fun z hz m c e=>by
     rw[e]at p5
     have:=(Bh p5).1
     omega
    refine⟨r1,r2,r3,⟨_,_,_,r4,rfl⟩,⟨fun z hz hne=>(r7 z (by omega) hne (hvl z (by omega))).trans (p1 z hz hne),(r7 _ (by omega) (by omega) (hvl _ (by omega))).trans p2,by omega,⟨_,r4,by rw[List.map_append];exact r6⟩,by rw[List.length_append];show done.length+1≤_;omega⟩,fun z hz hn=>r7 z hz (fun e=>hn (.inl e)) fun m c e=>hn (.inr ⟨m,c,by rw[←e];exact p4⟩),fun z hz=> ?_⟩
    rcases hz with rfl|⟨m,c,hz⟩
    ·exact .inl (.inl rfl)
    ·rw[r4]at hz
     cases hz
     exact .inr r5
   ·obtain⟨p1,p2,p3,⟨v,p4,p5⟩,p6⟩:=p
    rcases hz with rfl|⟨m,c,hz⟩
    ·exact .inl rfl
    ·exact .inr ⟨m,c,by rw[←hs _ (by omega)];exact hz⟩
   ·obtain⟨p1,p2,p3,⟨v,p4,p5⟩,p6⟩:=p
    rcases hz with rfl|⟨m,c,hz⟩
    ·omega
    ·rw[p4]at hz
     cases hz
     exact(Bh p5).2
  exact FA F.fi.ft (.of (W2.push (.loop [(6, .pointer (some ⟨H.next,0,none⟩)),(14,fnF qa qb)] [15,16] vt vu 0 .normal))) (qa:=qa) (qb:=qb) (l:=H2.next) (N:=H2.next+1) (lo:=H.next) ha hb (Nat.le_refl _) (by show H.next≤H2.next+1;omega) (by omega) Y (fun d H' hP=>(hP.old _ kqa (by omega)).trans ga) (fun d H' hP=>(hP.old _ kqb (by omega)).trans gb) (fun d H' hP=>(hP.old 2 (by omega) (by omega)).trans hg2)
   ⟨fun z hz _=>z4 (by omega),z3 _ _,Nat.lt_succ_self _,⟨_,(z4 (by omega)).trans p6, .nil⟩,Nat.zero_le _⟩
 intro h4 h5 k1 k2 k3 k4 k5 k6 hP
 obtain⟨p1,p2,p3,⟨v,p4,p5⟩,p7⟩:=hP
 have D:=(k5 H.next (by omega)).trans p4
 have ow:=p5.keep (h':=h5) (by omega) fun z hz _=>k5 z (by omega)
 have hok:∀x∈(jP a b).map (·.s),IsS x:=fun x hx=>by
  obtain⟨f,hf,rfl⟩:=List.mem_map.1 hx
  exact(wO hf).1
 have hlen:((jP a b).map (·.s)).length<1000000:=by rw[List.length_map];omega
 generalize(jP a b).map (·.s)=l at*
 have os:=Pk.Own.owS ow (by omega)
 have C:=Ec F (h:={h5 with log:=[]}) (.of k2) (lo:=H2.next+1) (by show H2.next+1≤h5.next;omega) (os.log []) hok hlen
 clear p4 p1 p2
 refine ff ?_;refine aV ?_;refine y4 ?_;refine yL ?_
 refine yC ?_
 refine FW.gs0 C (fun v h' m q=>q.log m) (fun z hz=>by have:=(os.vb hz).1;omega) ?_
 rintro v6 H6 n6 l6 o6 w6 s6
 clear C
 refine yM ?_;refine yM ?_;refine y3 ?_;refine aG ?_
 exact ej (l6.trans k1) rfl ⟨_,rfl,s6.low (by omega)⟩
structure yx (T:Nat→Option af):Prop where
 pl:EF T
 f35:T 35=some f35
 f92:T 92=some f92
 f121:T 121=some f121
 f124:T 124=some f124
 f193:T 193=some f193
 f194:T 194=some f194
 f195:T 195=some f195
 f196:T 196=some f196
 f197:T 197=some f197
 f257:T 257=some f257
def Cj(r:List (List Nat))(x:List Nat):Bool:=r.any fun y=> !decide (y=x)&&sIn y x
def ua(w:List Nat×List Nat)(o:List Nat):List (List Nat):=ddS (eD ((vg w.2 o).map fun p=>iV p w.1))
def fQ(w:List Nat×List Nat)(o:List Nat):List (List Nat):=(ua w o).filter fun x=> !Cj (ua w o) x
theorem zK{w:List Nat×List Nat}(hw:IsW w){o s:List Nat}(h:s∈ua w o):IsS s:=by
 obtain⟨p,hp,rfl⟩:=List.mem_map.1 (lZ.1 (sM h))
 exact(Cq hp).less hw.a
theorem vP(w:List Nat×List Nat)(o:List Nat):(ua w o).length≤98304:=by
 refine Nat.le_trans (wH _) ?_
 rw[jG,List.length_map];exact zV _ _
theorem Hl(F:yx T){h:Heap}(hr:Rdy h){q:Nat}{x y:List Nat}(hx:IsS x)(hy:IsS y)(g:h.get q=some (.cells (us x) true 1)):Pu T 197 [sv y, .pointer (some ⟨q,0,none⟩)] h (.bool (!decide (y=x)&&sIn y x)):=by
 have hp:=F.pl.fi.ft.li.p
 refine .of hp F.f197 hr rfl ?_
 have kq:=hr.wf.ef g
 have kx8:=bF hx.len
 have kx9:=cD hx.len
 have ky8:=bF hy.len
 have ky9:=cD hy.len
 have x0:Ext h (h.push (.cells (cellsOf (sv y)) true 1)):=(Ext.refl h).push _
 have g0:(h.push (.cells (cellsOf (sv y)) true 1)).get h.next=some (.cells (us y) true 1):=by(simp(disch:=first|omega|(simp only[z1,z2];omega))only[z3,z4,z5,z6,z7,z1,z2,g];exact rfl)
 have n0:(h.push (.cells (cellsOf (sv y)) true 1)).next=h.next+1:=rfl
 refine y4 ?_;refine yB ?_;refine yM ?_;refine y3 ?_
 generalize(h.push (.cells (cellsOf (sv y)) true 1))=H at*
 have W:=x0.wf hr.wf
 have hL:=x0.log.trans hr.log
 have gx:=(x0.old _ kq).trans g
 have C:=AK hp F.f35 F.f121 (h:={H with log:=[]}) (.of W) hy hx
 by_cases he:y=x
 ·rw[decide_eq_true he]
  refine y4 ?_;refine yV ?_;refine yV ?_
  refine an (mP (b:=x) (by exact rfl) (by exact rfl) hy.len hx.len) ?_
  rw[decide_eq_true he]
  refine yM ?_;refine yP ?_;refine yP ?_;refine yP ?_;refine yU ?_;refine yM ?_;refine y3 ?_;refine aG ?_
  exact aD hL rfl rfl
 ·rw[decide_eq_false he]
  refine y4 ?_;refine yV ?_;refine yV ?_
  refine an (mP (b:=x) (by exact rfl) (by exact rfl) hy.len hx.len) ?_
  rw[decide_eq_false he]
  refine yM ?_;refine yO ?_;refine yV ?_;refine yO ?_;refine yV ?_;refine yO ?_
  refine yC ?_
  refine FW.pu C ?_
  clear C
  refine yT ?_;refine yM ?_;refine y3 ?_;refine aG ?_
  exact aD hL rfl rfl
theorem JL(F:yx T){h:Heap}(hr:Rdy h){q:Nat}{v:Value}{r:List (List Nat)}(s:SsQ h v r)(hn:r.length<1000000){x:List Nat}(hx:IsS x)(g:h.get q=some (.cells [v] true 1)):Pu T 195 [sv x, .pointer (some ⟨q,0,none⟩)] h (.bool (Cj r x)):=by
 have hp:=F.pl.fi.ft.li.p
 refine .of hp F.f195 hr rfl ?_
 have kq:=hr.wf.ef g
 have x0:Ext h (h.push (.cells (cellsOf (sv x)) true 1)):=(Ext.refl h).push _
 have g0:(h.push (.cells (cellsOf (sv x)) true 1)).get h.next=some (.cells (us x) true 1):=by(simp(disch:=first|omega|(simp only[z1,z2];omega))only[z3,z4,z5,z6,z7,z1,z2,g];exact rfl)
 have n0:(h.push (.cells (cellsOf (sv x)) true 1)).next=h.next+1:=rfl
 refine y4 ?_;refine yB ?_;refine yM ?_;refine y3 ?_
 generalize(h.push (.cells (cellsOf (sv x)) true 1))=H at*
 have W:=x0.wf hr.wf
 have hL:=x0.log.trans hr.log
 have gx:=(x0.old _ kq).trans g
 obtain⟨a,c,rfl⟩:=s.sl.form
 have C:=rT hp F.f196 F.f257 (h:={H with log:=[]}) (.of W) ((s.ext x0).log []) hn (g:=197) (cap:=[.pointer (some ⟨h.next,0,none⟩)]) (fun y=> !decide (y=x)&&sIn y x) fun y hy=>Hl F (h:={H with log:=[]}) (.of W) hx (s.ok y hy) g0
 unfold Cj
 refine y4 ?_;refine yL ?_;refine an (gK (by exact rfl) (by exact rfl)) ?_
 refine yC ?_
 refine FW.pu C ?_
 clear C
 refine yM ?_;refine y3 ?_;refine aG ?_
 exact aD hL rfl rfl
theorem vf{l:List (List Nat)}{i:Nat}{x:List Nat}(f:List Nat→List Nat)(hi:l[i]? =some x):((l.take i).map f++l.drop i).set i (f x)=(l.take (i+1)).map f++l.drop (i+1):=by
 obtain⟨hlt,hx⟩:=List.getElem?_eq_some_iff.1 hi
 have hl:((l.take i).map f).length=i:=by rw[List.length_map,List.length_take];omega
 rw[List.drop_eq_getElem_cons hlt,List.set_append_right _ _ (Nat.le_of_eq hl),hl,Nat.sub_self,List.set_cons_zero,iW hi,List.map_append,List.append_assoc]
 rfl
theorem zI{l:List (List Nat)}{i:Nat}{x:List Nat}(f:List Nat→List Nat)(hi:l[i]? =some x):((l.take i).map f++l.drop i)[i]? =some x:=by
 have hlt:=(List.getElem?_eq_some_iff.1 hi).1
 rw[List.getElem?_append_right (by simp;omega),List.getElem?_drop,List.length_map,List.length_take,Nat.min_eq_left (by omega),Nat.sub_self,Nat.add_zero,hi]
theorem OwS.wr{lo base p:Nat}{h:Heap}{v:Value}{l:List (List Nat)}{ob:bJ}(q:OwS lo h v l)(hz:∀z,vB v z→z≠p):OwS lo (h.wr base p ob) v l:=by
 rcases q with q|⟨b,c,t,h1,h2,h3,rfl,h4⟩
 ·exact .inl q
 ·exact .inr ⟨b,c,t,h1,h2,(z5 (hz b ⟨_,_,rfl⟩)).trans h3,rfl,h4⟩
theorem OwS.ne{lo p:Nat}{h:Heap}{v:Value}{l:List (List Nat)}{vs:List Value}{own:Bool}(q:OwS lo h v l)(g:h.get p=some (.cells vs own 1)):∀z,vB v z→z≠p:=by
 rintro z ⟨m,c,hv⟩ rfl
 rcases q with⟨rfl,_⟩|⟨b,c',t,h1,h2,h3,rfl,h4⟩
 ·cases hv
 ·cases hv
  rw[g]at h3
  cases h3
set_option maxHeartbeats 16000000 in
theorem JN(F:yx T){h:Heap}(hr:Rdy h)(hg:Tab h)(h2:2<h.next){w:List Nat×List Nat}(hw:IsW w){o:List Nat}(ho:IsS o):Al T 92 [wV w,sv o] h fun v h'=>OwS h.next h' v (fQ w o):=by
 have hp:=F.pl.fi.ft.li.p
 refine .of hp F.f92 hr (fun v h1 hv q=>OwS.flat hv q) ?_
 have hwc:cellsOf (wV w)=wL w:=by show(wL w).toArray.toList=_;simp
 have g0:((h.push (.cells (cellsOf (wV w)) true 1)).push (.cells (cellsOf (sv o)) true 1)).get h.next=some (.cells (wL w) true 1):=by rw[hwc];exact(z4 (Nat.lt_succ_self _)).trans (z3 h _)
 have g1:((h.push (.cells (cellsOf (wV w)) true 1)).push (.cells (cellsOf (sv o)) true 1)).get (h.next+1)=some (.cells (us o) true 1):=z3 _ _
 have n0:((h.push (.cells (cellsOf (wV w)) true 1)).push (.cells (cellsOf (sv o)) true 1)).next=h.next+2:=rfl
 have x0:Ext h ((h.push (.cells (cellsOf (wV w)) true 1)).push (.cells (cellsOf (sv o)) true 1)):=((Ext.refl h).push _).push _
 refine y4 ?_;refine yB ?_;refine yB ?_;refine yM ?_;refine y3 ?_
 generalize((h.push (.cells (cellsOf (wV w)) true 1)).push (.cells (cellsOf (sv o)) true 1))=H at*
 have W:=x0.wf hr.wf
 have hL:=x0.log.trans hr.log
 have wk:=uW hw
 have wkl:=oE hw
 have wa:=K3 hw
 have wb:=IK hw
 have wka:=bF hw.a.len
 have wkb:=bF hw.b.len
 have k8:=bF ho.len
 have k9:=cD ho.len
 have C1:=Hr F.pl (h:={H with log:=[]}) (.of W) (show Tab H from hg.ext x0 h2) (by show 2<H.next;omega) hw.b ho
 have hok0:∀x∈vg w.2 o,IsS x:=fun x hx=>Cq hx
 have hlen0:=zV w.2 o
 have hA:ua w o=ddS (eD ((vg w.2 o).map fun p=>iV p w.1)):=rfl
 have hAl:=vP w o
 have hAok:∀x∈ua w o,IsS x:=fun x hx=>zK hw hx
 unfold fQ
 generalize ua w o=r at*
 generalize vg w.2 o=l at*
 refine y4 ?_;refine yF ?_;refine yV ?_;refine yV ?_
 refine yC ?_
 refine FW.al C1 (fun v h' m q=>q) ?_
 rintro _ H1 x1 ⟨u,rfl,q1⟩
 have q1:OwS H.next H1 u l:=q1
 clear C1
 have ey1:=x0.trans x1
 have n1:=x1.next
 have g01:=(x1.old _ (by omega)).trans g0
 have x2:=iC (h:=H1) (base:=h.next) (by omega) (.cells [.slice none 0 0] true 1) (.cells [u] true 1)
 have g5:=jB (h:=H1) (base:=h.next) [.slice none 0 0] [u]
 have n2:((H1.push (.cells [.slice none 0 0] true 1)).wr h.next H1.next (.cells [u] true 1)).next=H1.next+1:=rfl
 obtain⟨a,c,rfl⟩:=q1.form
 clear g0 g1
 refine yM ?_;refine yE ?_;refine yE ?_;refine an (dL) ?_
 refine yS ?_;refine yM ?_;refine y3 ?_
 refine WE.wR ?_
 intro H2 hH2
 have e2:H2=((H1.push (.cells [.slice none 0 0] true 1)).wr h.next H1.next (.cells [.slice a l.length c] true 1)):=hH2
 rw[←e2]at x2 g5 n2
 clear hH2 e2
 have ey2:=ey1.trans x2
 have W2:=ey2.wf hr.wf
 have hL2:=ey2.log.trans hr.log
 have g02:=(x2.old _ (by omega)).trans g01
 have q2:=q1.ext x2
 refine fB (E0:=[(2, .pointer (some ⟨h.next,0,none⟩)),(5, .pointer (some ⟨H1.next,0,none⟩)),(16, .int .i64 (l.length:Nat)),(17, .int .i64 (l.length:Nat)),(18, .bool false)]) (P:=fun h'=>WF h'∧h'.log=[]∧H2.next≤h'.next∧(∀z,z<H.next→h'.get z=H2.get z)∧h'.get H1.next=some (.cells [.slice a l.length c] true 1)∧OwS H.next h' (.slice a l.length c) (l.map fun p=>iV p w.1)) ?_ ?_
 ·rcases q2 with⟨hv,rfl⟩|⟨b,c',tl,hb1,hb2,hb3,hv,hcl,hcu⟩
  ·cases hv
   refine y4 ?_;refine yL ?_;refine yD ?_;refine yM ?_;refine y3 ?_;refine aK ?_
   refine dG (fun mm e ds h'=>0=mm∧e=[(2, .pointer (some ⟨h.next,0,none⟩)),(5, .pointer (some ⟨H1.next,0,none⟩)),(16, .int .i64 0),(17, .int .i64 0)]∧ds=[]∧H2=h') ⟨rfl,rfl,rfl,rfl⟩ ?_
   rintro mm e ds _ ⟨rfl,rfl,rfl,rfl⟩
   refine y4 ?_;refine yf ?_;refine y3 ?_;refine ah ?_;refine yX ?_;refine dw ?_;refine dQ ?_;refine dQ ?_;refine iN ?_
   exact⟨rfl,rfl,rfl,W2,hL2,Nat.le_refl _,fun _ _=>rfl,g5, .inl ⟨rfl,rfl⟩⟩
  ·cases hv
   have hb0:b<H1.next:=(q1.vb ⟨_,_,rfl⟩).2
   refine y4 ?_;refine yL ?_;refine yD ?_;refine yM ?_;refine y3 ?_;refine aK ?_
   refine dG (fun mm e ds h'=>∃i:Nat,i≤l.length∧l.length-i=mm∧e=[(2, .pointer (some ⟨h.next,0,none⟩)),(5, .pointer (some ⟨H1.next,0,none⟩)),(16, .int .i64 (l.length:Nat)),(17, .int .i64 (i:Nat))]∧ds=[]∧WF h'∧h'.log=[]∧H2.next=h'.next∧(∀z,z≠b→h'.get z=H2.get z)∧h'.get b=some (.cells (ssL ((l.take i).map (fun p=>iV p w.1)++l.drop i)++tl) true 8))
    ⟨0,Nat.zero_le _,rfl,rfl,rfl,W2,hL2,rfl,fun _ _=>rfl,hb3⟩ ?_
   rintro mm e ds H3 ⟨i,hi,rfl,rfl,rfl,w3,l3,n3,o3,gb⟩
   have g53:=(o3 H1.next (by omega)).trans g5
   have g03:=(o3 h.next (by omega)).trans g02
   by_cases hlt:i<l.length
   ·obtain⟨x,hx⟩:∃x,l[i]? =some x:=⟨l[i],List.getElem?_eq_getElem hlt⟩
    have hxs:=hok0 x (List.mem_of_getElem? hx)
    have hokm:∀y∈(l.take i).map (fun p=>iV p w.1)++l.drop i,IsS y:=fun y hy=>by
     rcases List.mem_append.1 hy with hy|hy
     ·obtain⟨p,hp,rfl⟩:=List.mem_map.1 hy
      exact(hok0 p (List.mem_of_mem_take hp)).less hw.a
     ·exact hok0 y (List.mem_of_mem_drop hy)
    have hml:((l.take i).map (fun p=>iV p w.1)++l.drop i).length=l.length:=by
     rw[List.length_append,List.length_map,List.length_take,List.length_drop];omega
    have rx:=oD (t:=tl) hokm (zI _ hx)
    have hset:=vf (fun p=>iV p w.1) hx
    have hls:=hxs.less hw.a
    have C:=JA hp F.f124 (h:={H3 with log:=[]}) (.of w3) hxs hw.a
    have kc:=yd (t:=tl) hokm hls (i:=i) (by omega)
    have kw:cO (ssL ((l.take i).map (fun p=>iV p w.1)++l.drop i)++tl) (0+i*8) (cellsOf (sv (iV x w.1)))=ssL ((l.take (i+1)).map (fun p=>iV p w.1)++l.drop (i+1))++tl:=by
     have e:cellsOf (sv (iV x w.1))=us (iV x w.1):=by show(us (iV x w.1)).toArray.toList=_;simp
     rw[e,yc hokm hls (by omega),hset]
    have kx:=bF hxs.len
    have mlt:aA .lss (.int .i64 (i:Nat)) (.int .i64 (l.length:Nat))=some (.bool true):=jg (by omega)
    generalize iV x w.1=lx at*
    generalize(l.take i).map (fun p=>iV p w.1)++l.drop i=m at*
    obtain rfl:=hcu (fun q=>by rw[q]at hlt;simp at hlt)
    refine y4 ?_;refine yW ?_;refine y3 ?_;refine ah ?_;refine yY ?_;refine aH ?_;refine aV ?_;refine ah ?_;refine aK ?_
    refine y4 ?_;refine yM ?_;refine yM ?_;refine y3 ?_;refine cV ?_
    refine qL ?_;refine qM ?_;refine qL ?_
    refine qM ?_;refine qI ?_;refine qV ?_
    refine qF ?_;refine qV ?_
    refine qC ?_
    refine FW.puD C (by(repeat apply aP rfl);apply aB rfl (aq rfl (fC (by exact rfl)) (by exact dZ _ _)) rfl;apply aB rfl (aq rfl (bO (by exact rfl) (by assumption) (by exact rfl)) (by exact fq _ _ _)) rfl;exact cC) ?_
    clear C
    refine qI ?_
    refine gP rfl rfl rfl (by exact rfl) (by exact rfl) (by exact rfl) gb kc kw (by omega) (by(repeat apply aP rfl);exact cC) ?_
    refine dy ?_;refine y1 ?_;refine ff ?_;refine aV ?_;refine aJ ?_;refine ia ?_;refine yM ?_;refine y3 ?_
    exact⟨l.length-(i+1),by omega,i+1,by omega,rfl,rfl,rfl,w3.as (AS.wr h.next _ _ _),(Heap.aN (by omega)).trans l3,n3,fun z hz=>(z5 hz).trans (o3 z hz),by rw[z6,gb];rfl⟩
   ·obtain rfl:i=l.length:=by omega
    have mlt:aA .lss (.int .i64 (l.length:Nat)) (.int .i64 (l.length:Nat))=some (.bool false):=jD (by omega)
    rw[List.take_length,List.drop_length,List.append_nil]at gb
    refine y4 ?_;refine yW ?_;refine y3 ?_;refine ah ?_;refine yX ?_;refine dw ?_;refine dQ ?_;refine dQ ?_;refine iN ?_
    refine⟨rfl,rfl,rfl,w3,l3,by omega,fun z hz=>o3 z (by omega),g53, .inr ⟨b,c,tl,hb1,by omega,gb,by rw[List.length_map],by rw[List.length_map];exact hcl,fun q=>hcu fun q2=>q (by rw[q2];rfl)⟩⟩
 have hvb:∀z,vB (.slice a l.length c) z→H.next≤z∧z<H1.next:=fun z hz=>q1.vb hz
 rintro H3 ⟨w3,l3,n3,o3,g53,q3⟩
 clear q2 q1 g5 g01
 have g03:=(o3 _ (by omega)).trans g02
 have hokm:∀y∈l.map (fun p=>iV p w.1),IsS y:=fun y hy=>by
  obtain⟨p,hp,rfl⟩:=List.mem_map.1 hy
  exact(hok0 p hp).less hw.a
 have hlm:(l.map fun p=>iV p w.1).length=l.length:=List.length_map _
 generalize hll:l.map (fun p=>iV p w.1)=lm at*
 have hlm2:lm.length<1000000:=by omega
 have C2:=Cb F.pl.f189 (.inr rfl) (h:={H3 with log:=[]}) (q3.log []) hokm hlm2
 refine y4 ?_;refine yL ?_
 refine yC ?_
 refine FW.gs0 C2 (fun v h' m q=>q.log m) (fun z hz=>by have:=(q3.vb hz).1;omega) ?_
 rintro v4 H4 n4 l4 o4 w4 q4
 clear C2
 have W4:=w4 w3
 have g54:=(o4 H1.next (by omega) (fun q=>by have:=(hvb _ q).2;omega)).trans g53
 have hok4:∀x∈eD lm,IsS x:=fun x hx=>hokm x (lZ.1 hx)
 have C3:=tD hp F.pl.f192 (h:={H4 with log:=[]}) (.of W4) (q4.log []) hok4 (by rw[jG];exact hlm2)
 rw[←hA]at C3
 refine y3 ?_;refine y4 ?_;refine yL ?_
 refine yC ?_
 refine FW.gs0 C3 (fun v h' m q=>q.log m) (fun z hz=>by have:=(q4.vb hz).1;omega) ?_
 rintro v5 H5 n5 l5 o5 w5 q5
 clear C3
 have W5:=w5 W4
 have hL5:=l5.trans (l4.trans l3)
 have g55:=(o5 H1.next (by omega) (fun q=>by have:=(hvb _ q).2;omega)).trans g54
 have ne5:=q5.ne g55
 obtain⟨a5,c5,rfl⟩:=q5.form
 have hn1:H1.next<H5.next:=by omega
 have q6:=q5.wr (base:=h.next) (ob:= .cells [.slice a5 r.length c5] true 1) ne5
 have g56:(H5.wr h.next H1.next (.cells [.slice a5 r.length c5] true 1)).get H1.next=some (.cells [.slice a5 r.length c5] true 1):=by rw[z6,g55];rfl
 have W6:WF (H5.wr h.next H1.next (.cells [.slice a5 r.length c5] true 1)):=W5.as (AS.wr h.next _ _ _)
 have hL6:(H5.wr h.next H1.next (.cells [.slice a5 r.length c5] true 1)).log=[]:=(Heap.aN (by omega)).trans hL5
 have n6:(H5.wr h.next H1.next (.cells [.slice a5 r.length c5] true 1)).next=H5.next:=rfl
 clear q5 q4 q3 g54 g53
 refine yS ?_;refine y3 ?_
 clear g55
 refine WE.wR ?_
 intro H6 hH6
 have e6:H6=H5.wr h.next H1.next (.cells [.slice a5 r.length c5] true 1):=hH6
 rw[←e6]at q6 g56 W6 hL6 n6
 clear hH6 e6
 have hrl:r.length<1000000:=by omega
 have C4:=Fk hp F.f194 (h:={H6 with log:=[]}) (.of W6) ((q6.ss hAok).log []) hrl
 refine y4 ?_;refine yL ?_
 refine yC ?_
 refine FW.al C4 (fun v h' m q=>q.log m) ?_
 rintro v7 H7 x7 q7
 have q7:OwS H6.next H7 v7 r:=q7
 clear C4
 have W7:=x7.wf W6
 have hL7:=x7.log.trans hL6
 have n7:=x7.next
 have C5:=C9 hp F.f193 F.f257 (h:={H7 with log:=[]}) (.of W7) (lo:=H6.next) (q7.log []) hAok hrl (g:=195) (cap:=[.pointer (some ⟨H1.next,0,none⟩)]) (Cj r) fun h' w hnn hold x hx=>
  JL F (h:={h' with log:=[]}) (.of w) (q:=H1.next) (v:= .slice a5 r.length c5) ((OwS.ss (q6.keep (h':=h') (by have:H7.next≤h'.next:=hnn;omega) fun z _ hz=>(hold z hz).trans (x7.old z hz)) hAok).log []) hrl hx ((hold _ (by omega)).trans ((x7.old _ (by omega)).trans g56))
 refine an (gK (by exact rfl) (by exact rfl)) ?_
 refine yC ?_
 refine FW.gs0 C5 (fun v h' m q=>q.log m) (fun z hz=>by have:=(q7.vb hz).1;omega) ?_
 rintro v8 H8 n8 l8 o8 w8 q8
 clear C5
 refine yM ?_;refine y3 ?_;refine aG ?_
 exact ej (l8.trans hL7) rfl (q8.low (by omega))
def lT(w:List Nat×List Nat):Bool:=decide (64<((jw w.2:Nat):Int)-((jw w.1:Nat):Int))
theorem Fl(s:List Nat):jw s≤512:=kz s 512
structure EE (T:Nat→Option af):Prop where
 nd:yx T
 f22:T 22=some f22
 f89:T 89=some f89
 f90:T 90=some f90
 f91:T 91=some f91
theorem NI(F:EE T){h:Heap}(hr:Rdy h){w:List Nat×List Nat}(hw:IsW w):Pu T 89 [wV w] h (.bool (sIn w.1 w.2)):=by
 have hp:=F.nd.pl.fi.ft.li.p
 refine .of hp F.f89 hr rfl ?_
 have hwc:cellsOf (wV w)=wL w:=by show(wL w).toArray.toList=_;simp
 have g0:(h.push (.cells (cellsOf (wV w)) true 1)).get h.next=some (.cells (wL w) true 1):=by rw[hwc];exact z3 h _
 have W:WF (h.push (.cells (cellsOf (wV w)) true 1)):=hr.wf.push _
 have hL:(h.push (.cells (cellsOf (wV w)) true 1)).log=[]:=hr.log
 refine y4 ?_;refine yB ?_;refine yM ?_;refine y3 ?_
 generalize(h.push (.cells (cellsOf (wV w)) true 1))=H at*
 have C:=AK hp F.nd.f35 F.nd.f121 (h:={H with log:=[]}) (.of W) hw.a hw.b
 have wa:=K3 hw
 have wb:=IK hw
 have wka:=bF hw.a.len
 have wkb:=bF hw.b.len
 refine y4 ?_;refine yF ?_;refine yV ?_;refine yF ?_;refine yV ?_
 refine yC ?_
 refine FW.pu C ?_
 refine yM ?_;refine y3 ?_;refine aG ?_
 exact aD hL rfl rfl
theorem Mx(F:EE T){h:Heap}(hr:Rdy h){w:List Nat×List Nat}(hw:IsW w):Pu T 91 [wV w] h (.bool (lT w)):=by
 have hp:=F.nd.pl.fi.ft.li.p
 refine .of hp F.f91 hr rfl ?_
 have hwc:cellsOf (wV w)=wL w:=by show(wL w).toArray.toList=_;simp
 have g0:(h.push (.cells (cellsOf (wV w)) true 1)).get h.next=some (.cells (wL w) true 1):=by rw[hwc];exact z3 h _
 have W:WF (h.push (.cells (cellsOf (wV w)) true 1)):=hr.wf.push _
 have hL:(h.push (.cells (cellsOf (wV w)) true 1)).log=[]:=hr.log
 refine y4 ?_;refine yB ?_;refine yM ?_;refine y3 ?_
 generalize(h.push (.cells (cellsOf (wV w)) true 1))=H at*
 have C1:=qc F.nd.pl.fi.ft.co (h:={H with log:=[]}) (.of W) hw.b
 have C2:=qc F.nd.pl.fi.ft.co (h:={H with log:=[]}) (.of W) hw.a
 have wa:=K3 hw
 have wb:=IK hw
 have wka:=bF hw.a.len
 have wkb:=bF hw.b.len
 have b1:=Fl w.1
 have b2:=Fl w.2
 have m1:aA .sub (.int .i64 ((jw w.2:Nat):Int)) (.int .i64 ((jw w.1:Nat):Int))=some (.int .i64 (((jw w.2:Nat):Int)-((jw w.1:Nat):Int))):=nF (cQ (by omega) (by omega))
 have m2:aA .gtr (.int .i64 (((jw w.2:Nat):Int)-((jw w.1:Nat):Int))) (.int .i64 64)=some (.bool (lT w)):=by
  unfold lT
  by_cases q:64<((jw w.2:Nat):Int)-((jw w.1:Nat):Int)
  ·rw[decide_eq_true q];exact gX q
  ·rw[decide_eq_false q];exact jV (by omega)
 generalize((jw w.2:Nat):Int)-((jw w.1:Nat):Int)=d at*
 refine ah ?_;refine cV ?_;refine qF ?_;refine qV ?_;refine qF ?_
 refine qV ?_
 refine qC ?_
 refine FW.puD C1 (by apply aB rfl (aq rfl (ct (by exact rfl) (by assumption) (by assumption) (by assumption)) (by exact qA _)) rfl;apply aB rfl (aq rfl (dz (by exact rfl)) (by exact bT _)) rfl;(repeat apply aP rfl);exact cC) ?_
 clear C1
 skip
 refine qC ?_
 refine FW.puD C2 (by(repeat apply aP rfl);exact cC) ?_
 clear C2
 refine qW ?_;refine qW ?_;refine qM ?_
 refine dy ?_;refine y1 ?_;refine aV ?_;refine aG ?_
 exact aD hL rfl rfl
structure Pb where
 cells:List Nat
 cost:Int
def pbL(p:Pb):List Value:=us p.cells++[.int .i64 p.cost]
def pbV(p:Pb):Value:= .agg (pbL p).toArray
def lW(l:List Pb):List Value:=l.flatMap pbL
theorem gw{p:Pb}(h:IsS p.cells):(pbL p).length=9:=by simp[pbL,aI,h.len]
theorem zU{p:Pb}(h:IsS p.cells):bH (pbL p) (0+8)=some (.int .i64 p.cost):=by
 rw[cM]
 show(us p.cells++[Value.int .i64 p.cost])[8]? =_
 rw[List.getElem?_append_right (by rw[aI,h.len];omega),aI,h.len];rfl
theorem oy{p:Pb}(h:IsS p.cells):cH 8 (bW (0+0) (pbL p))=us p.cells:=by
 rw[cG,bD]
 show(us p.cells++[Value.int .i64 p.cost]).take 8=_
 rw[List.take_append_of_le_length (by rw[aI,h.len];omega),List.take_of_length_le (by rw[aI,h.len];omega)]
theorem Kf{p:Pb}(h:IsS p.cells):cH 9 (bW 0 (pbL p))=pbL p:=by
 rw[cG,bD,List.drop_zero,List.take_of_length_le (by rw[gw h];omega)]
theorem qv{p:Pb}(h:IsS p.cells):Nat.beq (bZ (pbL p)) 9=true:=by rw[bQ,gw h];rfl
theorem qw(p:Pb):dR (pbL p)=true:=kH (dB _) rfl
theorem sq:∀{l:List Pb},(∀p∈l,IsS p.cells)→(lW l).length=l.length*9
 |[],_=>rfl
 |p::l,h=>by
  have e:lW (p::l)=pbL p++lW l:=rfl
  rw[e,List.length_append,gw (h p List.mem_cons_self),sq (fun x hx=>h x (List.mem_cons_of_mem _ hx)),List.length_cons];omega
theorem Hq:∀{l:List Pb} {i:Nat} {p:Pb},(∀p∈l,IsS p.cells)→l[i]? =some p→((lW l).drop (i*9)).take 9=pbL p
 |[],i,p,_,h=>by simp at h
 |q::l,0,p,hl,h=>by
  simp at h
  subst h
  have e:lW (q::l)=pbL q++lW l:=rfl
  have:=gw (hl q List.mem_cons_self)
  rw[e,Nat.zero_mul,List.drop_zero,List.take_append_of_le_length (by omega),List.take_of_length_le (by omega)]
 |q::l,i+1,p,hl,h=>by
  have e:lW (q::l)=pbL q++lW l:=rfl
  have e8:=gw (hl q List.mem_cons_self)
  have e2:(pbL q++lW l).drop 9=lW l:=by rw[←e8];exact List.drop_left
  rw[e,show(i+1)*9=9+i*9 by omega,←List.drop_drop,e2]
  exact Hq (fun s hs=>hl s (List.mem_cons_of_mem _ hs)) (by simpa using h)
structure LQ (vs:List Value) (o:Nat) (p:Pb):Prop where
 all:cH 9 (bW o vs)=pbL p
 cells:cH 8 (bW (o+0) vs)=us p.cells
 cost:bH vs (o+8)=some (.int .i64 p.cost)
theorem LQ.mk'{vs:List Value}{o:Nat}{p:Pb}(hp:IsS p.cells)(h:(vs.drop o).take 9=pbL p):LQ vs o p:=by
 refine⟨by rw[cG,bD];exact h,?_,?_⟩
 ·have:=oy hp
  rw[←this,cG,bD,cG,bD,←h,List.drop_take,List.drop_drop,List.take_take]
  rfl
 ·have:=zU hp
  rw[←this,cM,cM,←h,List.getElem?_take_of_lt (by omega),List.getElem?_drop,Nat.zero_add]
structure PbS (h:Heap) (v:Value) (l:List Pb):Prop where
 sl:bK h 9 v l.length (lW l)
 ok:∀p∈l,IsS p.cells
theorem PbS.elem{h:Heap}{v:Value}{l:List Pb}(s:PbS h v l){i:Nat}{p:Pb}(hi:l[i]? =some p):
 ∃b o c vs own t,v= .slice (some ⟨b,o,none⟩) l.length c∧h.get b=some (.cells vs own t)∧b<h.next∧LQ vs (o+i*9) p:=by
 have hlt:=(List.getElem?_eq_some_iff.1 hi).1
 rcases bK.inv s.sl with⟨_,_,h0,_⟩|⟨b,o,cap,hv,s1,hc⟩
 ·omega
 ·obtain⟨vs,own,t,g1,g2⟩:=s1.obj
  refine⟨b,o,cap,vs,own,t,hv,g1,s1.lt, .mk' (s.ok p (List.mem_of_getElem? hi)) ?_⟩
  rw[←Hq s.ok hi,←g2]
  simp only[cG,bD,List.drop_take,List.take_take,List.drop_drop]
  congr 1;omega
theorem PbS.form{h:Heap}{v:Value}{l:List Pb}(s:PbS h v l):∃a c,v= .slice a l.length c:=s.sl.form
theorem PbS.ext{h h':Heap}{v:Value}{l:List Pb}(s:PbS h v l)(x:Ext h h'):PbS h' v l:=⟨s.sl.ext x,s.ok⟩
theorem PbS.log{h:Heap}{v:Value}{l:List Pb}(s:PbS h v l)(m:List Nat):PbS {h with log:=m} v l:=⟨s.sl.log m,s.ok⟩
def mS(p:Pb):Bool:=decide (p.cells=s0)|| !inR p.cost 1 1000
def prE(l:List Pb):Int:=if 8<l.length then 2 else if l.any mS then 1 else 0
def tO(P:Pb→Bool):List Pb→Nat→Int
 |[],_=> -1
 |r::l,i=>if P r then(i:Int)else tO P l (i+1)
theorem Dg(P:Pb→Bool){l:List Pb}{i:Nat}{r:Pb}(hi:l[i]? =some r):tO P (l.drop i) i=if P r then(i:Int)else tO P (l.drop (i+1)) (i+1):=by
 obtain⟨hlt,rfl⟩:=List.getElem?_eq_some_iff.1 hi
 rw[List.drop_eq_getElem_cons hlt,tO]
theorem FL(P:Pb→Bool)(l:List Pb):tO P (l.drop l.length) l.length= -1:=by
 rw[List.drop_length];rfl
theorem zq(P:Pb→Bool):∀(l:List Pb) (i:Nat),decide (0≤tO P l i)=l.any P
 |[],_=>rfl
 |r::l,i=>by
  rw[tO,List.any_cons]
  by_cases h:P r=true
  ·rw[if_pos h,h,Bool.true_or];exact decide_eq_true (by omega)
  ·rw[if_neg h,zq P l (i+1)]
   have:P r=false:=by simpa using h
   rw[this,Bool.false_or]
structure BM (T:Nat→Option af):Prop where
 p:bt T
 f62:T 62=some f62
 f90:T 90=some f90
 f106:T 106=some f106
 f155:T 155=some f155
 f156:T 156=some f156
 f231:T 231=some f231
set_option maxHeartbeats 1000000 in
theorem L5(F:BM T){h:Heap}(hr:Rdy h){p:Pb}(hs:IsS p.cells):Pu T 156 [pbV p] h (.bool (mS p)):=by
 refine .of F.p F.f156 hr rfl ?_
 have hpc:cellsOf (pbV p)=pbL p:=by show(pbL p).toArray.toList=_;simp
 have x0:Ext h (h.push (.cells (cellsOf (pbV p)) true 1)):=(Ext.refl h).push _
 have g0:(h.push (.cells (cellsOf (pbV p)) true 1)).get h.next=some (.cells (pbL p) true 1):=by rw[hpc];exact z3 h _
 refine y4 ?_;refine yB ?_;refine yM ?_;refine y3 ?_
 generalize(h.push (.cells (cellsOf (pbV p)) true 1))=H at*
 have W:=x0.wf hr.wf
 have hL:=x0.log.trans hr.log
 have kc:=oy hs
 have kk:=bF hs.len
 have kx:=zU hs
 have C1:=B1 F.p F.f90 (h:={H with log:=[]}) (.of W) hs
 have C2:=O7 F.p F.f106 (h:={H with log:=[]}) (.of W) p.cost 1 1000
 unfold mS
 generalize decide (p.cells=s0)=b1 at*
 generalize inR p.cost 1 1000=b2 at*
 cases b1 with
 |true=>
  refine y4 ?_;refine yF ?_;refine yV ?_
  refine yC ?_
  refine FW.pu C1 ?_
  refine yM ?_;refine yP ?_;refine yP ?_;refine yP ?_;refine yP ?_;refine yT ?_;refine yM ?_;refine y3 ?_;refine aG ?_
  exact aD hL rfl rfl
 |false=>
  refine y4 ?_;refine yF ?_;refine yV ?_
  refine yC ?_
  refine FW.pu C1 ?_
  refine yM ?_;refine yO ?_;refine yF ?_;refine yO ?_;refine an (bO (by exact rfl) (by assumption) (by assumption)) ?_;refine yO ?_
  refine yC ?_
  refine FW.pu C2 ?_
  refine yO ?_;refine yA ?_;refine yU ?_;refine yM ?_;refine y3 ?_;refine aG ?_
  exact aD hL rfl rfl
set_option maxHeartbeats 1000000 in
theorem FP(F:BM T){h:Heap}(hr:Rdy h){v:Value}{l:List Pb}(s:PbS h v l)(hn:l.length<1000000){g:Nat}{cap:List Value}(P:Pb→Bool)
 (HP:∀r∈l,Pu T g (pbV r::cap) h (.bool (P r))):Pu T 231 [v, .func (.func g) #[] cap.toArray] h (.int .i64 (tO P l 0)):=by
 refine .of F.p F.f231 hr rfl ?_
 obtain⟨a,c,rfl⟩:=s.form
 refine y4 ?_;refine yM ?_;refine y3 ?_;refine ah ?_;refine y4 ?_;refine yM ?_;refine yD ?_;refine yM ?_
 refine y3 ?_;refine aK ?_
 refine dG (fun m e ds h'=>∃i:Nat,i≤l.length∧m=l.length-i∧e=[(0, .slice a l.length c),(1, .func (.func g) #[] cap.toArray),(7, .int .i64 (l.length:Nat)),(8, .int .i64 (i:Nat))]∧ds=[]∧h=h'∧tO P l 0=tO P (l.drop i) i)
  ⟨0,Nat.zero_le _,rfl,rfl,rfl,rfl,rfl⟩ ?_
 rintro m e ds _ ⟨i,hin,rfl,rfl,rfl,rfl,hi⟩
 by_cases hlt:i<l.length
 ·obtain⟨r,hri⟩:∃r,l[i]? =some r:=⟨l[i],List.getElem?_eq_getElem hlt⟩
  have hrm:=List.mem_of_getElem? hri
  obtain⟨b,o,c2,vs,own,t,hv,g1,hb,g2⟩:=s.elem hri
  cases hv
  have k1:=g2.all
  have k2:=qv (s.ok r hrm)
  have H:=HP r hrm
  have mlt:aA .lss (.int .i64 (i:Nat)) (.int .i64 (l.length:Nat))=some (.bool true):=jg (by omega)
  rw[Dg P hri]at hi
  refine y4 ?_;refine yW ?_;refine y3 ?_;refine ah ?_;refine yY ?_;refine aH ?_;refine aV ?_;refine ah ?_;refine aK ?_
  refine y4 ?_;refine yM ?_;refine yM ?_;refine y3 ?_;refine y4 ?_;refine yM ?_;refine yM ?_
  refine yM ?_;refine yI ?_;refine yV ?_
  refine mM (tf (all:=pbV r::cap) (by exact rfl) (by exact rfl) (by exact rfl) (by rw[dD,dD];simp[pbV])) ?_
  refine FW.pu (by rw[hr.self];exact H) ?_
  clear H HP
  cases hpr:P r with
  |true=>
   rw[hpr,if_pos rfl]at hi
   rw[hi]
   refine y3 ?_;refine yY ?_;refine y4 ?_;refine yM ?_;refine yM ?_;refine y3 ?_;refine aG ?_;refine mU ?_;refine eW ?_;refine eW ?_;refine mU ?_;refine eW ?_
   exact aD hr.log rfl rfl
  |false=>
   rw[hpr,if_neg (by simp)]at hi
   refine y3 ?_;refine yX ?_;refine aH ?_;refine ff ?_;refine aV ?_;refine aJ ?_;refine ia ?_;refine yM ?_;refine y3 ?_
   exact⟨l.length-(i+1),by omega,i+1,by omega,rfl,rfl,rfl,rfl,hi⟩
 ·obtain rfl:i=l.length:=by omega
  have mlt:aA .lss (.int .i64 (l.length:Nat)) (.int .i64 (l.length:Nat))=some (.bool false):=jD (by omega)
  rw[FL]at hi
  rw[hi]
  refine y4 ?_;refine yW ?_;refine y3 ?_;refine ah ?_;refine yX ?_;refine dw ?_;refine dQ ?_;refine dQ ?_;refine iN ?_;refine aV ?_
  refine y4 ?_;refine yM ?_;refine y3 ?_;refine aG ?_
  exact aD hr.log rfl rfl
theorem Jm(F:BM T){h:Heap}(hr:Rdy h){v:Value}{l:List Pb}(s:PbS h v l)(hn:l.length<1000000):Pu T 62 [v] h (.int .i64 (prE l)):=by
 refine .of F.p F.f62 hr rfl ?_
 obtain⟨a,c,rfl⟩:=s.form
 have hL:=hr.log
 unfold prE
 by_cases h8:8<l.length
 ·have m1:aA .gtr (.int .i64 (l.length:Nat)) (.int .i64 8)=some (.bool true):=gX (by omega)
  rw[if_pos h8]
  refine y4 ?_;refine yM ?_;refine y3 ?_;refine ah ?_;refine y4 ?_;refine yM ?_;refine yD ?_
  refine yW ?_;refine y3 ?_;refine yY ?_;refine y4 ?_;refine yM ?_;refine y3 ?_;refine aG ?_;refine eW ?_
  exact aD hL rfl rfl
 rw[if_neg h8]
 have m1:aA .gtr (.int .i64 (l.length:Nat)) (.int .i64 8)=some (.bool false):=jV (by omega)
 have C:Pu T 155 [.slice a l.length c, .func (.func 156) #[] #[]] {h with log:=[]} (.bool (l.any mS)):=by
  refine .of F.p F.f155 (.of hr.wf) rfl ?_
  have C:=FP F (h:={h with log:=[]}) (.of hr.wf) (s.log []) hn (g:=156) (cap:=[]) mS fun r hrm=>L5 F (.of hr.wf) (s.ok r hrm)
  rw[←zq mS l 0]
  generalize tO mS l 0=z at C⊢
  refine y4 ?_;refine yM ?_;refine y3 ?_;refine y4 ?_;refine yM ?_;refine yM ?_
  refine yC ?_
  refine FW.pu C ?_
  clear C
  have m1:aA .geq (.int .i64 z) (.int .i64 0)=some (.bool (decide (0≤z))):=zH
  refine yW ?_;refine yM ?_;refine y3 ?_;refine aG ?_
  exact aD rfl rfl rfl
 cases hb:l.any mS with
 |true=>
  rw[hb]at C
  rw[if_pos rfl]
  refine y4 ?_;refine yM ?_;refine y3 ?_;refine ah ?_;refine y4 ?_;refine yM ?_;refine yD ?_
  refine yW ?_;refine y3 ?_;refine yX ?_;refine aH ?_;refine aV ?_;refine ah ?_;refine y4 ?_;refine yM ?_
  refine yC ?_
  refine FW.pu C ?_
  refine y3 ?_;refine yY ?_;refine y4 ?_;refine yM ?_;refine y3 ?_;refine aG ?_
  refine eW ?_
  exact aD hL rfl rfl
 |false=>
  rw[hb]at C
  rw[if_neg (by simp)]
  refine y4 ?_;refine yM ?_;refine y3 ?_;refine ah ?_;refine y4 ?_;refine yM ?_;refine yD ?_
  refine yW ?_;refine y3 ?_;refine yX ?_;refine aH ?_;refine aV ?_;refine ah ?_;refine y4 ?_;refine yM ?_
  refine yC ?_
  refine FW.pu C ?_
  refine y3 ?_;refine yX ?_;refine aH ?_;refine aV ?_;refine y4 ?_;refine yM ?_;refine y3 ?_;refine aG ?_
  exact aD hL rfl rfl
def fL(f:List Nat):List Value:=f.map fun k=> .int .u8 (k:Nat)
def fV(f:List Nat):Value:= .agg (fL f).toArray
theorem og(f:List Nat):(fL f).length=f.length:=by simp[fL]
theorem B5:∀f:List Nat,dR (fL f)=true
 |[]=>rfl
 |_::f=>B5 f
theorem AH{f:List Nat}{i k:Nat}(h:f[i]? =some k):bH (fL f) (0+i*1)=some (.int .u8 (k:Nat)):=by
 rw[cM,Nat.zero_add,Nat.mul_one];simp[fL,h]
theorem ri{f:List Nat}(h:f.length=8):cH 8 (bW 0 (fL f))=fL f:=by
 rw[cG,bD,List.drop_zero,List.take_of_length_le (by rw[og];omega)]
theorem oh{f:List Nat}(h:f.length=8):Nat.beq (bZ (fL f)) 8=true:=by rw[bQ,og,h];rfl
theorem CK(f:List Nat):iz (.agg (fL f).toArray) (.agg (fL f).toArray)=true:=by
 refine mL ?_
 rw[List.toList_toArray]
 induction f with
 |nil=>rfl
 |cons p f ih=>exact eT (gG _ _) ih
theorem LM(p:Pb):iz (.agg (pbL p).toArray) (.agg (pbL p).toArray)=true:=by
 refine mL ?_
 rw[List.toList_toArray]
 exact CD _ _ (eT (gG _ _) HZ)
theorem sD(w:List Nat×List Nat):iz (.agg (wL w).toArray) (.agg (wL w).toArray)=true:=by
 refine mL ?_
 rw[List.toList_toArray]
 refine CD _ _ ?_
 have:=CD w.2 [] HZ
 rwa [List.append_nil]at this
def quL(w:List Nat×List Nat)(pv nv ov mv:Value):List Value:=wL w++[pv,nv,ov,mv]
theorem Bu{w:List Nat×List Nat}(hw:IsW w)(pv nv ov mv:Value):(quL w pv nv ov mv).length=20:=by
 unfold quL;rw[List.length_append,iw hw];rfl
theorem PC{w:List Nat×List Nat}(hw:IsW w)(pv nv ov mv:Value):cH 16 (bW (0+0) (quL w pv nv ov mv))=wL w:=by
 have:=iw hw
 unfold quL
 rw[cG,bD,Nat.zero_add,List.drop_zero,List.take_append_of_le_length (by omega),List.take_of_length_le (by omega)]
theorem Pz{w:List Nat×List Nat}(hw:IsW w)(pv nv ov mv:Value):cH 8 (bW (0+0+0) (quL w pv nv ov mv))=us w.1:=by
 have h:=iw hw
 have e:=K3 hw
 rw[cG,bD,Nat.zero_add,List.drop_zero]at e
 unfold quL
 rw[cG,bD,Nat.zero_add,List.drop_zero,List.take_append_of_le_length (by omega)];exact e
theorem PA{w:List Nat×List Nat}(hw:IsW w)(pv nv ov mv:Value):cH 8 (bW (0+0+8) (quL w pv nv ov mv))=us w.2:=by
 have h:=iw hw
 have e:=IK hw
 rw[cG,bD,Nat.zero_add]at e
 unfold quL
 rw[cG,bD,Nat.zero_add,List.drop_append_of_le_length (by omega),List.take_append_of_le_length (by rw[List.length_drop];omega)];exact e
theorem xT{w:List Nat×List Nat}(hw:IsW w)(pv nv ov mv:Value)(i:Nat):bH (quL w pv nv ov mv) (16+i)=[pv,nv,ov,mv][i]? :=by
 have h:=iw hw
 unfold quL
 rw[cM,List.getElem?_append_right (by omega),h,Nat.add_sub_cancel_left]
theorem Cu{w:List Nat×List Nat}(hw:IsW w)(pv nv ov mv:Value):bH (quL w pv nv ov mv) (0+16)=some pv:=xT hw pv nv ov mv 0
theorem LK{w:List Nat×List Nat}(hw:IsW w)(pv nv ov mv:Value):bH (quL w pv nv ov mv) (0+17)=some nv:=xT hw pv nv ov mv 1
theorem LL{w:List Nat×List Nat}(hw:IsW w)(pv nv ov mv:Value):bH (quL w pv nv ov mv) (0+18)=some ov:=xT hw pv nv ov mv 2
theorem PB{w:List Nat×List Nat}(hw:IsW w)(pv nv ov mv:Value):bH (quL w pv nv ov mv) (0+19)=some mv:=xT hw pv nv ov mv 3
abbrev Zs:=List (Pb×Nat)
def alB(z:Zs)(s:List Nat):Bool:=z.all fun x=> !(decide (x.2=2)&&sIn x.1.cells s)
def bsJ(s:List Nat)(x:Pb×Nat):List Nat:=if x.2=1 then mT s x.1.cells else s
def bsS(s:List Nat)(z:Zs):List Nat:=z.foldl bsJ s
def bsB(w:List Nat×List Nat)(z:Zs):Bool:=sIn (bsS w.1 z) w.2&&alB z (bsS w.1 z)
theorem AB:∀{z:Zs} {s:List Nat},IsS s→(∀x∈z,IsS x.1.cells)→IsS (bsS s z)
 |[],s,hs,_=>hs
 |x::z,s,hs,h=>by
  have hx:=h x List.mem_cons_self
  refine AB (z:=z) (s:=bsJ s x) ?_ fun y hy=>h y (List.mem_cons_of_mem _ hy)
  unfold bsJ
  split
  ·exact hs.join hx
  ·exact hs
theorem I4{l:List Pb}{f:List Nat}{i:Nat}{p:Pb}{k:Nat}(hp:l[i]? =some p)(hk:f[i]? =some k):(l.zip f)[i]? =some (p,k):=List.getElem?_zip_eq_some.2 ⟨hp,hk⟩
theorem CP{l:List Pb}{f:List Nat}(h:l.length≤f.length):(l.zip f).length=l.length:=by rw[List.length_zip];omega
theorem I5{l:List Pb}{f:List Nat}(h:∀p∈l,IsS p.cells):∀x∈l.zip f,IsS x.1.cells:=fun x hx=>h _ (List.of_mem_zip hx).1
theorem LN{z:Zs}{i:Nat}{x:Pb×Nat}(h:z[i]? =some x):z.take (i+1)=z.take i++[x]:=by
 obtain⟨hlt,rfl⟩:=List.getElem?_eq_some_iff.1 h
 exact List.take_succ_eq_append_getElem hlt
structure BO (T:Nat→Option af):Prop where
 p:bt T
 f35:T 35=some f35
 f121:T 121=some f121
 f143:T 143=some f143
 f174:T 174=some f174
 f207:T 207=some f207
 f226:T 226=some f226
set_option maxHeartbeats 4000000 in
theorem tn(F:BO T){h:Heap}(hr:Rdy h){q:Nat}{w:List Nat×List Nat}(hw:IsW w){pv nv ov mv:Value}(gq:h.get q=some (.cells (quL w pv nv ov mv) true 1)){l:List Pb}(sp:PbS h pv l)(hl:l.length≤8){f:List Nat}(hf:f.length=8){s:List Nat}(hs:IsS s):
 Pu T 226 [.pointer (some ⟨q,0,none⟩),fV f,sv s] h (.bool (alB (l.zip f) s)):=by
 refine .of F.p F.f226 hr rfl ?_
 obtain⟨a,c,rfl⟩:=sp.form
 have hfc:cellsOf (fV f)=fL f:=by show(fL f).toArray.toList=_;simp
 have x0:Ext h ((h.push (.cells (cellsOf (fV f)) true 1)).push (.cells (cellsOf (sv s)) true 1)):=((Ext.refl h).push _).push _
 have g0:((h.push (.cells (cellsOf (fV f)) true 1)).push (.cells (cellsOf (sv s)) true 1)).get h.next=some (.cells (fL f) true 1):=by rw[hfc];exact(z4 (Nat.lt_succ_self _)).trans (z3 h _)
 have g1:((h.push (.cells (cellsOf (fV f)) true 1)).push (.cells (cellsOf (sv s)) true 1)).get (h.next+1)=some (.cells (us s) true 1):=z3 _ _
 have n0:((h.push (.cells (cellsOf (fV f)) true 1)).push (.cells (cellsOf (sv s)) true 1)).next=h.next+2:=rfl
 refine y4 ?_;refine yB ?_;refine yB ?_;refine yM ?_;refine y3 ?_
 generalize((h.push (.cells (cellsOf (fV f)) true 1)).push (.cells (cellsOf (sv s)) true 1))=H at*
 have W:=x0.wf hr.wf
 have hL:=x0.log.trans hr.log
 have gqH:=(x0.old _ (hr.wf.ef gq)).trans gq
 have spH:=sp.ext x0
 have kp:=Cu hw (.slice a l.length c) nv ov mv
 have k8:=bF hs.len
 have k9:=cD hs.len
 have hzl:=CP (l:=l) (f:=f) (by omega)
 refine ah ?_;refine y4 ?_;refine yM ?_;refine an (cA (by exact rfl)) ?_;refine yF ?_;refine an (bO (by exact rfl) (by assumption) (by assumption)) ?_;refine yD ?_;refine yM ?_;refine y3 ?_;refine aK ?_
 refine dG (fun m e ds h'=>∃i:Nat,i≤l.length∧m=l.length-i∧e=[(4, .pointer (some ⟨h.next,0,none⟩)),(5, .pointer (some ⟨h.next+1,0,none⟩)),(12, .slice a l.length c),(13, .int .i64 (l.length:Nat)),(14, .int .i64 (i:Nat))]∧ds=[]∧Ext H h'∧alB ((l.zip f).take i) s=true)
  ⟨0,Nat.zero_le _,rfl,rfl,rfl, .refl H,rfl⟩ ?_
 rintro m e ds G ⟨i,hin,rfl,rfl,rfl,xG,hall⟩
 have WG:=xG.wf W
 have hLG:=xG.log.trans hL
 have nG:=xG.next
 by_cases hlt:i<l.length
 ·obtain⟨p,hpi⟩:∃r,l[i]? =some r:=⟨l[i],List.getElem?_eq_getElem hlt⟩
  obtain⟨k,hki⟩:∃r,f[i]? =some r:=⟨f[i]'(by omega),List.getElem?_eq_getElem _⟩
  have hps:=sp.ok p (List.mem_of_getElem? hpi)
  obtain⟨b,o,c2,vs,own,t,hv,gl,hb,gat⟩:=(spH.ext xG).elem hpi
  cases hv
  have k1:=gat.all
  have k2:=qv hps
  have k3:=gw hps
  have k4:=qw p
  have mlt:aA .lss (.int .i64 (i:Nat)) (.int .i64 (l.length:Nat))=some (.bool true):=jg (by omega)
  have g0G:=(xG.old _ (by omega)).trans g0
  have g1G:=(xG.old _ (by omega)).trans g1
  have hz:=I4 hpi hki
  have hst:alB ((l.zip f).take (i+1)) s=(alB ((l.zip f).take i) s&& !(decide (k=2)&&sIn p.cells s)):=by
   unfold alB;rw[LN hz,List.all_append];simp
  have hno:(decide (k=2)&&sIn p.cells s)=true→alB (l.zip f) s=false:=fun q=>by
   unfold alB;rw[List.all_eq_false];exact⟨(p,k),List.mem_of_getElem? hz,by rw[q];simp⟩
  refine y4 ?_;refine yW ?_;refine y3 ?_;refine ah ?_;refine yY ?_;refine aH ?_;refine aV ?_;refine ah ?_;refine aK ?_
  refine fB (E0:=[(4, .pointer (some ⟨h.next,0,none⟩)),(5, .pointer (some ⟨h.next+1,0,none⟩)),(7, .int .i64 (i:Nat)),(8, .pointer (some ⟨G.next,0,none⟩)),(12, .slice (some ⟨b,o,none⟩) l.length c),(13, .int .i64 (l.length:Nat)),(14, .int .i64 (i:Nat))]) (P:=fun h'=>Ext G h'∧h'.next=G.next+1∧h'.get G.next=some (.cells (pbL p) true 1)) ?_ ?_
  ·refine aJ ?_;refine yM ?_;refine yI ?_;refine yV ?_;refine an (dL) ?_;refine yM ?_
   refine an (dg (by exact rfl) (by exact rfl) (by(simp(disch:=first|omega|(simp only[z1,z2];omega))only[z3,z4,z5,z6,z7,z1,z2,g0,g1,gl,gq,gqH,g0G,g1G];exact rfl)) (by assumption) (by exact rfl) (by assumption)) ?_;refine dN ?_
   refine y1 ?_
   exact⟨rfl,rfl,rfl,iC (by omega) _ _,rfl,jB _ _⟩
  rintro G2 ⟨x2,n2,g2⟩
  have WG2:=x2.wf WG
  have hLG2:=x2.log.trans hLG
  have g0G2:=(x2.old _ (by omega)).trans g0G
  have g1G2:=(x2.old _ (by omega)).trans g1G
  have kf:=AH hki
  have kc:=oy hps
  have kcl:=bF hps.len
  have x02:=xG.trans x2
  clear g0G g1G gl k1 k2 gat
  have mk:aA .eql (.int .u8 (k:Nat)) (.int .u8 2)=some (.bool (decide (k=2))):=Cg (c:=2) rfl
  have C:=AK F.p F.f35 F.f121 (h:={G2 with log:=[]}) (.of WG2) hps hs
  cases hk2:decide (k=2)with
  |false=>
   rw[hk2]at mk hst
   refine y4 ?_;refine yM ?_;refine an (eY (by exact rfl) (by exact rfl) (by omega)) ?_;refine an (bO (by exact rfl) (by assumption) (by assumption)) ?_;refine yW ?_;refine yM ?_;refine yP ?_
   refine yP ?_;refine yP ?_;refine yP ?_;refine yU ?_;refine y3 ?_;refine yX ?_;refine aH ?_
   refine ff ?_;refine aV ?_;refine aJ ?_;refine ia ?_;refine yM ?_;refine y3 ?_
   exact⟨l.length-(i+1),by omega,i+1,by omega,rfl,rfl,rfl,x02,by rw[hst,hall];rfl⟩
  |true=>
   rw[hk2]at mk hst hno
   cases hin:sIn p.cells s with
   |true=>
    rw[hin]at C hno
    rw[hno rfl]
    refine y4 ?_;refine yM ?_;refine an (eY (by exact rfl) (by exact rfl) (by omega)) ?_;refine an (bO (by exact rfl) (by assumption) (by assumption)) ?_;refine yW ?_;refine yM ?_;refine yO ?_
    refine yF ?_;refine yO ?_;refine yV ?_;refine yO ?_;refine yV ?_;refine yO ?_
    refine yC ?_
    refine FW.pu C ?_
    refine yT ?_;refine y3 ?_;refine yY ?_;refine y4 ?_;refine yM ?_;refine y3 ?_;refine aG ?_;refine mU ?_;refine eW ?_;refine eW ?_;refine mU ?_;refine eW ?_
    exact aD hLG2 rfl rfl
   |false=>
    rw[hin]at C hst
    refine y4 ?_;refine yM ?_;refine an (eY (by exact rfl) (by exact rfl) (by omega)) ?_;refine an (bO (by exact rfl) (by assumption) (by assumption)) ?_;refine yW ?_;refine yM ?_;refine yO ?_
    refine yF ?_;refine yO ?_;refine yV ?_;refine yO ?_;refine yV ?_;refine yO ?_
    refine yC ?_
    refine FW.pu C ?_
    refine yT ?_;refine y3 ?_;refine yX ?_;refine aH ?_;refine ff ?_;refine aV ?_;refine aJ ?_;refine ia ?_
    refine yM ?_;refine y3 ?_
    exact⟨l.length-(i+1),by omega,i+1,by omega,rfl,rfl,rfl,x02,by rw[hst,hall];rfl⟩
 ·obtain rfl:i=l.length:=by omega
  have mlt:aA .lss (.int .i64 (l.length:Nat)) (.int .i64 (l.length:Nat))=some (.bool false):=jD (by omega)
  rw[←hzl,List.take_length]at hall
  rw[hall]
  refine y4 ?_;refine yW ?_;refine y3 ?_;refine ah ?_;refine yX ?_;refine dw ?_;refine dQ ?_;refine dQ ?_;refine iN ?_;refine aV ?_
  refine y4 ?_;refine yM ?_;refine y3 ?_;refine aG ?_
  exact aD hLG rfl rfl
theorem KH(s:List Nat)(b:Bool):cB (.tuple #[sv s, .bool b])=true:=by
 have q:flat (sv s)=true:=sW s
 show iS [sv s, .bool b]=true
 simp only[iS,q];rfl
set_option maxHeartbeats 8000000 in
theorem Jh(F:BO T){h:Heap}(hr:Rdy h){q:Nat}{w:List Nat×List Nat}(hw:IsW w){pv nv ov mv:Value}(gq:h.get q=some (.cells (quL w pv nv ov mv) true 1)){l:List Pb}(sp:PbS h pv l)(hl:l.length≤8){f:List Nat}(hf:f.length=8):
 Pu T 143 [.pointer (some ⟨q,0,none⟩),fV f] h (.tuple #[sv (bsS w.1 (l.zip f)), .bool (bsB w (l.zip f))]):=by
 refine .of F.p F.f143 hr (KH _ _) ?_
 obtain⟨a,c,rfl⟩:=sp.form
 have hfc:cellsOf (fV f)=fL f:=by show(fL f).toArray.toList=_;simp
 have x0:Ext h ((h.push (.cells (cellsOf (fV f)) true 1)).push (.cells (aT 8 (.int .u64 0)) true 1)):=((Ext.refl h).push _).push _
 have g0:((h.push (.cells (cellsOf (fV f)) true 1)).push (.cells (aT 8 (.int .u64 0)) true 1)).get h.next=some (.cells (fL f) true 1):=by rw[hfc];exact(z4 (Nat.lt_succ_self _)).trans (z3 h _)
 have g1:((h.push (.cells (cellsOf (fV f)) true 1)).push (.cells (aT 8 (.int .u64 0)) true 1)).get (h.next+1)=some (.cells (us s0) true 1):=z3 _ _
 have n0:((h.push (.cells (cellsOf (fV f)) true 1)).push (.cells (aT 8 (.int .u64 0)) true 1)).next=h.next+2:=rfl
 refine y4 ?_;refine yB ?_;refine an (dL) ?_;refine yM ?_;refine y3 ?_
 generalize((h.push (.cells (cellsOf (fV f)) true 1)).push (.cells (aT 8 (.int .u64 0)) true 1))=H at*
 have W:=x0.wf hr.wf
 have hL:=x0.log.trans hr.log
 have gqH:=(x0.old _ (hr.wf.ef gq)).trans gq
 have kqn:=hr.wf.ef gq
 have spH:=sp.ext x0
 have g0':=g0
 have g1':=g1
 have gqH':=gqH
 have spH':=spH
 have kp:=Cu hw (.slice a l.length c) nv ov mv
 have ka:=Pz hw (.slice a l.length c) nv ov mv
 have kb:=PA hw (.slice a l.length c) nv ov mv
 have kal:=bF hw.a.len
 have ka9:=cD hw.a.len
 have kan:=hw.a.len
 have kbl:=bF hw.b.len
 have hzl:=CP (l:=l) (f:=f) (by omega)
 have hzok:=I5 (f:=f) sp.ok
 refine fB (E0:=[(0, .pointer (some ⟨q,0,none⟩)),(3, .pointer (some ⟨h.next,0,none⟩)),(4, .pointer (some ⟨h.next+1,0,none⟩)),(6, .pointer (some ⟨H.next,0,none⟩))]) (P:=fun h'=>Ext H h'∧h'.next=H.next+1∧h'.get H.next=some (.cells (us w.1) true 1)) ?_ ?_
 ·refine aJ ?_;refine yM ?_;refine an (cA (by exact rfl)) ?_;refine yF ?_;refine yF ?_;refine yV ?_;refine an (dL) ?_
  refine an (dg (by exact rfl) (by exact rfl) (by(simp(disch:=first|omega|(simp only[z1,z2];omega))only[z3,z4,z5,z6,z7,z1,z2,gq,g0,g1,gqH,g0',g1',gqH'];exact rfl)) (by(simp only[aI];assumption)) (by exact rfl) (by exact dB _)) ?_
  refine dN ?_;refine y1 ?_
  exact⟨rfl,rfl,rfl,iC (by omega) _ _,rfl,by(simp(disch:=first|omega|(simp only[z1,z2];omega))only[z3,z4,z5,z6,z7,z1,z2,gq,g0,g1,gqH,g0',g1',gqH'];done)⟩
 rintro H1 ⟨x1,n1,g6⟩
 have W1:=x1.wf W
 have hL1:=x1.log.trans hL
 have g01:=(x1.old _ (by omega)).trans g0
 have g11:=(x1.old _ (by omega)).trans g1
 have gq1:=(x1.old _ (by omega)).trans gqH
 have sp1:=spH.ext x1
 clear g0 g1 gqH spH
 refine ah ?_;refine y4 ?_;refine yM ?_;refine an (cA (by exact rfl)) ?_;refine yF ?_;refine an (bO (by exact rfl) (by assumption) (by assumption)) ?_;refine yD ?_;refine yM ?_;refine y3 ?_;refine aK ?_
 refine dG (fun m e ds h'=>∃i:Nat,i≤l.length∧m=l.length-i∧e=[(0, .pointer (some ⟨q,0,none⟩)),(3, .pointer (some ⟨h.next,0,none⟩)),(4, .pointer (some ⟨h.next+1,0,none⟩)),(6, .pointer (some ⟨H.next,0,none⟩)),(17, .slice a l.length c),(18, .int .i64 (l.length:Nat)),(19, .int .i64 (i:Nat))]∧ds=[]∧Ext H h'∧H.next<h'.next∧h'.get H.next=some (.cells (us (bsS w.1 ((l.zip f).take i))) true 1))
  ⟨0,Nat.zero_le _,rfl,rfl,rfl,x1,by omega,g6⟩ ?_
 clear g6 g01 g11 gq1 sp1
 rintro m e ds G ⟨i,hin,rfl,rfl,rfl,xG,hnG,g6⟩
 have WG:=xG.wf W
 have hLG:=xG.log.trans hL
 have nG:=xG.next
 have g0G:=(xG.old _ (by omega)).trans g0'
 have g1G:=(xG.old _ (by omega)).trans g1'
 have gqG:=(xG.old _ (by omega)).trans gqH'
 have spG:=spH'.ext xG
 have hso:IsS (bsS w.1 ((l.zip f).take i)):=AB hw.a fun x hx=>hzok x (List.mem_of_mem_take hx)
 by_cases hlt:i<l.length
 ·obtain⟨p,hpi⟩:∃r,l[i]? =some r:=⟨l[i],List.getElem?_eq_getElem hlt⟩
  obtain⟨k,hki⟩:∃r,f[i]? =some r:=⟨f[i]'(by omega),List.getElem?_eq_getElem _⟩
  have hps:=sp.ok p (List.mem_of_getElem? hpi)
  obtain⟨b,o,c2,vs,own,t,hv,gl,hb,gat⟩:=spG.elem hpi
  cases hv
  have k1:=gat.all
  have k2:=qv hps
  have k3:=gw hps
  have k4:=qw p
  have mlt:aA .lss (.int .i64 (i:Nat)) (.int .i64 (l.length:Nat))=some (.bool true):=jg (by omega)
  have hst:bsS w.1 ((l.zip f).take (i+1))=bsJ (bsS w.1 ((l.zip f).take i)) (p,k):=by
   unfold bsS;rw[LN (I4 hpi hki),List.foldl_append];rfl
  generalize bsS w.1 ((l.zip f).take i)=s at*
  have ks8:=bF hso.len
  have ks9:=cD hso.len
  have ksn:=hso.len
  refine y4 ?_;refine yW ?_;refine y3 ?_;refine ah ?_;refine yY ?_;refine aH ?_;refine aV ?_;refine ah ?_;refine aK ?_
  refine fB (E0:=[(0, .pointer (some ⟨q,0,none⟩)),(3, .pointer (some ⟨h.next,0,none⟩)),(4, .pointer (some ⟨h.next+1,0,none⟩)),(6, .pointer (some ⟨H.next,0,none⟩)),(7, .int .i64 (i:Nat)),(8, .pointer (some ⟨G.next,0,none⟩)),(17, .slice (some ⟨b,o,none⟩) l.length c),(18, .int .i64 (l.length:Nat)),(19, .int .i64 (i:Nat))]) (P:=fun h'=>Ext G h'∧h'.next=G.next+1∧h'.get G.next=some (.cells (pbL p) true 1)) ?_ ?_
  ·refine aJ ?_;refine yM ?_;refine yI ?_;refine yV ?_;refine an (dL) ?_;refine yM ?_
   refine an (dg (by exact rfl) (by exact rfl) (by(simp(disch:=first|omega|(simp only[z1,z2];omega))only[z3,z4,z5,z6,z7,z1,z2,g0',g1',g0G,g1G,gl,gq,gqH',gqG,g6];exact rfl)) (by assumption) (by exact rfl) (by assumption)) ?_;refine dN ?_
   refine y1 ?_
   exact⟨rfl,rfl,rfl,iC (by omega) _ _,rfl,jB _ _⟩
  rintro G2 ⟨x2,n2,g2⟩
  have WG2:=x2.wf WG
  have hLG2:=x2.log.trans hLG
  have g0G2:=(x2.old _ (by omega)).trans g0G
  have g6G2:=(x2.old _ (by omega)).trans g6
  have kf:=AH hki
  have kc:=oy hps
  have kcl:=bF hps.len
  have x02:=xG.trans x2
  clear g0G g1G gqG gl k1 k2 gat g6 spG
  have mk:aA .eql (.int .u8 (k:Nat)) (.int .u8 1)=some (.bool (decide (k=1))):=Cg (c:=1) rfl
  have C:=Cc F.p F.f174 (h:={G2 with log:=[]}) (.of WG2) hso hps
  unfold bsJ at hst
  dsimp only at hst
  by_cases hk1:k=1
  ·rw[decide_eq_true hk1]at mk
   rw[if_pos hk1]at hst
   have hjs:=hso.join hps
   generalize mT s p.cells=j at*
   have kj8:=bF hjs.len
   have kjn:=hjs.len
   refine y4 ?_;refine yM ?_;refine an (eY (by exact rfl) (by exact rfl) (by omega)) ?_;refine an (bO (by exact rfl) (by assumption) (by assumption)) ?_;refine yW ?_;refine y3 ?_;refine yY ?_;refine aJ ?_;refine yV ?_;refine yF ?_;refine yV ?_
   refine yC ?_
   refine FW.pu C ?_
   refine an (dg (by exact rfl) (by exact rfl) (by assumption) (by(simp only[aI];assumption)) (by(simp only[aI];assumption)) (by exact dB _)) ?_;refine dN ?_;refine y1 ?_;refine ff ?_;refine aV ?_;refine aJ ?_
   refine ia ?_;refine yM ?_;refine y3 ?_
   refine⟨l.length-(i+1),by omega,i+1,by omega,rfl,rfl,rfl,⟨?_,?_,?_,?_⟩,?_,?_⟩
   ·exact Nat.le_trans x02.next (Nat.le_refl _)
   ·rw[Heap.aN (by omega)];exact x02.log
   ·intro z hz;exact(z5 (by omega)).trans (x02.old z hz)
   ·intro wf;exact(x02.wf wf).as (AS.wr h.next _ _ _)
   ·show H.next<G2.next;omega
   ·rw[hst];(simp(disch:=first|omega|(simp only[z1,z2];omega))only[z3,z4,z5,z6,z7,z1,z2,g0',g1',gq,gqH',g2,g0G2,g6G2];done)
  ·rw[decide_eq_false hk1]at mk
   rw[if_neg hk1]at hst
   refine y4 ?_;refine yM ?_;refine an (eY (by exact rfl) (by exact rfl) (by omega)) ?_;refine an (bO (by exact rfl) (by assumption) (by assumption)) ?_;refine yW ?_;refine y3 ?_;refine yX ?_;refine aH ?_;refine ff ?_;refine aV ?_;refine aJ ?_;refine ia ?_;refine yM ?_;refine y3 ?_
   exact⟨l.length-(i+1),by omega,i+1,by omega,rfl,rfl,rfl,x02,by omega,by rw[hst];exact g6G2⟩
 ·obtain rfl:i=l.length:=by omega
  have mlt:aA .lss (.int .i64 (l.length:Nat)) (.int .i64 (l.length:Nat))=some (.bool false):=jD (by omega)
  rw[←hzl,List.take_length]at g6 hso
  have C2:=tn F (h:={G with log:=[]}) (.of WG) hw gqG (spG.log []) hl hf hso
  have C1:=AK F.p F.f35 F.f121 (h:={G with log:=[]}) (.of WG) hso hw.b
  unfold bsB
  generalize alB (l.zip f) (bsS w.1 (l.zip f))=al at*
  generalize bsS w.1 (l.zip f)=s at*
  have ks8:=bF hso.len
  have ks9:=cD hso.len
  have ksn:=hso.len
  have kf8:=ri hf
  have kf9:=oh hf
  cases hin:sIn s w.2 with
  |false=>
   rw[hin]at C1
   refine y4 ?_;refine yW ?_;refine y3 ?_;refine ah ?_;refine yX ?_;refine dw ?_;refine dQ ?_;refine dQ ?_;refine iN ?_;refine aV ?_
   refine ah ?_;refine cV ?_;refine qV ?_;refine qV ?_
   refine qM ?_;refine aM rfl rfl rfl (by exact rfl) (by exact rfl) (by exact rfl) (cA (by exact rfl)) ?_;refine qF ?_
   refine qF ?_;refine qV ?_
   refine qC ?_
   refine FW.puD C1 (by(repeat apply aP rfl);apply aB rfl (aq rfl (ct (by exact rfl) (by assumption) (by assumption) (by assumption)) (by exact qA _)) rfl;exact cC) ?_
   clear C1 C2
   refine qM ?_;refine qO ?_;refine qO ?_;refine qO ?_;refine qO ?_;refine aM rfl rfl rfl (by exact rfl) (by exact rfl) (by exact rfl) (nY (by exact rfl) (by exact rfl)) ?_
   refine sF rfl rfl rfl (by exact rfl) (by exact rfl) (by exact rfl) (by assumption) (by(simp only[aI];assumption)) (by exact rfl) (by exact dB _) (by omega) (by omega) (by apply aB rfl (aq rfl (nY (by exact rfl) (by exact rfl)) (by exact CJ _)) rfl;(repeat apply aP rfl);exact cC) ?_
   refine qM ?_;refine dy ?_;refine y1 ?_;refine aV ?_;refine aG ?_
   refine aD ?_ (dJ (own:=true) (s:=1) rfl ?_ ks9 ks8 (Ad rfl rfl)) rfl
   ·rw[Heap.aN (by omega)];exact hLG
   ·(simp(disch:=first|omega|(simp only[z1,z2];omega))only[z3,z4,z5,z6,z7,z1,z2,gq,g0',g1',gqH',g0G,g1G,gqG,g6];done)
  |true=>
   rw[hin]at C1
   refine y4 ?_;refine yW ?_;refine y3 ?_;refine ah ?_;refine yX ?_;refine dw ?_;refine dQ ?_;refine dQ ?_;refine iN ?_;refine aV ?_
   refine ah ?_;refine cV ?_;refine qV ?_;refine qV ?_
   refine qM ?_;refine aM rfl rfl rfl (by exact rfl) (by exact rfl) (by exact rfl) (cA (by exact rfl)) ?_;refine qF ?_
   refine qF ?_;refine qV ?_
   refine qC ?_
   refine FW.puD C1 (by(repeat apply aP rfl);apply aB rfl (aq rfl (ct (by exact rfl) (by assumption) (by assumption) (by assumption)) (by exact qA _)) rfl;exact cC) ?_
   clear C1
   refine qM ?_;refine qM ?_;refine qV ?_
   refine qV ?_
   refine qC ?_
   refine FW.puD C2 (by(repeat apply aP rfl);apply aB rfl (aq rfl (ct (by exact rfl) (by assumption) (by assumption) (by assumption)) (by exact qA _)) rfl;exact cC) ?_
   clear C2
   refine aM rfl rfl rfl (by exact rfl) (by exact rfl) (by exact rfl) (pX (by exact rfl) (by exact rfl)) ?_
   refine sF rfl rfl rfl (by exact rfl) (by exact rfl) (by exact rfl) (by assumption) (by(simp only[aI];assumption)) (by exact rfl) (by exact dB _) (by omega) (by omega) (by apply aB rfl (aq rfl (pX (by exact rfl) (by exact rfl)) (by exact CJ _)) rfl;apply aP rfl;exact cC) ?_
   refine qM ?_;refine dy ?_;refine y1 ?_;refine aV ?_;refine aG ?_
   refine aD ?_ (dJ (own:=true) (s:=1) rfl ?_ ks9 ks8 (Ad rfl rfl)) rfl
   ·rw[Heap.aN (by omega)];exact hLG
   ·(simp(disch:=first|omega|(simp only[z1,z2];omega))only[z3,z4,z5,z6,z7,z1,z2,gq,g0',g1',gqH',g0G,g1G,gqG,g6];done)
structure NdS (h:Heap) (nv:Value) (ns:List (List (List Nat))):Prop where
 ex:∃vals:List Value,bK h 1 nv ns.length vals∧∀(i:Nat) (r:List (List Nat)),ns[i]? =some r→∃v,vals[i]? =some v∧SsQ h v r
theorem NdS.ext{h h':Heap}{nv:Value}{ns:List (List (List Nat))}(s:NdS h nv ns)(x:Ext h h'):NdS h' nv ns:=by
 obtain⟨vals,s1,s2⟩:=s.ex
 exact⟨vals,s1.ext x,fun i r hi=>by
  obtain⟨v,hv,sv⟩:=s2 i r hi
  exact⟨v,hv,sv.ext x⟩⟩
theorem NdS.log{h:Heap}{nv:Value}{ns:List (List (List Nat))}(s:NdS h nv ns)(m:List Nat):NdS {h with log:=m} nv ns:=by
 obtain⟨vals,s1,s2⟩:=s.ex
 exact⟨vals,s1.log m,fun i r hi=>by
  obtain⟨v,hv,sv⟩:=s2 i r hi
  exact⟨v,hv,sv.log m⟩⟩
theorem NdS.elem{h:Heap}{nv:Value}{ns:List (List (List Nat))}(s:NdS h nv ns){i:Nat}{r:List (List Nat)}(hi:ns[i]? =some r):
 ∃b o c vs own t v,nv= .slice (some ⟨b,o,none⟩) ns.length c∧h.get b=some (.cells vs own t)∧b<h.next∧bH vs (o+i*1)=some v∧SsQ h v r:=by
 obtain⟨vals,s1,s2⟩:=s.ex
 obtain⟨v,hv,sv⟩:=s2 i r hi
 have hlt:=(List.getElem?_eq_some_iff.1 hi).1
 rcases bK.inv s1 with⟨_,_,h0,_⟩|⟨b,o,cap,hs,s3,hc⟩
 ·omega
 ·obtain⟨vs,own,t,g1,g2⟩:=s3.obj
  refine⟨b,o,cap,vs,own,t,v,hs,g1,s3.lt,?_,sv⟩
  rw[cG,bD]at g2
  rw[←g2,List.getElem?_take_of_lt (by omega),List.getElem?_drop]at hv
  rw[cM,Nat.mul_one];exact hv
def ru(z:Zs)(s:List Nat)(r:List (List Nat)):Nat:=if r.any (fun n=>sIn n s)then 1 else if r.any (fun n=>alB z (mT s n))then 3 else 2
set_option maxHeartbeats 8000000 in
theorem Dl(F:BO T){h:Heap}(hr:Rdy h){q:Nat}{w:List Nat×List Nat}(hw:IsW w){pv nv ov mv:Value}(gq:h.get q=some (.cells (quL w pv nv ov mv) true 1)){l:List Pb}(sp:PbS h pv l)(hl:l.length≤8){f:List Nat}(hf:f.length=8){s:List Nat}(hs:IsS s)
 {ns:List (List (List Nat))}(sn:NdS h nv ns)(hnn:ns.length<1000000){j:Nat}{r:List (List Nat)}(hj:ns[j]? =some r)(hrl:r.length<1000000):
 Pu T 207 [.pointer (some ⟨q,0,none⟩),fV f,sv s, .int .i64 (j:Nat)] h (.int .u8 ((ru (l.zip f) s r:Nat):Int)):=by
 refine .of F.p F.f207 hr rfl ?_
 have hfc:cellsOf (fV f)=fL f:=by show(fL f).toArray.toList=_;simp
 have x0:Ext h ((h.push (.cells (cellsOf (fV f)) true 1)).push (.cells (cellsOf (sv s)) true 1)):=((Ext.refl h).push _).push _
 have g0:((h.push (.cells (cellsOf (fV f)) true 1)).push (.cells (cellsOf (sv s)) true 1)).get h.next=some (.cells (fL f) true 1):=by rw[hfc];exact(z4 (Nat.lt_succ_self _)).trans (z3 h _)
 have g1:((h.push (.cells (cellsOf (fV f)) true 1)).push (.cells (cellsOf (sv s)) true 1)).get (h.next+1)=some (.cells (us s) true 1):=z3 _ _
 have n0:((h.push (.cells (cellsOf (fV f)) true 1)).push (.cells (cellsOf (sv s)) true 1)).next=h.next+2:=rfl
 refine y4 ?_;refine yB ?_;refine yB ?_;refine yM ?_;refine y3 ?_;refine IJ ?_
 generalize((h.push (.cells (cellsOf (fV f)) true 1)).push (.cells (cellsOf (sv s)) true 1))=H at*
 have W:=x0.wf hr.wf
 have hL:=x0.log.trans hr.log
 have kqn:=hr.wf.ef gq
 have gqH:=(x0.old _ kqn).trans gq
 have spH:=sp.ext x0
 have kn:=LK hw pv nv ov mv
 have hjl:=(List.getElem?_eq_some_iff.1 hj).1
 obtain⟨nb,no,nc,nvs,nown,nt,v,hnv,gn,hnb,gv,sr⟩:=(sn.ext x0).elem hj
 subst hnv
 have sr':=sr
 obtain⟨a,c,rfl⟩:=sr.sl.form
 have ks8:=bF hs.len
 have ks9:=cD hs.len
 have kf8:=ri hf
 have kf9:=oh hf
 unfold ru
 refine y4 ?_;refine yM ?_;refine y3 ?_;refine ah ?_;refine aH ?_;refine aV ?_;refine ah ?_;refine y4 ?_;refine yM ?_
 refine an (cA (by exact rfl)) ?_;refine yF ?_;refine an (bO (by exact rfl) (by assumption) (by assumption)) ?_;refine yM ?_;refine yI ?_;refine an (bO (by exact rfl) (by assumption) (by assumption)) ?_;refine yD ?_
 refine yM ?_;refine y3 ?_;refine aK ?_
 refine dG (fun m e ds h'=>∃i:Nat,i≤r.length∧m=r.length-i∧e=[(0, .pointer (some ⟨q,0,none⟩)),(5, .pointer (some ⟨h.next,0,none⟩)),(6, .pointer (some ⟨h.next+1,0,none⟩)),(9, .int .u8 ((if(r.take i).any (fun n=>alB (l.zip f) (mT s n))then 3 else 2:Nat):Int)),(18, .slice a r.length c),(19, .int .i64 (r.length:Nat)),(20, .int .i64 (i:Nat))]∧ds=[]∧Ext H h'∧(r.take i).any (fun n=>sIn n s)=false)
  ⟨0,Nat.zero_le _,rfl,rfl,rfl, .refl H,rfl⟩ ?_
 rintro m e ds G ⟨i,hin,rfl,rfl,rfl,xG,hno⟩
 have WG:=xG.wf W
 have hLG:=xG.log.trans hL
 have nG:=xG.next
 by_cases hlt:i<r.length
 ·obtain⟨x,hx⟩:∃s,r[i]? =some s:=⟨r[i],List.getElem?_eq_getElem hlt⟩
  have hxs:=sr'.ok x (List.mem_of_getElem? hx)
  obtain⟨b,o,c3,vs,own,tt,hv,gl,hbl,el⟩:=(sr'.ext xG).elem hx
  cases hv
  have kx8:=bF hxs.len
  have kx9:=cD hxs.len
  have kxn:=hxs.len
  have mlt:aA .lss (.int .i64 (i:Nat)) (.int .i64 (r.length:Nat))=some (.bool true):=jg (by omega)
  have g0G:=(xG.old _ (by omega)).trans g0
  have g1G:=(xG.old _ (by omega)).trans g1
  have gqG:=(xG.old _ (by omega)).trans gqH
  have hs1:(r.take (i+1)).any (fun n=>sIn n s)=((r.take i).any (fun n=>sIn n s)||sIn x s):=by rw[iW hx,List.any_append];simp
  have hs2:(r.take (i+1)).any (fun n=>alB (l.zip f) (mT s n))=((r.take i).any (fun n=>alB (l.zip f) (mT s n))||alB (l.zip f) (mT s x)):=by rw[iW hx,List.any_append];simp
  have hyes:sIn x s=true→r.any (fun n=>sIn n s)=true:=fun q=>List.any_eq_true.2 ⟨x,List.mem_of_getElem? hx,q⟩
  generalize(r.take i).any (fun n=>alB (l.zip f) (mT s n))=bb at*
  refine y4 ?_;refine yW ?_;refine y3 ?_;refine ah ?_;refine yY ?_;refine aH ?_;refine aV ?_;refine ah ?_;refine aK ?_
  refine fB (E0:=[(0, .pointer (some ⟨q,0,none⟩)),(5, .pointer (some ⟨h.next,0,none⟩)),(6, .pointer (some ⟨h.next+1,0,none⟩)),(9, .int .u8 ((if bb then 3 else 2:Nat):Int)),(11, .pointer (some ⟨G.next,0,none⟩)),(18, .slice (some ⟨b,o,none⟩) r.length c),(19, .int .i64 (r.length:Nat)),(20, .int .i64 (i:Nat))]) (P:=fun h'=>Ext G h'∧h'.next=G.next+1∧h'.get G.next=some (.cells (us x) true 1)) ?_ ?_
  ·refine aJ ?_;refine yI ?_;refine yV ?_;refine an (dL) ?_
   refine an (dg (by exact rfl) (by exact rfl) (by(simp(disch:=first|omega|(simp only[z1,z2];omega))only[z3,z4,z5,z6,z7,z1,z2,g0,g1,gn,gq,gqH,gl,g0G,g1G,gqG];exact rfl)) (by(simp only[aI];assumption)) (by exact rfl) (by exact dB _)) ?_
   refine dN ?_;refine y1 ?_
   exact⟨rfl,rfl,rfl,iC (by omega) _ _,rfl,by(simp(disch:=first|omega|(simp only[z1,z2];omega))only[z3,z4,z5,z6,z7,z1,z2,g0,g1,gn,gq,gqH,gl,g0G,g1G,gqG];done)⟩
  rintro G2 ⟨x2,n2,g2⟩
  have WG2:=x2.wf WG
  have hLG2:=x2.log.trans hLG
  have g0G2:=(x2.old _ (by omega)).trans g0G
  have g1G2:=(x2.old _ (by omega)).trans g1G
  have gqG2:=(x2.old _ (by omega)).trans gqG
  have x02:=xG.trans x2
  have C1:=AK F.p F.f35 F.f121 (h:={G2 with log:=[]}) (.of WG2) hxs hs
  have C2:=Cc F.p F.f174 (h:={G2 with log:=[]}) (.of WG2) hs hxs
  have C3:=tn F (h:={G2 with log:=[]}) (.of WG2) hw gqG2 ((spH.ext x02).log []) hl hf (hs.join hxs)
  clear g0G g1G gqG gl el
  generalize alB (l.zip f) (mT s x)=ab at*
  generalize mT s x=jx at*
  cases hin2:sIn x s with
  |true=>
   rw[hin2]at C1
   rw[if_pos (hyes hin2)]
   refine aK ?_;refine y4 ?_;refine yV ?_;refine yV ?_
   refine yC ?_
   refine FW.pu C1 ?_
   refine yM ?_;refine y3 ?_;refine yY ?_;refine y4 ?_;refine yM ?_;refine y3 ?_;refine dw ?_;refine O9 (by exact rfl) ?_;refine O9 (by exact rfl) ?_;refine dQ ?_;refine dQ ?_;refine iN ?_;refine aV ?_;refine y4 ?_;refine yM ?_;refine yM ?_;refine y3 ?_;refine aG ?_
   exact aD hLG2 rfl rfl
  |false=>
   rw[hin2]at C1 hs1
   rw[hno]at hs1
   cases ab with
   |true=>
    rw[Bool.or_true]at hs2
    refine aK ?_;refine y4 ?_;refine yV ?_;refine yV ?_
    refine yC ?_
    refine FW.pu C1 ?_
    clear C1
    refine yM ?_;refine y3 ?_;refine yX ?_;refine ah ?_;refine cV ?_;refine qM ?_
    refine qV ?_;refine qV ?_
    refine qV ?_
    refine qC ?_
    refine FW.puD C2 (by(repeat apply aP rfl);apply aB rfl (aq rfl (ct (by exact rfl) (by assumption) (by assumption) (by assumption)) (by exact CK _)) rfl;apply aB rfl (aq rfl (fC (by exact rfl)) (by exact bT _)) rfl;exact cC) ?_
    clear C2
    skip
    refine qC ?_
    refine FW.puD C3 (by(repeat apply aP rfl);exact cC) ?_
    clear C3
    refine qM ?_;refine dy ?_;refine y1 ?_;refine aV ?_;refine yY ?_;refine aJ ?_;refine yM ?_;refine dN ?_
    refine y1 ?_;refine ff ?_;refine ff ?_;refine aV ?_;refine aJ ?_;refine ia ?_;refine yM ?_;refine y3 ?_
    exact⟨r.length-(i+1),by omega,i+1,by omega,rfl,by rw[hs2];rfl,rfl,x02,hs1⟩
   |false=>
    rw[Bool.or_false]at hs2
    refine aK ?_;refine y4 ?_;refine yV ?_;refine yV ?_
    refine yC ?_
    refine FW.pu C1 ?_
    clear C1
    refine yM ?_;refine y3 ?_;refine yX ?_;refine ah ?_;refine cV ?_;refine qM ?_
    refine qV ?_;refine qV ?_
    refine qV ?_
    refine qC ?_
    refine FW.puD C2 (by(repeat apply aP rfl);apply aB rfl (aq rfl (ct (by exact rfl) (by assumption) (by assumption) (by assumption)) (by exact CK _)) rfl;apply aB rfl (aq rfl (fC (by exact rfl)) (by exact bT _)) rfl;exact cC) ?_
    clear C2
    skip
    refine qC ?_
    refine FW.puD C3 (by(repeat apply aP rfl);exact cC) ?_
    clear C3
    refine qM ?_;refine dy ?_;refine y1 ?_;refine aV ?_;refine yX ?_;refine aH ?_;refine ff ?_;refine ff ?_;refine aV ?_;refine aJ ?_
    refine ia ?_;refine yM ?_;refine y3 ?_
    exact⟨r.length-(i+1),by omega,i+1,by omega,rfl,by rw[hs2],rfl,x02,hs1⟩
 ·obtain rfl:i=r.length:=by omega
  have mlt:aA .lss (.int .i64 (r.length:Nat)) (.int .i64 (r.length:Nat))=some (.bool false):=jD (by omega)
  rw[List.take_length]at hno⊢
  rw[if_neg (by rw[hno];simp)]
  refine y4 ?_;refine yW ?_;refine y3 ?_;refine ah ?_;refine yX ?_;refine dw ?_;refine dQ ?_;refine dQ ?_;refine iN ?_;refine aV ?_
  refine y4 ?_;refine yM ?_;refine yM ?_;refine y3 ?_;refine aG ?_
  exact aD hLG rfl rfl
end Go.A.Pk
end
section
namespace Go.Proofs
open Go.Shelf
def Tryz.o9:Go.Shelf.Ren:=⟨fun|6=>189|15=>241|14=>255|28=>290|29=>291|20=>307|21=>308|22=>309|23=>310|24=>311|25=>312|26=>313|27=>314|46=>344|47=>325|48=>326|49=>345|50=>346|57=>362|n=>n,fun|22=>29|24=>24|25=>215|3=>3|39=>90|0=>0|53=>338|55=>22|4=>4|46=>331|45=>330|50=>196|5=>5|9=>9|66=>372|70=>376|76=>403|77=>404|n=>n,fun|n=>n⟩
theorem Tryz.nw:Go.Proofs.SlLaysF0.n6 Tryz.prog Tryz.o9:={
 mixed:=by kernel_rfl
 f6:=⟨Tryz.f189.name,by decide,Tryz.func189.trans (congrArg some (by kernel_rfl))⟩
 f14:=⟨Tryz.f255.name,by decide,Tryz.func255.trans (congrArg some (by kernel_rfl))⟩
 f15:=Tryz.func241.trans (congrArg some (by kernel_rfl))
 f20:=⟨Tryz.f307.name,by decide,Tryz.func307.trans (congrArg some (by kernel_rfl))⟩
 f21:=⟨Tryz.f308.name,by decide,Tryz.func308.trans (congrArg some (by kernel_rfl))⟩
 f22:=⟨Tryz.f309.name,by decide,Tryz.func309.trans (congrArg some (by kernel_rfl))⟩
 f23:=⟨Tryz.f310.name,by decide,Tryz.func310.trans (congrArg some (by kernel_rfl))⟩
 f24:=⟨Tryz.f311.name,by decide,Tryz.func311.trans (congrArg some (by kernel_rfl))⟩
 f25:=⟨Tryz.f312.name,by decide,Tryz.func312.trans (congrArg some (by kernel_rfl))⟩
 f26:=⟨Tryz.f313.name,by decide,Tryz.func313.trans (congrArg some (by kernel_rfl))⟩
 f27:=⟨Tryz.f314.name,by decide,Tryz.func314.trans (congrArg some (by kernel_rfl))⟩
 f28:=Tryz.func290.trans (congrArg some (by kernel_rfl))
 f29:=Tryz.func291.trans (congrArg some (by kernel_rfl))
 f46:=⟨Tryz.f344.name,by decide,Tryz.func344.trans (congrArg some (by kernel_rfl))⟩
 f47:=Tryz.func325.trans (congrArg some (by kernel_rfl))
 f48:=Tryz.func326.trans (congrArg some (by kernel_rfl))
 f49:=⟨Tryz.f345.name,by decide,Tryz.func345.trans (congrArg some (by kernel_rfl))⟩
 f50:=⟨Tryz.f346.name,by decide,Tryz.func346.trans (congrArg some (by kernel_rfl))⟩
 f57:=⟨Tryz.f362.name,by decide,Tryz.func362.trans (congrArg some (by kernel_rfl))⟩
 t0:=Tryz.underlying0
 a0:=Tryz.isAgg0
 z0:=Tryz.sizeOf0
 v0:=Tryz.zeroValue0
 t3:=Tryz.underlying3
 a3:=Tryz.isAgg3
 z3:=Tryz.sizeOf3
 v3:=Tryz.zeroValue3
 t4:=Tryz.underlying4
 a4:=Tryz.isAgg4
 z4:=Tryz.sizeOf4
 v4:=Tryz.zeroValue4
 t5:=Tryz.underlying5
 a5:=Tryz.isAgg5
 z5:=Tryz.sizeOf5
 v5:=Tryz.zeroValue5
 t9:=Tryz.underlying9
 a9:=Tryz.isAgg9
 z9:=Tryz.sizeOf9
 v9:=Tryz.zeroValue9
 t22:=Tryz.underlying29
 a22:=Tryz.isAgg29
 z22:=Tryz.sizeOf29
 v22:=Tryz.zeroValue29
 t25:=Tryz.underlying215
 a25:=Tryz.isAgg215
 z25:=Tryz.sizeOf215
 v25:=Tryz.zeroValue215
 t39:=Tryz.underlying90
 a39:=Tryz.isAgg90
 z39:=Tryz.sizeOf90
 v39:=Tryz.zeroValue90
 t45:=Tryz.underlying330
 a45:=Tryz.isAgg330
 z45:=Tryz.sizeOf330
 v45:=Tryz.zeroValue330
 t46:=Tryz.underlying331
 a46:=Tryz.isAgg331
 z46:=Tryz.sizeOf331
 v46:=Tryz.zeroValue331
 t50:=Tryz.underlying196
 a50:=Tryz.isAgg196
 z50:=Tryz.sizeOf196
 v50:=Tryz.zeroValue196
 t53:=Tryz.underlying338
 a53:=Tryz.isAgg338
 z53:=Tryz.sizeOf338
 v53:=Tryz.zeroValue338
 t55:=Tryz.underlying22
 a55:=Tryz.isAgg22
 z55:=Tryz.sizeOf22
 v55:=Tryz.zeroValue22
 t66:=Tryz.underlying372
 a66:=Tryz.isAgg372
 z66:=Tryz.sizeOf372
 v66:=Tryz.zeroValue372
 t70:=Tryz.underlying376
 a70:=Tryz.isAgg376
 z70:=Tryz.sizeOf376
 v70:=Tryz.zeroValue376
 t76:=Tryz.underlying403
 a76:=Tryz.isAgg403
 z76:=Tryz.sizeOf403
 v76:=Tryz.zeroValue403
 t77:=Tryz.underlying404
 a77:=Tryz.isAgg404
 z77:=Tryz.sizeOf404
 v77:=Tryz.zeroValue404}
open Go.RowKit Go.Lib Go.Sort in
theorem Tryz.slices_SortFunc_none(p:Option Addr)(cap:Nat)(fv:Value)(w:World):
 Calls Tryz.prog 189 #[.slice p 0 cap,fv] w fun e w'=>e= .returned (.tuple #[])∧w'=w:=AnyF.slices_SortFunc_none Tryz.nw p cap fv w
end Go.Proofs
end
section
set_option maxRecDepth 100000
namespace Go.A.Pk
open Go Go.Proofs Go.Sort
theorem lJ:∀{a b:List Nat},a.length=b.length→cmpL b a= -cmpL a b
 |[],[],_=>rfl
 |[],_::_,h=>by cases h
 |_::_,[],h=>by cases h
 |x::a,y::b,h=>by
  unfold cmpL
  by_cases h1:x<y
  ·rw[if_neg (by omega),if_pos h1,if_pos h1];rfl
  ·by_cases h2:y<x
   ·rw[if_pos h2,if_neg h1,if_pos h2]
   ·rw[if_neg h2,if_neg h1,if_neg h1,if_neg h2];exact lJ (by simpa using h)
theorem oe:∀{a b:List Nat},a.length=b.length→cmpL a b=0→a=b
 |[],[],_,_=>rfl
 |[],_::_,h,_=>by cases h
 |_::_,[],h,_=>by cases h
 |x::a,y::b,h,h0=>by
  unfold cmpL at h0
  by_cases h1:x<y
  ·rw[if_pos h1]at h0;cases h0
  ·by_cases h2:y<x
   ·rw[if_neg h1,if_pos h2]at h0;cases h0
   ·rw[if_neg h1,if_neg h2]at h0
    rw[show x=y by omega,oe (by simpa using h) h0]
theorem oS:∀{a b c:List Nat},a.length=b.length→b.length=c.length→cmpL a b<0→cmpL b c<0→cmpL a c<0
 |[],[],_,_,_,h,_=>by unfold cmpL at h;omega
 |[],_::_,_,h,_,_,_=>by cases h
 |_::_,[],_,h,_,_,_=>by cases h
 |_::_,_::_,[],_,h,_,_=>by cases h
 |x::a,y::b,z::c,h1,h2,q1,q2=>by
  unfold cmpL at q1 q2⊢
  by_cases a1:x<y
  ·by_cases b1:y<z
   ·rw[if_pos (show x<z by omega)];omega
   ·rw[if_neg b1]at q2
    by_cases b2:z<y
    ·rw[if_pos b2]at q2;omega
    ·rw[if_pos (show x<z by omega)];omega
  ·rw[if_neg a1]at q1
   by_cases a2:y<x
   ·rw[if_pos a2]at q1;omega
   ·rw[if_neg a2]at q1
    by_cases b1:y<z
    ·rw[if_pos (show x<z by omega)];omega
    ·rw[if_neg b1]at q2
     by_cases b2:z<y
     ·rw[if_pos b2]at q2;omega
     ·rw[if_neg b2]at q2
      rw[if_neg (show¬x<z by omega),if_neg (show¬z<x by omega)]
      exact oS (by simpa using h1) (by simpa using h2) q1 q2
abbrev Sol:={l:List Nat // IsS l}
instance:Inhabited Sol:=⟨⟨s0,Cz⟩⟩
def tH(x:Sol):List Value:=us x.1
def cfS(x y:Sol):Int:=cmpL x.1 y.1
theorem ji(x y:Sol):x.1.length=y.1.length:=x.2.len.trans y.2.len.symm
theorem Jl:SWO (ltOf cfS):=by
 refine⟨fun x=> ?_,fun x y z h1 h2=> ?_,fun x y z h1 h2=> ?_⟩
 ·unfold ltOf cfS;rw[qZ];rfl
 ·unfold ltOf cfS at*
  rw[decide_eq_true_eq]at*
  exact oS (ji x y) (ji y z) h1 h2
 ·unfold ltOf cfS at*
  rw[decide_eq_false_iff_not]at*
  have a1:=lJ (ji x y)
  have a2:=lJ (ji y z)
  have a3:=lJ (ji x z)
  rcases Int.lt_or_eq_of_le (show cmpL y.1 x.1≤0 by omega)with q|q
  ·rcases Int.lt_or_eq_of_le (show cmpL z.1 y.1≤0 by omega)with p|p
   ·have:=oS (ji z y) (ji y x) p q
    omega
   ·have e:=oe (ji z y) p
    rw[e];omega
  ·have e:=oe (ji y x) q
   rw[←e];omega
theorem Fj(x y:Sol)(h1:ltOf cfS x y=false)(h2:ltOf cfS y x=false):x=y:=by
 unfold ltOf cfS at*
 rw[decide_eq_false_iff_not]at*
 have a1:=lJ (ji x y)
 exact Subtype.ext (oe (ji x y) (by omega))
theorem za(x:Sol):(tH x).length=8:=by unfold tH;rw[aI,x.2.len]
theorem B7(d:Array Sol):flatK tH 8 d=(ssL (d.toList.map (·.1))).toArray:=by
 have hok:∀s∈d.toList.map (·.1),IsS s:=fun s hs=>by
  obtain⟨x,_,rfl⟩:=List.mem_map.1 hs
  exact x.2
 have hl:(ssL (d.toList.map (·.1))).length=d.size*8:=by rw[fA hok];simp
 apply ext_get! ((size_flatK tH 8 d).trans hl.symm)
 intro t ht
 have ht':t<d.size*8:=by simpa using ht
 rw[get_flatK _ _ _ t ht']
 have hd:t / 8<d.size:=by omega
 have hx:(d.toList.map (·.1))[t / 8]? =some (d[t / 8]!).1:=by
  rw[List.getElem?_map,Array.getElem?_toList,Array.getElem?_eq_getElem hd,getElem!_pos d (t / 8) hd];rfl
 have h8:=CH hok hx
 have e:((ssL (d.toList.map (·.1))).drop (t / 8*8))[t % 8]? =(us (d[t / 8]!).1)[t % 8]? :=by
  rw[←h8,List.getElem?_take_of_lt (by omega)]
 rw[List.getElem?_drop,show t / 8*8+t % 8=t by omega]at e
 have e1:(us (d[t / 8]!).1).length=8:=za _
 rw[List.getElem?_eq_getElem (by omega),List.getElem?_eq_getElem (by omega),Option.some.injEq]at e
 show(us (d[t / 8]!).1)[t % 8]! =(ssL (d.toList.map (·.1))).toArray[t]!
 rw[getElem!_pos _ (t % 8) (by omega),getElem!_pos _ t (show t<(ssL (d.toList.map (·.1))).length by rw[hl];exact ht'),←e];rfl
theorem y9:Rdy (⟨[],1000,[]⟩:Heap):=⟨⟨by simp,by intro b hb;simp at hb⟩,rfl⟩
theorem LR.flat{μ:Mu}:∀{l:List Value},(∀a∈l,cB a=true)→LR μ l l
 |[],_=> .nil
 |a::l,h=> .cons (VR.cB (h a List.mem_cons_self)).1 (LR.flat fun x hx=>h x (List.mem_cons_of_mem _ hx))
theorem rR{P:Program}{T:Nat→Option af}(S:dW P T)(hg:P.globals.size≤1000){f:Nat}{args:List Value}{v:Value}(hnc:fS (T f)=false)(H:Pu T f args ⟨[],1000,[]⟩ v)(ha:∀a∈args,cB a=true)(hv:cB v=true)(w:World):
 Calls P f args.toArray w fun e w'=>e= .returned v∧∃q os',w'=Sort.grow (w.drewN q) os':=by
 obtain⟨r',h',⟨m,hm⟩,rfl,rfl⟩:=H
 have hrun:=hm m (Nat.le_refl _)
 refine(kN S hrun rfl hnc (R.none (P:=P) (w:=w) hg) (LR.flat ha)).mono fun e w' hq=> ?_
 obtain⟨μ',q1,q2,q3⟩:=hq
 cases e with
 |returned v'=>
  have hv':VR μ' v v':=q1
  rw[(VR.cB hv).2 _ hv']
  have hk:∀r,r<w.heap.size→w'.heap[r]? =w.heap[r]? :=fun r hr=>q3.keep r hr fun⟨b,o,k,g,_⟩=>by cases g
  refine⟨rfl,w'.drawn-w.drawn,w'.heap.extract w.heap.size w'.heap.size,?_⟩
  have hle:=q3.le
  have hh:w'.heap=w.heap++w'.heap.extract w.heap.size w'.heap.size:=by
   apply Array.ext_getElem?
   intro i
   by_cases hi:i<w.heap.size
   ·rw[hk i hi,Array.getElem?_append_left hi]
   ·rw[Array.getElem?_append_right (by omega),Array.getElem?_extract]
    by_cases h2:i<w'.heap.size
    ·rw[if_pos (by omega)];congr 1;omega
    ·rw[if_neg (by omega),Array.getElem?_eq_none (by omega)]
  obtain⟨s1,s2,s3,s4⟩:=q3.same
  cases w with
  |mk a1 a2 a3 a4 a5=>
   cases w' with
   |mk b1 b2 b3 b4 b5=>
    dsimp only at s1 s2 s3 s4 hh
    subst s1;subst s2;subst s3
    show World.mk b1 _ b3 _ _=World.mk (a1++_) _ (a3+(b3-a3)) _ _
    rw[show a3+(b3-a3)=b3 by omega]
    congr 1
 |panicked _=>exact q1.elim
 |outgrown=>exact q1.elim
theorem Qq:aO Tryz.prog Tryz.f168 [[2,3],[4]]=some f168:=by kernel_rfl
theorem Qr:aO Tryz.prog Tryz.f190 [[2,3],[4]]=some f190:=by kernel_rfl
theorem Qs:aO Tryz.prog Tryz.f191 [[0,1],[0,1,9,10,11],[0,1,9,10,11,12],[0,1,5,6,9,10,11],[0,1,5,6,9,10,11,19],[4],[0,1,6,7,9,10,11],[0,1,8,9,10,11],[0,1,8,9,10,11,28],[4],[0,1,9,10,11],[35],[4],[4]]=some f191:=by kernel_rfl
theorem Qt:aO Tryz.prog Tryz.f256 [[0,1],[0,1,5],[0,1,5,6],[0,1,6,11],[12],[4],[4],[0,1,13],[4],[0,1,16],[4],[19],[4],[4]]=some f256:=by kernel_rfl
theorem Qu:aO Tryz.prog Tryz.f315 [[0],[2]]=some f315:=by kernel_rfl
def IB:Tr:=(.node (.node (.node .nil 168 f168 .nil) 190 f190 .nil) 191 f191 (.node (.node .nil 256 f256 .nil) 315 f315 .nil))
def TC:Nat→Option af:=IB.get
theorem Ql:IB.all (Entry Tryz.prog):=by
 unfold IB
 exact(Tr.aa (Tr.aa (Tr.aa Tr.all_nil (.of Tryz.func168 Qq) Tr.all_nil) (.of Tryz.func190 Qr) Tr.all_nil) (.of Tryz.func191 Qs) (Tr.aa (Tr.aa Tr.all_nil (.of Tryz.func256 Qt) Tr.all_nil) (.of Tryz.func315 Qu) Tr.all_nil))
theorem BC:dW Tryz.prog TC:=oA (by kernel_rfl) Ql
theorem O3:vj TC:={p:=BC.bt,f191:=by kernel_rfl,f256:=by kernel_rfl,f315:=by kernel_rfl}
theorem C6(k:Nat)(hk:k=168∨k=190)(x y:Sol)(w:World):Calls Tryz.prog k #[.agg (tH x).toArray, .agg (tH y).toArray] w fun e w'=>e= .returned (.int .i64 (cfS x y))∧∃q os',w'=Sort.grow (w.drewN q) os':=by
 have hn:∀a∈[sv x.1,sv y.1],cB a=true:=fun a ha=>by
  rcases List.mem_cons.1 ha with rfl|ha
  ·exact iI _
  ·rw[List.mem_singleton.1 ha];exact iI _
 rcases hk with rfl|rfl
 ·exact rR BC lM (by kernel_rfl) (JB O3 (by kernel_rfl) y9 x.2 y.2) hn rfl w
 ·exact rR BC lM (by kernel_rfl) (JC O3 (by kernel_rfl) y9 x.2 y.2) hn rfl w
theorem JI(l:List (List Nat))(h:∀s∈l,IsS s):∃d:List Sol,d.map (·.1)=l:=⟨l.attach.map fun x=>⟨x.1,h _ x.2⟩,by simp⟩
theorem H9(d:List Sol):(d.mergeSort fun x y=> !(ltOf cfS) y x).map (·.1)=eD (d.map (·.1)):=by
 unfold eD
 exact List.map_mergeSort fun a _ b _=>rfl
theorem AE(k:Nat)(hk:k=168∨k=190):∀args w,(callFunc k args).run Tryz.prog w= .ok (.enter k args) w:=by
 rcases hk with rfl|rfl
 ·exact enters_of Tryz.func168 (by kernel_rfl) rfl
 ·exact enters_of Tryz.func190 (by kernel_rfl) rfl
theorem Pv:Entry Tryz.prog 189 (.jW (nM 168 190)):=by
 refine .jW (DU Tryz.func189 (of_decide_eq_true (by kernel_rfl)) (by kernel_rfl) (fun k p cap w=>Tryz.slices_SortFunc_none p cap _ w) ?_)
 intro k hk blk off cap l w hok hH hblk hl
 obtain⟨d,hd⟩:=JI l hok
 have hfl:flatK tH 8 d.toArray=(ssL l).toArray:=by rw[B7];simp[hd]
 have hdl:d.length=l.length:=by rw[←hd];simp
 have h:=AnyQ.slices_SortFunc_total Tryz.nw 8 (Tryz.isAgg24) (Tryz.sizeOf24) tH za (fun x v hv=>by
  obtain⟨n,_,rfl⟩:=List.mem_map.1 hv
  rfl) cfS Jl k #[] blk off cap d.toArray w (AE k hk) (fun m os dk hs x y=>by
   have:=C6 k hk x y (sortWorldK tH 8 w blk off m dk os)
   simpa using this) (by
   show Holds id w blk off (flatK tH 8 d.toArray)
   rw[hfl];exact hH) hblk (by simpa[hdl]using hl) Fj
 have hs:d.toArray.size=l.length:=by simpa using hdl
 rw[hs]at h
 refine h.mono fun e w' ⟨he,n,os,hw⟩=>⟨he,n,os,?_⟩
 rw[hw]
 show Sort.grow (putRow id (Sort.ahead w n) blk off (flatK tH 8 _)) os=_
 rw[B7]
 congr 2
 have:=H9 d
 rw[hd]at this
 simpa using congrArg ssL this
end Go.A.Pk
end
section
set_option maxRecDepth 100000
namespace Go.A.Pk
open Go.Sort Go.Proofs
def SLt(a b:List Nat):Prop:=cmpL a b<0
end Go.A.Pk
end
section
set_option maxRecDepth 100000
namespace Go.A.Pk
variable {T:Nat→Option af}
theorem GG{w:List Nat×List Nat}(hw:IsW w){o s:List Nat}(h:s∈fQ w o):IsS s:=zK hw (List.mem_filter.1 h).1
theorem DA(w:List Nat×List Nat)(o:List Nat):(fQ w o).length≤98304:=Nat.le_trans (List.length_filter_le ..) (vP w o)
end Go.A.Pk
end
section
set_option maxRecDepth 100000
namespace Go.A.Pk
def Qm(t:List Nat)(p:Pb):Nat:=if sIn p.cells t then 1 else 2
end Go.A.Pk
end
section
set_option maxRecDepth 100000
namespace Go.A.Pk
variable {T:Nat→Option af}
theorem OwS.LD{lo:Nat}{h h':Heap}{v:Value}{l:List (List Nat)}(q:OwS lo h v l)(hn:h.next≤h'.next)(ha:∀z,vB v z→h'.get z=h.get z):OwS lo h' v l:=by
 rcases q with q|⟨b,c,t,h1,h2,h3,rfl,h4⟩
 ·exact .inl q
 ·exact .inr ⟨b,c,t,h1,by omega,(ha b ⟨_,_,rfl⟩).trans h3,rfl,h4⟩
theorem HB{w:List Nat×List Nat}(hw:IsW w)(pv nv ov mv v:Value)(hv:cellsOf v=[v]):cO (quL w pv nv ov mv) (0+17) (cellsOf v)=quL w pv v ov mv:=by
 have hl:=iw hw
 rw[hv]
 unfold quL
 rw[eX (by rw[List.length_append,hl];simp),Nat.zero_add,List.take_append,List.take_of_length_le (by omega),hl,List.drop_append,List.drop_of_length_le (by simp;omega),hl]
 simp
theorem Ka{lo sz n p m c:Nat}{h:Heap}{cs:List Value}(s:Own lo h sz (.slice (some ⟨p,0,none⟩) m c) n cs):h.get p=some (.cells cs true sz):=by
 cases s with
 |full h1 h2 h3=>exact h3
theorem Kb{lo n:Nat}{h:Heap}{v:Value}{cs:List Value}(s:Own lo h 1 v n cs):cs.length=n:=by
 cases s with
 |nil=>rfl
 |full h1 h2 h3 h4=>omega
theorem Ho{lo sz n:Nat}{h:Heap}{v:Value}{cs:List Value}(s:Own lo h sz v n cs)(hn:0<n):lD v=false:=by
 cases s with
 |nil=>omega
 |full=>rfl
structure Lr (T:Nat→Option af):Prop where
 nd:yx T
 f201:T 201=some f201
set_option maxHeartbeats 16000000 in
theorem JD(F:Lr T){h:Heap}(hr:Rdy h)(hg:Tab h)(h2:2<h.next){q:Nat}(hq2:2<q){w:List Nat×List Nat}(hw:IsW w){pv ov mv:Value}(gq:h.get q=some (.cells (quL w pv (.slice none 0 0) ov mv) true 1)){os:List (List Nat)}(so:SsQ h ov os)(hol:os.length<1000000)
 (hov:∀b o m c,ov= .slice (some ⟨b,o,none⟩) m c→b<q):
 Gs T 201 [.pointer (some ⟨q,0,none⟩)] h (fun z=>q≤z) fun _ h'=>(∀z,z<h.next→z≠q→h'.get z=h.get z)∧∃nv,h'.get q=some (.cells (quL w pv nv ov mv) true 1)∧NdS h' nv (os.map (fQ w)):=by
 have hp:=F.nd.pl.fi.ft.li.p
 refine .ofK hp F.f201 ?_
 obtain⟨a,c,rfl⟩:=so.sl.form
 have hqn:=hr.wf.ef gq
 have ko:=fun nv=>LL hw pv nv (.slice a os.length c) mv
 have kn:=fun nv=>LK hw pv nv (.slice a os.length c) mv
 have kw:=fun nv=>PC hw pv nv (.slice a os.length c) mv
 have kwl:=oE hw
 have kqset:=fun nv v=>HB hw pv nv (.slice a os.length c) mv v
 have kql:=fun nv=>Bu hw pv nv (.slice a os.length c) mv
 have ko0:=ko (.slice none 0 0)
 refine y4 ?_;refine yM ?_;refine an (cA (by exact rfl)) ?_;refine yF ?_;refine an (bO (by exact rfl) (by assumption) (by assumption)) ?_;refine yD ?_;refine yM ?_;refine y3 ?_;refine aK ?_
 refine dG (fun m e ds h'=>∃(i:Nat) (v:Value) (vals:List Value),i≤os.length∧m=os.length-i∧e=[(0, .pointer (some ⟨q,0,none⟩)),(7, .slice a os.length c),(8, .int .i64 (os.length:Nat)),(9, .int .i64 (i:Nat))]∧ds=[]∧WF h'∧h.next≤h'.next∧eF q h'.log∧(i=0→h'=h)∧(0<i→q∈h'.log)∧(∀z,z<h.next→z≠q→h'.get z=h.get z)∧h'.get q=some (.cells (quL w pv v (.slice a os.length c) mv) true 1)∧Own h.next h' 1 v i vals∧dR vals=true∧∀j r,((os.take i).map (fQ w))[j]? =some r→∃u,vals[j]? =some u∧OwS h.next h' u r)
  ⟨0, .slice none 0 0,[],Nat.zero_le _,rfl,rfl,rfl,hr.wf,Nat.le_refl _,by rw[hr.log];exact eF.nil _,fun _=>rfl,fun q=>absurd q (Nat.lt_irrefl 0),fun _ _ _=>rfl,gq, .nil,rfl,fun j r hj=>(by rw[List.take_zero,List.map_nil,List.getElem?_nil]at hj;cases hj)⟩ ?_
 rintro m e ds G ⟨i,v,vals,hin,rfl,rfl,rfl,WG,nG,lG,hi0,hi1,oG,gqG,ow,on1,hvs⟩
 have hgG:G.get 2=h.get 2:=oG 2 h2 (by omega)
 by_cases hlt:i<os.length
 ·obtain⟨x,hx⟩:∃s,os[i]? =some s:=⟨os[i],List.getElem?_eq_getElem hlt⟩
  have hxs:=so.ok x (List.mem_of_getElem? hx)
  obtain⟨b,o,c3,vs,own,tt,hv,gl,hbl,el⟩:=so.elem hx
  cases hv
  have hbq:b≠q:=Nat.ne_of_lt (hov _ _ _ _ rfl)
  have glG:=(oG b hbl hbq).trans gl
  have kx8:=bF hxs.len
  have kx9:=cD hxs.len
  have kxn:=hxs.len
  have mlt:aA .lss (.int .i64 (i:Nat)) (.int .i64 (os.length:Nat))=some (.bool true):=jg (by omega)
  refine y4 ?_;refine yW ?_;refine y3 ?_;refine ah ?_;refine yY ?_;refine aH ?_;refine aV ?_;refine ah ?_;refine aK ?_
  refine fB (E0:=[(0, .pointer (some ⟨q,0,none⟩)),(3, .pointer (some ⟨G.next,0,none⟩)),(7, .slice (some ⟨b,o,none⟩) os.length c),(8, .int .i64 (os.length:Nat)),(9, .int .i64 (i:Nat))]) (P:=fun h'=>Ext G h'∧h'.next=G.next+1∧h'.get G.next=some (.cells (us x) true 1)) ?_ ?_
  ·refine aJ ?_;refine yI ?_;refine yV ?_;refine an (dL) ?_
   refine an (dg (by exact rfl) (by exact rfl) (by(simp(disch:=first|omega|(simp only[z1,z2];omega))only[z3,z4,z5,z6,z7,z1,z2,hgG,gl,gq,gqG,glG];exact rfl)) (by(simp only[aI];assumption)) (by exact rfl) (by exact dB _)) ?_
   refine dN ?_;refine y1 ?_
   exact⟨rfl,rfl,rfl,iC (by omega) _ _,rfl,by(simp(disch:=first|omega|(simp only[z1,z2];omega))only[z3,z4,z5,z6,z7,z1,z2,hgG,gl,gq,gqG,glG];done)⟩
  rintro G2 ⟨x2,n2,g2⟩
  have WG2:=x2.wf WG
  have gqG2:=(x2.old _ (by omega)).trans gqG
  have hgG2:Tab G2:=((x2.old 2 (by omega)).trans hgG).trans hg
  have C:=JN F.nd (h:={G2 with log:=[]}) (.of WG2) (show Tab G2 from hgG2) (by show 2<G2.next;omega) hw hxs
  obtain⟨av,cv,rfl⟩:∃a c,v= .slice a i c:=(ow.slice (by omega)).form
  have kov:=ko (.slice av i cv)
  have knv:=kn (.slice av i cv)
  have kwv:=kw (.slice av i cv)
  refine cV ?_;refine qM ?_;refine qM ?_;refine aM rfl rfl rfl (by exact rfl) (by exact rfl) (by exact rfl) (cA (by exact rfl)) ?_
  refine qF ?_;refine qK ?_;refine qM ?_
  refine aM rfl rfl rfl (by exact rfl) (by exact rfl) (by exact rfl) (cA (by exact rfl)) ?_;refine qF ?_;refine qV ?_
  refine qV ?_
  refine qC ?_
  refine FW.alD C (fun v h' m q=>q.log m) ?_
  rintro u G5 x5 q5
  clear C
  have q5:OwS G2.next G5 u (fQ w x):=q5
  have n5:=x5.next
  have gq5:=(x5.old _ (by omega)).trans gqG2
  have g25:=(x5.old _ (by omega)).trans g2
  refine⟨_,by(repeat apply aP rfl);apply aB rfl (aq rfl (bO (by exact rfl) (by assumption) (by assumption)) (by exact fq _ _ _)) rfl;apply aB rfl (aq rfl (dz (by exact rfl)) (by exact bT _)) rfl;apply aB rfl (aq rfl (cA (by exact rfl)) (by exact bT _)) rfl;apply aB rfl (aq rfl (fC (by exact rfl)) (by exact bT _)) rfl;apply aB rfl (aq rfl (fC (by exact rfl)) (by exact bT _)) rfl;exact cC,?_⟩
  obtain⟨a5,c5,rfl⟩:=q5.form
  refine pN rfl rfl rfl (by exact rfl) (by exact rfl) (by exact rfl) (iZ (by exact rfl) (by exact rfl)) (by refine dA (aq rfl (bO (by exact rfl) (by(simp(disch:=first|omega|(simp only[z1,z2];omega))only[z3,z4,z5,z6,z7,z1,z2,hgG,gl,gq,glG,g2,gqG,gqG2,gq5,g25];exact rfl)) (by assumption)) (by exact fq _ _ _)) ?_;refine dA (aq rfl (dz (by exact rfl)) (by exact bT _)) ?_;refine dA (aq rfl (cA (by exact rfl)) (by exact bT _)) ?_;refine dA (aq rfl (fC (by exact rfl)) (by exact bT _)) ?_;refine dA (aq rfl (fC (by exact rfl)) (by exact bT _)) ?_;exact pI) ?_
  have x6:Ext G5 (G5.push (.cells [.slice a5 (fQ w x).length c5] true 1)):=(Ext.refl G5).push _
  have hvb:∀q' a c,(.slice av i cv:Value)= .slice (some ⟨q',0,none⟩) a c→h.next≤q'∧q'<G.next:=fun q' a c e=>by rw[e]at ow;exact Bh ow
  have n6:(G5.push (.cells [.slice a5 (fQ w x).length c5] true 1)).next=G5.next+1:=rfl
  refine IE (lo:=q) (n:=i) (cs:=vals) (c1:=[.slice a5 (fQ w x).length c5]) ((ow.ext (x2.trans (x5.trans x6))).low (by omega)) (by omega) (by omega) (by omega) rfl rfl rfl (by exact rfl) (by exact rfl) (by exact rfl) (sU (ki (cs:=[.slice a5 (fQ w x).length c5]) (z3 G5 _) rfl rfl)) rfl rfl on1 (by show eF q G5.log;rw[x5.log,x2.log];exact lG) (x6.wf (x5.wf WG2)) ?_
  intro G7 lg o7 n7 l7 W7 hold7
  have n7:G5.next+1<G7.next:=n7
  have hold7:∀z,z<G5.next→(∀q' a c,(.slice av i cv:Value)= .slice (some ⟨q',0,none⟩) a c→z≠q')→G7.get z=G5.get z:=fun z hz hne=>(hold7 z (by show z<G5.next+1;omega) hne).trans (z4 hz)
  have o7:Own (G5.next+1) G7 1 (.slice (some ⟨G5.next+1,0,none⟩) (i+1) UNK) (i+1) (vals++[.slice a5 (fQ w x).length c5]):=o7
  have gq7:G7.get q=some (.cells (quL w pv (.slice av i cv) (.slice (some ⟨b,o,none⟩) os.length c) mv) true 1):=(hold7 q (by omega) (fun q' a c e=>by have:=(hvb q' a c e).1;omega)).trans gq5
  refine⟨_,by(repeat apply aP rfl);apply aB rfl (aq rfl (fC (by exact rfl)) (by exact bT _)) rfl;exact cC,?_⟩
  have kc:(Nat.beq (bZ (cellsOf (.slice (some ⟨G5.next+1,0,none⟩) (i+1) UNK))) 1&&Nat.ble (0+17+1) (bZ (quL w pv (.slice av i cv) (.slice (some ⟨b,o,none⟩) os.length c) mv))&&dR (cellsOf (.slice (some ⟨G5.next+1,0,none⟩) (i+1) UNK)))=true:=by
   rw[bQ (quL w pv (.slice av i cv) (.slice (some ⟨b,o,none⟩) os.length c) mv),kql (.slice av i cv)];rfl
  have kst:=kqset (.slice av i cv) (.slice (some ⟨G5.next+1,0,none⟩) (i+1) UNK) rfl
  have kqn7:q<G7.next:=by omega
  refine aM rfl rfl rfl (by exact rfl) (by exact rfl) (by exact rfl) (cA (by exact rfl)) ?_;refine qF ?_
  refine gP rfl rfl rfl (by exact rfl) (by exact rfl) (by exact rfl) gq7 kc kst kqn7 (by(repeat apply aP rfl);exact cC) ?_
  refine dy ?_;refine y1 ?_;refine ff ?_;refine aV ?_;refine aJ ?_;refine ia ?_;refine yM ?_;refine y3 ?_
  refine⟨os.length-(i+1),by omega,i+1, .slice (some ⟨G5.next+1,0,none⟩) (i+1) UNK,vals++[.slice a5 (fQ w x).length c5],by omega,rfl,rfl,rfl,W7.as (AS.wr h.next _ _ _),(by show h.next≤G7.next;omega),uX l7 (Nat.le_refl q),fun e=>(by omega),fun _=>NJ hqn,fun z hz hne=> ?_,?_,?_,kH on1 rfl,fun j r hj=> ?_⟩
  ·exact(z5 hne).trans ((hold7 z (by omega) (fun q' a c e=>by have:=(hvb q' a c e).1;omega)).trans ((x5.old z (by omega)).trans ((x2.old z (by omega)).trans (oG z hz hne))))
  ·rw[z6,gq7];rfl
  ·exact(o7.keep (h':=G7.wr h.next q (.cells (quL w pv (.slice (some ⟨G5.next+1,0,none⟩) (i+1) UNK) (.slice (some ⟨b,o,none⟩) os.length c) mv) true 1)) (Nat.le_refl _) fun z hz _=>z5 (by omega)).low (by omega)
  ·have hvl:vals.length=i:=by
    have:=ow.slice (by omega)
    exact Kb ow
   have hml:((os.take i).map (fQ w)).length=i:=by rw[List.length_map,List.length_take];omega
   rw[iW hx,List.map_append]at hj
   rcases Nat.lt_or_ge j i with hji|hji
   ·rw[List.getElem?_append_left (by omega)]at hj
    obtain⟨u',hu',qo⟩:=hvs j r hj
    refine⟨u',by rw[List.getElem?_append_left (by omega)];exact hu',qo.LD (by show G.next≤G7.next;omega) fun z hz=> ?_⟩
    have hzb:=qo.vb hz
    refine(z5 (by omega)).trans ((hold7 z (by omega) (fun q' a c e=> ?_)).trans ((x5.old z (by omega)).trans (x2.old z (by omega))))
    rw[e]at ow
    exact qo.ne (Ka ow) z hz
   ·obtain rfl:j=i:=by
     have:=(List.getElem?_eq_some_iff.1 hj).1
     rw[List.length_append,hml]at this
     simp at this;omega
    rw[List.getElem?_append_right (by omega),hml,Nat.sub_self]at hj
    simp at hj
    subst hj
    refine⟨_,by rw[List.getElem?_append_right (by omega),hvl,Nat.sub_self];rfl,(q5.low (by omega)).LD (by show G5.next≤G7.next;omega) fun z hz=> ?_⟩
    have hzb:=q5.vb hz
    exact(z5 (by omega)).trans ((hold7 z (by omega) (fun q' a c e=>by have:=(hvb q' a c e).2;omega)))
 ·obtain rfl:i=os.length:=by omega
  have mlt:aA .lss (.int .i64 (os.length:Nat)) (.int .i64 (os.length:Nat))=some (.bool false):=jD (by omega)
  rw[List.take_length]at hvs
  have hon:0<os.length→lD v=false:=fun q=>Ho ow q
  have hsl:=ow.slice (by omega)
  refine y4 ?_;refine yW ?_;refine y3 ?_;refine ah ?_;refine yX ?_;refine dw ?_;refine dQ ?_;refine dQ ?_;refine iN ?_
  refine Db (fun z hz=>lG z hz) ?_ rfl ⟨oG,v,gqG,vals,?_,fun j r hj=> ?_⟩
  ·rcases Nat.eq_zero_or_pos os.length with q0|q0
   ·exact .inl (hi0 q0)
   ·exact .inr ⟨q,hqn,hi1 q0,_,_,_,gqG,Af (hon q0) (List.mem_append_right _ (by simp))⟩
  ·rw[List.length_map];exact hsl
  ·obtain⟨u,hu,qu⟩:=hvs j r hj
   refine⟨u,hu,qu.ss fun s hs=> ?_⟩
   have hjm:=List.mem_of_getElem? hj
   obtain⟨x,_,rfl⟩:=List.mem_map.1 hjm
   exact GG hw hs
def kY(w:List Nat×List Nat)(l:List Pb)(os:List (List Nat)):Int:=
 if sIn w.1 w.2=false then 1 else if 6<os.length then 2 else if os.any (fun s=>decide (s=s0))=true then 1 else prE l
structure Lg (T:Nat→Option af):Prop where
 ne:EE T
 cp:BM T
 f141:T 141=some f141
theorem Jr{h:Heap}{e:Env}{w:List Nat×List Nat}(hw:IsW w){x1 x2 x3 x4:Operand}{pv ov mv:Value}(h1:ev h e x1=some (wV w))(h2:ev h e x2=some pv)(h3:ev h e x3=some ov)(h4:ev h e x4=some mv)(c2:cellsOf pv=[pv])(c3:cellsOf ov=[ov])(c4:cellsOf mv=[mv]):
 iF h e [(.int .u64 0),(.int .u64 0),(.int .u64 0),(.int .u64 0),(.int .u64 0),(.int .u64 0),(.int .u64 0),(.int .u64 0),(.int .u64 0),(.int .u64 0),(.int .u64 0),(.int .u64 0),(.int .u64 0),(.int .u64 0),(.int .u64 0),(.int .u64 0),(.slice none 0 0),(.slice none 0 0),(.slice none 0 0),(.map none)] [(0,16,x1),(16,1,x2),(18,1,x3),(19,1,x4)]=some (quL w pv (.slice none 0 0) ov mv):=by
 have hl:=iw hw
 have e1:cellsOf (wV w)=wL w:=by show(wL w).toArray.toList=_;simp
 have k1:bZ (wL w)=16:=by rw[bQ,hl]
 have p1:cO [(.int .u64 0),(.int .u64 0),(.int .u64 0),(.int .u64 0),(.int .u64 0),(.int .u64 0),(.int .u64 0),(.int .u64 0),(.int .u64 0),(.int .u64 0),(.int .u64 0),(.int .u64 0),(.int .u64 0),(.int .u64 0),(.int .u64 0),(.int .u64 0),(.slice none 0 0),(.slice none 0 0),(.slice none 0 0),(.map none)] 0 (wL w)=wL w++[.slice none 0 0, .slice none 0 0, .slice none 0 0, .map none]:=by
  rw[eX (by rw[hl];decide),hl];rfl
 have p2:cO (wL w++[.slice none 0 0, .slice none 0 0, .slice none 0 0, .map none]) 16 [pv]=wL w++[pv, .slice none 0 0, .slice none 0 0, .map none]:=by
  rw[eX (by rw[List.length_append,hl];simp),List.take_append_of_le_length (by omega),List.take_of_length_le (by omega),List.drop_append,List.drop_of_length_le (by simp;omega),hl];simp
 have p3:cO (wL w++[pv, .slice none 0 0, .slice none 0 0, .map none]) 18 [ov]=wL w++[pv, .slice none 0 0,ov, .map none]:=by
  rw[eX (by rw[List.length_append,hl];simp),List.take_append,List.take_of_length_le (by omega),List.drop_append,List.drop_of_length_le (by simp;omega),hl];simp
 have p4:cO (wL w++[pv, .slice none 0 0,ov, .map none]) 19 [mv]=wL w++[pv, .slice none 0 0,ov,mv]:=by
  rw[eX (by rw[List.length_append,hl];simp),List.take_append,List.take_of_length_le (by omega),List.drop_append,List.drop_of_length_le (by simp;omega),hl];simp
 have k2:∀a b c d:Value,bZ (wL w++[a,b,c,d])=20:=fun a b c d=>by rw[bQ,List.length_append,hl];rfl
 simp only[iF,h1,h2,h3,h4,e1,c2,c3,c4,k1,k2,p1,p2,p3,p4]
 rfl
theorem CZ(l:List Value):cellsOf (.agg l.toArray)=l:=by show l.toArray.toList=_;simp
def Qf(h:Heap)(w:List Nat×List Nat)(pv ov:Value)(e:Int)(v:Value)(h':Heap):Prop:=
 (e≠0∧v= .tuple #[.pointer none, .int .i64 e])∨(e=0∧∃q m,v= .tuple #[.pointer (some ⟨q,0,none⟩), .int .i64 0]∧h.next≤m∧m<q∧q<h'.next∧h'.get q=some (.cells (quL w pv (.slice none 0 0) ov (.map (some m))) true 1)∧h'.get m=some (.map []))
set_option maxHeartbeats 8000000 in
theorem E9(F:Lg T){h:Heap}(hr:Rdy h){w:List Nat×List Nat}(hw:IsW w){pv ov:Value}{l:List Pb}(sp:PbS h pv l)(hl:l.length<1000000){os:List (List Nat)}(so:SsQ h ov os)(hol:os.length<1000000):
 Al T 141 [wV w,pv,ov] h (Qf h w pv ov (kY w l os)):=by
 have hp:=F.cp.p
 refine .of hp F.f141 hr ?_ ?_
 ·rintro v h1 hv (q|⟨_,q,m,rfl,_⟩)
  ·exact .inl q
  ·cases hv
 obtain⟨a,c,rfl⟩:=sp.form
 obtain⟨a2,c2,rfl⟩:=so.sl.form
 have hwc:cellsOf (wV w)=wL w:=by show(wL w).toArray.toList=_;simp
 have x0:Ext h (h.push (.cells (cellsOf (wV w)) true 1)):=(Ext.refl h).push _
 have g0:(h.push (.cells (cellsOf (wV w)) true 1)).get h.next=some (.cells (wL w) true 1):=by rw[hwc];exact z3 h _
 have n0:(h.push (.cells (cellsOf (wV w)) true 1)).next=h.next+1:=rfl
 refine y4 ?_;refine yB ?_;refine yM ?_;refine yM ?_;refine y3 ?_
 generalize(h.push (.cells (cellsOf (wV w)) true 1))=H at*
 have W:=x0.wf hr.wf
 have hL:=x0.log.trans hr.log
 have wk:=uW hw
 have wkl:=oE hw
 have C1:=NI F.ne (h:={H with log:=[]}) (.of W) hw
 have C2:=rT hp F.ne.nd.f196 F.ne.nd.f257 (h:={H with log:=[]}) (.of W) ((so.ext x0).log []) hol (g:=90) (cap:=[]) (fun s=>decide (s=s0)) fun s hs=>B1 hp F.cp.f90 (.of W) (so.ok s hs)
 have C3:=Jm F.cp (h:={H with log:=[]}) (.of W) ((sp.ext x0).log []) hl
 unfold kY
 cases hin:sIn w.1 w.2 with
 |false=>
  rw[hin]at C1
  rw[if_pos rfl]
  refine ah ?_;refine y4 ?_;refine yV ?_
  refine yC ?_
  refine FW.pu C1 ?_
  refine yA ?_;refine y3 ?_;refine yY ?_;refine y4 ?_;refine yM ?_;refine yM ?_;refine y3 ?_;refine aG ?_;refine eW ?_
  exact ej hL rfl (.inl ⟨by decide,rfl⟩)
 |true=>
 rw[hin]at C1
 rw[if_neg (by simp)]
 by_cases h6:6<os.length
 ·have m1:aA .gtr (.int .i64 (os.length:Nat)) (.int .i64 6)=some (.bool true):=gX (by omega)
  rw[if_pos h6]
  refine ah ?_;refine y4 ?_;refine yV ?_
  refine yC ?_
  refine FW.pu C1 ?_
  refine yA ?_;refine y3 ?_;refine yX ?_;refine aH ?_;refine aV ?_;refine ah ?_;refine y4 ?_;refine yM ?_;refine yD ?_
  refine yW ?_;refine y3 ?_;refine yY ?_;refine y4 ?_;refine yM ?_;refine yM ?_;refine y3 ?_;refine aG ?_;refine eW ?_
  exact ej hL rfl (.inl ⟨by decide,rfl⟩)
 have m1:aA .gtr (.int .i64 (os.length:Nat)) (.int .i64 6)=some (.bool false):=jV (by omega)
 rw[if_neg h6]
 cases ha:os.any (fun s=>decide (s=s0))with
 |true=>
  rw[ha]at C2
  rw[if_pos rfl]
  refine ah ?_;refine y4 ?_;refine yV ?_
  refine yC ?_
  refine FW.pu C1 ?_
  refine yA ?_;refine y3 ?_;refine yX ?_;refine aH ?_;refine aV ?_;refine ah ?_;refine y4 ?_;refine yM ?_;refine yD ?_
  refine yW ?_;refine y3 ?_;refine yX ?_;refine aH ?_;refine aV ?_;refine ah ?_;refine y4 ?_;refine yM ?_
  refine yC ?_
  refine FW.pu C2 ?_
  refine y3 ?_;refine yY ?_;refine y4 ?_;refine yM ?_;refine yM ?_;refine y3 ?_;refine aG ?_;refine eW ?_
  exact ej hL rfl (.inl ⟨by decide,rfl⟩)
 |false=>
 rw[ha]at C2
 rw[if_neg (by simp)]
 by_cases he:prE l=0
 ·rw[he]at C3⊢
  have mn:aA .neq (.int .i64 0) (.int .i64 0)=some (.bool false):=rfl
  refine ah ?_;refine y4 ?_;refine yV ?_
  refine yC ?_
  refine FW.pu C1 ?_
  refine yA ?_;refine y3 ?_;refine yX ?_;refine aH ?_;refine aV ?_;refine ah ?_;refine y4 ?_;refine yM ?_;refine yD ?_
  refine yW ?_;refine y3 ?_;refine yX ?_;refine aH ?_;refine aV ?_;refine ah ?_;refine y4 ?_;refine yM ?_
  refine yC ?_
  refine FW.pu C2 ?_
  refine y3 ?_;refine yX ?_;refine aH ?_;refine aV ?_;refine ah ?_;refine y4 ?_;refine yM ?_
  refine yC ?_
  refine FW.pu C3 ?_
  clear C1 C2 C3
  refine yM ?_;refine y3 ?_;refine y4 ?_;refine yM ?_;refine yW ?_;refine y3 ?_;refine yX ?_;refine aH ?_;refine aV ?_;refine y4 ?_;refine yV ?_;refine yM ?_;refine yM ?_
  refine an Jb ?_
  refine an (ez (Jr hw (by exact rfl) (by exact rfl) (by exact rfl) (by exact rfl) rfl rfl rfl)) ?_
  have hqc:=CZ (quL w (.slice a l.length c) (.slice none 0 0) (.slice a2 os.length c2) (.map (some H.next)))
  refine yB ?_;refine yM ?_;refine yM ?_;refine y3 ?_;refine aG ?_
  refine ej hL rfl (.inr ⟨rfl,_,_,rfl,?_,Nat.lt_succ_self _,Nat.lt_succ_self _,?_,?_⟩)
  ·show h.next≤H.next;omega
  ·rw[hqc];exact z3 _ _
  ·exact(z4 (Nat.lt_succ_self _)).trans (z3 _ _)
 ·have mn:aA .neq (.int .i64 (prE l)) (.int .i64 0)=some (.bool true):=mE he
  generalize prE l=e at*
  refine ah ?_;refine y4 ?_;refine yV ?_
  refine yC ?_
  refine FW.pu C1 ?_
  refine yA ?_;refine y3 ?_;refine yX ?_;refine aH ?_;refine aV ?_;refine ah ?_;refine y4 ?_;refine yM ?_;refine yD ?_
  refine yW ?_;refine y3 ?_;refine yX ?_;refine aH ?_;refine aV ?_;refine ah ?_;refine y4 ?_;refine yM ?_
  refine yC ?_
  refine FW.pu C2 ?_
  refine y3 ?_;refine yX ?_;refine aH ?_;refine aV ?_;refine ah ?_;refine y4 ?_;refine yM ?_
  refine yC ?_
  refine FW.pu C3 ?_
  refine yM ?_;refine y3 ?_;refine y4 ?_;refine yM ?_;refine yW ?_;refine y3 ?_;refine yY ?_;refine y4 ?_;refine yM ?_;refine yM ?_;refine yM ?_;refine y3 ?_;refine aG ?_;refine eW ?_
  exact ej hL rfl (.inl ⟨he,rfl⟩)
end Go.A.Pk
end
