/- Walks of functions, plain laws, the table. -/
import Derived.Test.YtjancmjkjgpfpaaGreatDoorVU2
import Derived.Test.YtjancmjkjgpfpaaGreatDoorVU1
import Derived.Test.YtjancmjkjgpfpaaGreatDoorVF
import Derived.Shelf.SlSortCmp.NoneTotal
import Derived.Test.YtjancmjkjgpfpaaGreatDoorProg
import Derived.Test.YtjancmjkjgpfpaaGreatDoorVH
import Derived.KernelRfl
import Derived.Test.YtjancmjkjgpfpaaGreatDoorVD
set_option linter.all false
set_option maxHeartbeats 16000000
set_option maxRecDepth 100000
section
namespace Go.A.Pk
variable {T:Nat->Option an}
inductive OwE (lo:Nat) (h:Heap) (sz:Nat):Value->Nat->List Value->Prop
 |own {v n cs}:Own lo h sz v n cs->OwE lo h sz v n cs
 |lit {b}:lo<=b->b<h.next->h.get b=some (.cells [] true sz)->OwE lo h sz (.slice (some ⟨b,0,none⟩) 0 0) 0 []
end Go.A.Pk
end
section
namespace Go.A.Pk
variable {T:Nat->Option an}
theorem Nq{base:Nat}{rnd:Option Nat}{Q:XQ}{e:Env}{ds:Dfs}{h:Heap}{lo sz bytes n:Nat}{dst:Option Nat}{os:List aV}{x y:Operand}{v u:Value}{cs c1:List Value}(s:Own lo h sz v n cs)(hn:n<1000000)(hsz:0<sz)(hb:bytes<=100000)
 (hx:ev h e x=some v)(hy:ev h e y=some u)(hs:dn h sz u=some (c1,1))(hl1:c1.length=sz)(h1:dY c1=true)
 (hK:∀h',Own h.next h' sz (.slice (some ⟨h.next,0,none⟩) (n+1) UNK) (n+1) (cs++c1)->h'.next=h.next+1->(∀z∈h'.log,lo<=z∨z∈h.log)->(WF h->WF h')->(∀z,z<h.next->(∀m c,v≠ .slice (some ⟨z,0,none⟩) m c)->h'.get z=h.get z)->WO T base rnd Q os (cC e dst (.slice (some ⟨h.next,0,none⟩) (n+1) UNK)) ds h'):
 WO T base rnd Q (⟨dst, .append sz bytes x y,none⟩::os) e ds h:=by
 have hbd:(2*(n+1)+768)*bytes<=281474976710656:=by
  have:(2*(n+1)+768)*bytes<=2000768*100000:=Nat.mul_le_mul (by omega) hb;omega
 cases s with
 |nil=>
  refine aD (mS (n:=1) hx hy hs (by omega) (by simpa using hbd) rfl) ?_;exact hK _ (Own.full (lo:=h.next) (h:=h.push (.cells c1 true sz)) (sz:=sz) (q:=h.next) (n:=1) (cs:=c1) (Nat.le_refl _) (Nat.lt_succ_self _) (z3 _ _) (by omega) (by omega)) rfl (λz hz=> .inr hz) (λw=>w.push _) (λz hz _=>z4 hz)
 | @full q _ _ q1 q2 q3 q4 q5=>
   refine aD (jO (n:=1) (vs:=cs) (ws:=cs++c1) hx hy hs (by omega) q3 q4 hsz h1 hbd (dH _ _)) ?_;exact hK _ (.full (Nat.le_refl _) (Nat.lt_succ_self _) (z3 _ _) (by rw[List.length_append,q4,hl1,Nat.add_mul,Nat.one_mul]) (by omega)) rfl (λz hz=>by
    rcases dw (b:=q) (o:= .dead) hz with rfl|hz
    ·exact .inl q1
    ·exact .inr hz) (λw=>(w.as (AS.wr base _ q .dead)).push _) (λz hz hne=>(z4 (by exact hz)).trans (z5 (λe=>hne n UNK (by subst e;rfl))))
section
open I
def y9:aR:=I.R [g 8 (.new (aK 8 (.int .u64 0))),S 8 8 16] [6,8]
def zb:aR:= .block 1 (I.R [L 17 6,N 18 8 8,g 19 (.dz (aK 8 (.int .u64 0)) 1 [(0,8,(t 18))]),g 20 (.append 8 64 (t 17) (t 19)),S 1 6 20] [])
end
theorem DB(hp:aF T){H:Heap}(hr:Rdy H){q l lo lo2:Nat}{fv v:Value}{ss:List (List Nat)}{f:Fi}(hfs:IsS f.s)(hm:ss.length<1000000)(hlo:lo<=q)
 (gl:H.get l=some (.loop [(6, .pointer (some ⟨q,0,none⟩)),(14,fv)] [15,16] y9 zb 0 .normal))
 (go:H.get q=some (.cells [v] true 1))(own:Own lo2 H 8 v ss.length (ssL ss))(hlo2:lo<=lo2)(hq2:q<lo2)(hl2:l<lo2)(h2n:lo2<=H.next):
 FW T (.yield l) (fiV f) H λr H'=>r= .ret (.bool true)/\(∀z∈H'.log,lo<=z)/\q∈H'.log/\∃p,H'.get q=some (.cells [.slice (some ⟨p,0,none⟩) (ss.length+1) UNK] true 1)/\H.next<=p/\Own lo2 H' 8 (.slice (some ⟨p,0,none⟩) (ss.length+1) UNK) (ss++[f.s]).length (ssL (ss++[f.s]))/\(∀z,z<H.next->z≠q->(∀m c,v≠ .slice (some ⟨z,0,none⟩) m c)->H'.get z=H.get z)/\WF H'∧H.next<=H'.next/\p<H'.next:=by
 have no:q≠l:=λe=>by subst e;rw[go]at gl;cases gl
 have ko:=hr.wf.bK go;have kl:=hr.wf.bK gl;have hvl:∀m c,v≠ .slice (some ⟨l,0,none⟩) m c:=λm c e=>by
  rw[e]at own;generalize hn:ss.length=n at own;generalize ssL ss=cs at own;cases own with
  |full h1=>omega
 have hvq:∀m c,v≠ .slice (some ⟨q,0,none⟩) m c:=λm c e=>by
  rw[e]at own;generalize hn:ss.length=n at own;generalize ssL ss=cs at own;cases own with
  |full h1=>omega
 refine FW.FA hp (q:=q) (R:=λH'=>∃p,H'.get q=some (.cells [.slice (some ⟨p,0,none⟩) (ss.length+1) UNK] true 1)/\H.next<=p/\Own lo2 H' 8 (.slice (some ⟨p,0,none⟩) (ss.length+1) UNK) (ss++[f.s]).length (ssL (ss++[f.s]))/\(∀z,z<H.next->z≠q->(∀m c,v≠ .slice (some ⟨z,0,none⟩) m c)->H'.get z=H.get z)/\WF H'∧H.next<=H'.next/\p<H'.next) gl rfl kl ko no ?_;have k8:=bA hfs.len;have k9:=bV hfs.len;have kln:=hfs.len;unfold y9;refine Y2 ?_;refine aD (bZ (by exact rfl) (by exact rfl) YG (by(simp only[aH];assumption)) (by exact rfl) (by exact dB _)) ?_;refine bL ?_;refine y1 ?_;refine⟨rfl,YG,?_⟩;unfold zb;refine kG ?_;refine WE.uM ?_;intro hA hAe;have A1:∀z,z<H.next->z≠l->H.get z=hA.get z:=λz hz hne=>by rw[hAe];symm;simp(disch:=first|omega|(simp only[z1,z2];omega))only[z5,z4]
 have A3:hA.get H.next=some (.cells (us f.s) true 1):=by rw[hAe];(simp(disch:=first|omega|(simp only[z1,z2];omega))only[z3,z4,z5,z6,z7,z1,z2,gl,go];done)
 have A2:hA.get l=some (.loop [(6, .pointer (some ⟨q,0,none⟩)),(14,fv)] [15,16] y9 zb 1 .normal):=by rw[hAe];(simp(disch:=first|omega|(simp only[z1,z2];omega))only[z3,z4,z5,z6,z7,z1,z2,gl,go,A3];exact rfl)
 have A5:hA.next=H.next+1:=by rw[hAe];rfl
 have A6:hA.log=[]:=by rw[hAe];simp(disch:=first|omega|(simp only[z1,z2];omega))only[Heap.aB,Heap.sj];exact hr.log
 have A7:WF hA:=by rw[hAe];exact(((hr.wf.push _).as (AS.wr _ _ _ _)).as (AS.wr _ _ _ _))
 clear hAe;have Bo:=(A1 q ko no).symm.trans go;have hsl:ssL [f.s]=us f.s:=by simp[ssL]
 have ownA:Own lo2 hA 8 v ss.length (ssL ss):=own.keep (by omega) λz hz hz2=>(A1 z hz2 (by omega)).symm;clear go;refine Y3 ?_;refine aD (mT (Of hfs (by exact rfl)) (show cm (aK 8 (Value.int IntKind.u64 0))=8 from rfl)) ?_;refine Nq (lo:=lo2) (c1:=us f.s) (ownA.ext ((Ext.refl hA).push _)) hm (by omega) (by omega) (by exact rfl) (by exact rfl) (iN (cs:=us f.s) YG k9 (by rw[aH,hfs.len])) (by rw[aH,hfs.len]) (dB _) ?_;intro h3 own3 n3 l3 w3 o3;have own3:Own (H.next+2) h3 8 (.slice (some ⟨H.next+2,0,none⟩) (ss.length+1) UNK) (ss.length+1) (ssL ss++us f.s):=by
  have e:(hA.push (.cells (us f.s) true 8)).next=H.next+2:=by show hA.next+1=_;omega
  rw[←e];exact own3
 have n3:h3.next=H.next+3:=by rw[n3];show hA.next+1+1=_;omega
 have l3:∀z∈h3.log,lo2<=z:=λz hz=>(l3 z hz).elim id λe=>by
  have e:z∈hA.log:=e;rw[A6]at e;cases e
 have o3:∀z,z<H.next+1->(∀m c,v≠ .slice (some ⟨z,0,none⟩) m c)->h3.get z=hA.get z:=λz hz hne=>(o3 z (by show z<hA.next+1;omega) hne).trans (z4 (by omega))
 have W3:WF h3:=w3 (A7.push _);have e5:∀o,(hA.push o).next=H.next+2:=λo=>by show hA.next+1=_;omega
 rw[e5];have Co:=(o3 q (by omega) hvq).trans Bo;have Cl:=(o3 l (by omega) hvl).trans A2;have hce:ssL (ss++[f.s])=ssL ss++us f.s:=by rw[vn,hsl]
 have hcl:(ss++[f.s]).length=ss.length+1:=by simp
 clear Bo A3 A2;refine yS ?_;refine bL ?_;refine Y2 ?_;refine⟨rfl,⟨_,YG,rfl⟩,λz hz=> ?_,lZ (by omega),⟨_,_,_,Heap.aI Co,rfl⟩,H.next+2,(z5 no).trans (Heap.aI Co),by omega,?_,λz hz h1 h2=> ?_,?_,?_,?_⟩
 ·rcases dw hz with rfl|hz
  ·exact hlo
  ·exact Nat.le_trans hlo2 (l3 z hz)
 ·rw[hce,hcl];exact Own.low (lo:=H.next+2) (Own.keep own3 (Nat.le_refl _) λz hz _=>(z5 (by omega)).trans (z5 (by omega))) (by omega)
 ·by_cases hl:z=l
  ·subst hl;rw[gl];exact Heap.aI ((z5 (Ne.symm no)).trans Cl)
  ·exact(z5 hl).trans ((z5 h1).trans ((o3 z (by omega) h2).trans (A1 z (by omega) hl).symm))
 ·exact(W3.as (AS.wr _ _ _ _)).as (AS.wr _ _ _ _)
 ·show H.next<=h3.next
  omega
 ·show H.next+2<h3.next
  omega
theorem AE{a b:List Nat}{f:Fi}(h:f∈gY a b):IsS f.s/\∃t x y z,f.s=kJ (fI b t) (dS (fI b t)).1 x y z:=by
 unfold gY at h;split at h
 ·cases h
 ·obtain⟨t,_,h⟩:=List.mem_flatMap.1 h;unfold oT Hg wo tD uQ at h;obtain⟨z,_,h⟩:=List.mem_flatMap.1 h;obtain⟨y,_,h⟩:=List.mem_flatMap.1 h;obtain⟨x,_,h⟩:=List.mem_flatMap.1 h;split at h
  ·rw[List.mem_singleton.1 h];exact⟨ng (sV b t) _ _ _ _,t,x,y,z,rfl⟩
  ·cases h
structure PPl (l q:Nat) (H0:Heap) (L:bG) (done:List Fi) (H:Heap):Prop where
 old:∀z,z<l->z≠q->H.get z=H0.get z
 loop:H.get l=some L
 nx:l<H.next
 val:∃v,H.get q=some (.cells [v] true 1)/\Own (l+1) H 8 v (done.map (·.s)).length (ssL (done.map (·.s)))
 few:done.length<=100000
def wPl(q:Nat)(H:Heap)(z:Nat):Prop:=z=q∨∃m c,H.get q=some (.cells [.slice (some ⟨z,0,none⟩) m c] true 1)
theorem PPl.eO{l q:Nat}{H0:Heap}{L:bG}(hq:q<l)(done:List Fi)(H H':Heap)(p:PPl l q H0 L done H)(hn:H.next<=H'.next)(h:∀x,x<H.next->H'.get x=H.get x):PPl l q H0 L done H':=by
 obtain⟨p1,p2,p3,⟨v,p4,p5⟩,p6⟩:=p;exact⟨λz hz hne=>(h z (by omega)).trans (p1 z hz hne),(h l p3).trans p2,by omega,⟨v,(h q (by omega)).trans p4,p5.keep hn λz _ hz=>h z hz⟩,p6⟩
theorem EU{lo sz n:Nat}{h:Heap}{p m c:Nat}{cs:List Value}(s:Own lo h sz (.slice (some ⟨p,0,none⟩) m c) n cs):lo<=p/\p<h.next:=by
 cases s with
 |full h1 h2=>exact⟨h1,h2⟩
theorem F8(hf:T 57=some (.kT (pK 30 82))){k:Nat}(hk:k=30∨k=82){lo:Nat}{h:Heap}{v:Value}{l:List (List Nat)}(s:OwS lo h v l)(hok:∀x∈l,IsS x)(hl:l.length<1000000):
 Gs T 57 [v, .func (.func k) #[] #[]] h (vB v) (λ_ h'=>OwS lo h' v (eU l)):=by
 have hlen:=jV l;have e0:Hj 30 82 (.func (.func k) #[] #[])=true:=by
  rcases hk with rfl|rfl<;>rfl
 rcases s with⟨rfl,rfl⟩|⟨b,c,tl,h1,h2,h3,rfl,h4,h5⟩
 ·have e:eU []=[]:=List.length_eq_zero_iff.1 hlen;rw[e];refine⟨.ret (.tuple #[]),h,⟨1,λn hn=> ?_⟩,⟨Nat.le_refl _,λz hz=> .inl hz,λ_ _ _=>rfl,id⟩, .tuple #[],rfl, .inl ⟨rfl,rfl⟩⟩;obtain⟨k',rfl⟩:∃k,n=k+1:=⟨n-1,by omega⟩;simp only[iU,hf,pK,e0,cond_true]
 ·have e2:(Hj 30 82 (.func (.func k) #[] #[])&&(Nat.beq 0 0&&Nat.blt l.length 1000000))=true:=by rw[e0,fS hl];rfl
  have e3:=DP (t:=tl) hok;have e4:bU (l.length*8) (ssL l++tl)=tl:=by rw[aT,←fM hok,List.drop_left]
  refine⟨.ret (.tuple #[]),h.wr h.next b (.cells (ssL (eU l)++tl) true 8),⟨1,λn hn=> ?_⟩,?_, .tuple #[],rfl, .inr ⟨b,c,tl,h1,h2,?_,by rw[hlen],by omega,λq=>h5 λq2=>q (by rw[q2];exact List.length_eq_zero_iff.1 (jV []))⟩⟩
  ·obtain⟨k',rfl⟩:∃k,n=k+1:=⟨n-1,by omega⟩;simp only[iU,hf,pK,h3,e2,cond_true,e3,e4]
  ·refine⟨Nat.le_refl _,λz hz=> ?_,λz hz hnz=> ?_,λw=>w.as (AS.wr h.next _ _ _)⟩
   ·rcases dw hz with rfl|hz
    ·exact .inr ⟨_,_,rfl⟩
    ·exact .inl hz
   ·exact z5 (λe=>hnz (by rw[e];exact⟨_,_,rfl⟩))
  ·show(h.wr h.next b (.cells (ssL (eU l)++tl) true 8)).get b=_;rw[z6,h3];rfl
structure FC (T:Nat->Option an):Prop where
 fi:Qu T
 f72:T 10=some f72
 f167:T 29=some f167
 f189:T 57=some (.kT (pK 30 82))
 f192:T 58=some f192
theorem It(F:FC T){h:Heap}(hr:Rdy h){lo:Nat}(hlo:h.next≥lo){v:Value}{l:List (List Nat)}(s:OwS lo h v l)(hok:∀x∈l,IsS x)(hl:l.length<1000000):
 Gs T 29 [v, .func (.func 30) #[] #[]] h (vB v) (λv h'=>OwS lo h' v (ddS (eU l))):=by
 have hp:=F.fi.ft.li.p;refine .of hp F.f167 (λv h1 h2 hv hn2 hag hq=>OwS.flat hv hq) ?_;have C1:=F8 F.f189 (.inl rfl) (h:={h with log:=[]}) (s.log []) hok hl;refine Y7 ?_;refine FW.gs C1 (λv h' m q=>q.log m) ?_;rintro _ H1 x1 q1;clear C1;have hok2:∀x∈eU l,IsS x:=λx hx=>hok x (iM.1 hx);have C2:=vS hp F.f192 (h:={H1 with log:=[]}) (.of (x1.wf hr.wf)) (q1.log []) hok2 (by rw[jV];exact hl);refine Y4 ?_;refine FW.gs C2 (λv h' m q=>q.log m) ?_;rintro v2 H2 x2 q2;clear C2;have lg1:∀z∈H1.log,vB v z:=λz hz=>(x1.log z hz).elim (λq=>by rw[hr.log]at q;cases q) id;have lg2:∀z∈H2.log,vB v z:=λz hz=>(x2.log z hz).elim (λq=>lg1 z q) id;refine Y3 ?_;exact gX lg2 rfl q2
def nw(a b:List Nat):List (List Nat):=if b=s0 then []else ddS (eU ((gY a b).map (·.s)))
theorem Ba{a b s:List Nat}(h:s∈nw a b):IsS s:=by
 unfold nw at h;split at h
 ·cases h
 ·obtain⟨f,hf,rfl⟩:=List.mem_map.1 (iM.1 (qe h));exact(AE hf).1
theorem Qr(lo:Int)(n:Nat):(zrN lo n).length=n:=by unfold zrN;simp
theorem rW{α β:Type}{f:α->List β}{k:Nat}:∀{l:List α},(∀x∈l,(f x).length<=k)->(l.flatMap f).length<=l.length*k
 |[],_=>by simp
 |x::l,h=>by
  have h1:=h x List.mem_cons_self;have h2:=rW λy hy=>h y (List.mem_cons_of_mem x hy);rw[List.flatMap_cons,List.length_append,List.length_cons,Nat.add_mul];omega
theorem zm(a b:List Nat):(gY a b).length<=98304:=by
 have hz:∀{lo hi:Int}, -7<=lo->hi<=7->(zr lo hi).length<=16:=λ{lo hi} h1 h2=>by
  unfold zr;rw[Qr];omega
 have ra:=nN a;unfold gY;split
 ·simp
 ·refine Nat.le_trans (rW (k:=4096) λt _=> ?_) (by simp);have bp:=nN (fI b t);obtain⟨⟨⟨r1,r2⟩,⟨r3,r4⟩,⟨r5,r6⟩⟩,⟨⟨r7,r8⟩,⟨r9,r10⟩,⟨r11,r12⟩⟩⟩:=ra;obtain⟨⟨⟨b1,b2⟩,⟨b3,b4⟩,⟨b5,b6⟩⟩,⟨⟨b7,b8⟩,⟨b9,b10⟩,⟨b11,b12⟩⟩⟩:=bp;unfold oT Hg;refine Nat.le_trans (rW (k:=256) λz _=> ?_) (by have:=hz (lo:=(dS a).1.lo.z-(dS (fI b t)).1.lo.z) (hi:=(dS a).1.hi.z-(dS (fI b t)).1.hi.z) (by omega) (by omega);omega);unfold wo;refine Nat.le_trans (rW (k:=16) λy _=> ?_) (by have:=hz (lo:=(dS a).1.lo.y-(dS (fI b t)).1.lo.y) (hi:=(dS a).1.hi.y-(dS (fI b t)).1.hi.y) (by omega) (by omega);omega);unfold tD;refine Nat.le_trans (rW (k:=1) λx _=> ?_) (by have:=hz (lo:=(dS a).1.lo.x-(dS (fI b t)).1.lo.x) (hi:=(dS a).1.hi.x-(dS (fI b t)).1.hi.x) (by omega) (by omega);omega);unfold uQ;split<;>simp
theorem xq(a b:List Nat):(nw a b).length<=98304:=by
 unfold nw;split
 ·simp
 ·refine Nat.le_trans (Av _) ?_;rw[jV,List.length_map];exact zm a b
def Ib(b:List Nat):Int:=if b=s0 then 1 else 0
theorem DC(F:FC T){h:Heap}(hr:Rdy h)(hg:Tab h)(h2:0<h.next){a b:List Nat}(ha:IsS a)(hb:IsS b):
 Al T 10 [sv a,sv b] h λv h'=>∃u,v= .tuple #[u, .int .i64 (Ib b)]/\OwS h.next h' u (nw a b):=by
 have hp:=F.fi.ft.li.p;refine .of hp F.f72 hr ?_ ?_
 ·rintro v h1 hv ⟨u,rfl,q⟩;have hu:cG u=true:=by
   have e:cG (.tuple #[u, .int .i64 (Ib b)])=iD [u, .int .i64 (Ib b)]:=rfl;rw[e]at hv;simp only[iD,cond_eq_ite,Bool.if_false_right,Bool.and_eq_true]at hv;have hf:flat u=true:=of_decide_eq_true hv.1;unfold cG;split
   ·rename_i cs;rcases q with⟨h1,_⟩|⟨_,_,_,_,_,_,h1,_⟩<;>cases h1
   ·exact hf
  exact⟨u,rfl,OwS.flat hu q⟩
 have ka8:=bA ha.len;have ka9:=bV ha.len;have kb8:=bA hb.len;have kb9:=bV hb.len;have x0:Ext h ((h.push (.cells (cellsOf (sv a)) true 1)).push (.cells (cellsOf (sv b)) true 1)):=((Ext.refl h).push _).push _;have gA:((h.push (.cells (cellsOf (sv a)) true 1)).push (.cells (cellsOf (sv b)) true 1)).get h.next=some (.cells (us a) true 1):=YG
 have gB:((h.push (.cells (cellsOf (sv a)) true 1)).push (.cells (cellsOf (sv b)) true 1)).get (h.next+1)=some (.cells (us b) true 1):=YG;have n0:((h.push (.cells (cellsOf (sv a)) true 1)).push (.cells (cellsOf (sv b)) true 1)).next=h.next+2:=rfl
 refine Y6 ?_;generalize((h.push (.cells (cellsOf (sv a)) true 1)).push (.cells (cellsOf (sv b)) true 1))=H at*;have W:=x0.wf hr.wf;have hL:=x0.log.trans hr.log;have hfl:=zm a b;unfold nw Ib;by_cases he:b=s0
 ·rw[if_pos he,if_pos he];refine Y4 ?_;refine aD (oD (b:=s0) (by exact rfl) (by exact rfl) hb.len rfl) ?_;rw[decide_eq_true he];refine Y8 ?_;exact cF hL rfl ⟨_,rfl, .inl ⟨rfl,rfl⟩⟩
 rw[if_neg he,if_neg he];refine Y4 ?_;refine aD (oD (b:=s0) (by exact rfl) (by exact rfl) hb.len rfl) ?_;rw[decide_eq_false he];have x1:Ext H (H.push (.cells [.slice none 0 0] true 1)):=(Ext.refl H).push _;have q6:(H.push (.cells [.slice none 0 0] true 1)).get H.next=some (.cells [.slice none 0 0] true 1):=z3 _ _
 have n1:(H.push (.cells [.slice none 0 0] true 1)).next=H.next+1:=rfl
 refine Y7 ?_;generalize(H.push (.cells [.slice none 0 0] true 1))=H1 at*;have ey1':=x0.trans x1;have W1:=ey1'.wf hr.wf;have hL1:=ey1'.log.trans hr.log;have gA1:=(x1.old _ (by omega)).trans gA;have gB1:=(x1.old _ (by omega)).trans gB;have C:=Oi F.fi (h:={H1 with log:=[]}) (.of W1) ha hb;clear gA gB;refine Y5 ?_;refine FW.al C (λv h' m q=>q) ?_;rintro _ H2 x2 ⟨qa,qb,rfl,ga,gb,kqa,kqb,na,nb⟩;clear C;have na:H1.next<=qa:=na
 have nb:H1.next<=qb:=nb
 have ey2':=ey1'.trans x2;have W2:=ey2'.wf hr.wf;have hL2:=ey2'.log.trans hr.log;have n2:=x2.next
 have p6:=(x2.old _ (by omega)).trans q6;have hg2:Tab H2:=hg.ext ey2' h2;clear gA1 gB1 q6;refine Y2 ?_;refine Ac (lo:=H.next) (P:=PPl H2.next H.next H2 (.loop [(6, .pointer (some ⟨H.next,0,none⟩)),(14,fnF qa qb)] [15,16] y9 zb 0 .normal) (gY a b)) rfl (by rfl) (by rw[F.fi.ft.f209];rfl) (by omega) (by omega) hL2 W2 ?_ (λH p=>⟨_,_,_,_,p.loop⟩) ?_
 ·have Y:GP T H.next (H2.next+1) H2.next H.next fiV (gY a b) (PPl H2.next H.next H2 (.loop [(6, .pointer (some ⟨H.next,0,none⟩)),(14,fnF qa qb)] [15,16] y9 zb 0 .normal)) (wPl H.next):=by
   refine⟨by omega,λdone f Hh hx hlen hrH hN hP=> ?_,PPl.eO (by omega),λdone H' H'' p hn hs z hz=> ?_,λdone H' z p hz=> ?_⟩
   ·obtain⟨p1,p2,p3,⟨v,p4,p5⟩,p6⟩:=hP;refine FW.mono' (DB hp hrH (lo:=H.next) (lo2:=H2.next+1) (ss:=done.map (·.s)) (AE hx).1 (by rw[List.length_map];omega) (Nat.le_refl _) p2 p4 p5 (by omega) (by omega) (by omega) hN) ?_;rintro r' H' ⟨r1,r2,r3,p,r4,r5,r6,r7,r8,r9,r10⟩;have hvl:∀z,z<H2.next+1->∀m c,v≠ .slice (some ⟨z,0,none⟩) m c:=λz hz m c e=>by
     rw[e]at p5;have:=(EU p5).1;omega
    refine⟨r1,r2,r3,⟨_,_,_,r4,rfl⟩,⟨λz hz hne=>(r7 z (by omega) hne (hvl z (by omega))).trans (p1 z hz hne),(r7 _ (by omega) (by omega) (hvl _ (by omega))).trans p2,by omega,⟨_,r4,by rw[List.map_append];exact r6⟩,by rw[List.length_append];show done.length+1<=_;omega⟩,λz hz hn=>r7 z hz (λe=>hn (.inl e)) λm c e=>hn (.inr ⟨m,c,by rw[←e];exact p4⟩),λz hz=> ?_⟩;rcases hz with rfl|⟨m,c,hz⟩
    ·exact .inl (.inl rfl)
    ·rw[r4]at hz;cases hz;exact .inr r5
   ·obtain⟨p1,p2,p3,⟨v,p4,p5⟩,p6⟩:=p;rcases hz with rfl|⟨m,c,hz⟩
    ·exact .inl rfl
    ·exact .inr ⟨m,c,by rw[←hs _ (by omega)];exact hz⟩
   ·obtain⟨p1,p2,p3,⟨v,p4,p5⟩,p6⟩:=p;rcases hz with rfl|⟨m,c,hz⟩
    ·omega
    ·rw[p4]at hz;cases hz;exact(EU p5).2
  exact JY F.fi.ft (.of (W2.push (.loop [(6, .pointer (some ⟨H.next,0,none⟩)),(14,fnF qa qb)] [15,16] y9 zb 0 .normal))) (qa:=qa) (qb:=qb) (l:=H2.next) (N:=H2.next+1) (lo:=H.next) ha hb (Nat.le_refl _) (by show H.next<=H2.next+1;omega) (by omega) Y (λd H' hP=>(hP.old _ kqa (by omega)).trans ga) (λd H' hP=>(hP.old _ kqb (by omega)).trans gb) (λd H' hP=>(hP.old 0 (by omega) (by omega)).trans hg2)
   ⟨λz hz _=>z4 (by omega),z3 _ _,Nat.lt_succ_self _,⟨_,(z4 (by omega)).trans p6, .nil⟩,Nat.zero_le _⟩
 intro h4 h5 k1 k2 k3 k4 k5 k6 hP;obtain⟨p1,p2,p3,⟨v,p4,p5⟩,p7⟩:=hP;have D:=(k5 H.next (by omega)).trans p4;have ow:=p5.keep (h':=h5) (by omega) λz hz _=>k5 z (by omega);have hok:∀x∈(gY a b).map (·.s),IsS x:=λx hx=>by
  obtain⟨f,hf,rfl⟩:=List.mem_map.1 hx;exact(AE hf).1
 have hlen:((gY a b).map (·.s)).length<1000000:=by rw[List.length_map];omega
 generalize(gY a b).map (·.s)=l at*;have os:=Pk.Own.owS ow (by omega);have C:=It F (h:={h5 with log:=[]}) (.of k2) (lo:=H2.next+1) (by show H2.next+1<=h5.next;omega) (os.log []) hok hlen;clear p4 p1 p2;refine Y5 ?_;refine FW.gs0 C (λv h' m q=>q.log m) (λz hz=>by have:=(os.vb hz).1;omega) ?_;rintro v6 H6 n6 l6 o6 w6 s6;clear C;refine Y4 ?_;exact cF (l6.trans k1) rfl ⟨_,rfl,s6.low (by omega)⟩
structure B0 (T:Nat->Option an):Prop where
 pl:FC T
 f35:T 8=some f35
 f92:T 65=some f92
 f121:T 26=some f121
 f124:T 25=some f124
 f193:T 83=some f193
 f194:T 84=some f194
 f195:T 85=some f195
 f196:T 63=some f196
 f197:T 86=some f197
 f257:T 79=some f257
def wR(r:List (List Nat))(x:List Nat):Bool:=r.any λy=> !decide (y=x)&&sIn y x
def qz(w:List Nat×List Nat)(o:List Nat):List (List Nat):=ddS (eU ((nw w.2 o).map λp=>fH p w.1))
def bQ(w:List Nat×List Nat)(o:List Nat):List (List Nat):=(qz w o).filter λx=> !wR (qz w o) x
theorem wT{w:List Nat×List Nat}(hw:IsW w){o s:List Nat}(h:s∈qz w o):IsS s:=by
 obtain⟨p,hp,rfl⟩:=List.mem_map.1 (iM.1 (qe h));exact(Ba hp).less hw.a
theorem zD(w:List Nat×List Nat)(o:List Nat):(qz w o).length<=98304:=by
 refine Nat.le_trans (Av _) ?_;rw[jV,List.length_map];exact xq _ _
theorem LV(F:B0 T){h:Heap}(hr:Rdy h){q:Nat}{x y:List Nat}(hx:IsS x)(hy:IsS y)(g:h.get q=some (.cells (us x) true 1)):Pu T 86 [sv y, .pointer (some ⟨q,0,none⟩)] h (.bool (!decide (y=x)&&sIn y x)):=by
 have hp:=F.pl.fi.ft.li.p;refine .of hp F.f197 hr rfl ?_;have kq:=hr.wf.bK g;have kx8:=bA hx.len;have kx9:=bV hx.len;have ky8:=bA hy.len;have ky9:=bV hy.len;have x0:Ext h (h.push (.cells (cellsOf (sv y)) true 1)):=(Ext.refl h).push _;have g0:(h.push (.cells (cellsOf (sv y)) true 1)).get h.next=some (.cells (us y) true 1):=YG
 have n0:(h.push (.cells (cellsOf (sv y)) true 1)).next=h.next+1:=rfl
 refine Y4 ?_;generalize(h.push (.cells (cellsOf (sv y)) true 1))=H at*;have W:=x0.wf hr.wf;have hL:=x0.log.trans hr.log;have gx:=(x0.old _ kq).trans g;have C:=CU hp F.f35 F.f121 (h:={H with log:=[]}) (.of W) hy hx;by_cases he:y=x
 ·rw[decide_eq_true he];refine Y3 ?_;refine aD (oD (b:=x) (by exact rfl) (by exact rfl) hy.len hx.len) ?_;rw[decide_eq_true he];refine Y8 ?_;exact aA hL rfl rfl
 ·rw[decide_eq_false he];refine Y3 ?_;refine aD (oD (b:=x) (by exact rfl) (by exact rfl) hy.len hx.len) ?_;rw[decide_eq_false he];refine Y7 ?_;refine FW.pu C ?_;clear C;refine Y4 ?_;exact aA hL rfl rfl
theorem OJ(F:B0 T){h:Heap}(hr:Rdy h){q:Nat}{v:Value}{r:List (List Nat)}(s:SsQ h v r)(hn:r.length<1000000){x:List Nat}(hx:IsS x)(g:h.get q=some (.cells [v] true 1)):Pu T 85 [sv x, .pointer (some ⟨q,0,none⟩)] h (.bool (wR r x)):=by
 have hp:=F.pl.fi.ft.li.p;refine .of hp F.f195 hr rfl ?_;have kq:=hr.wf.bK g;have x0:Ext h (h.push (.cells (cellsOf (sv x)) true 1)):=(Ext.refl h).push _;have g0:(h.push (.cells (cellsOf (sv x)) true 1)).get h.next=some (.cells (us x) true 1):=YG
 have n0:(h.push (.cells (cellsOf (sv x)) true 1)).next=h.next+1:=rfl
 refine Y4 ?_;generalize(h.push (.cells (cellsOf (sv x)) true 1))=H at*;have W:=x0.wf hr.wf;have hL:=x0.log.trans hr.log;have gx:=(x0.old _ kq).trans g;obtain⟨a,c,rfl⟩:=s.sl.form;have C:=ur hp F.f196 F.f257 (h:={H with log:=[]}) (.of W) ((s.ext x0).log []) hn (g:=86) (cap:=[.pointer (some ⟨h.next,0,none⟩)]) (λy=> !decide (y=x)&&sIn y x) λy hy=>LV F (h:={H with log:=[]}) (.of W) hx (s.ok y hy) g0;unfold wR;refine Y4 ?_;refine FW.pu C ?_;clear C;refine Y3 ?_;exact aA hL rfl rfl
theorem yH{l:List (List Nat)}{i:Nat}{x:List Nat}(f:List Nat->List Nat)(hi:l[i]? =some x):((l.take i).map f++l.drop i).set i (f x)=(l.take (i+1)).map f++l.drop (i+1):=by
 obtain⟨hlt,hx⟩:=List.getElem?_eq_some_iff.1 hi;have hl:((l.take i).map f).length=i:=by rw[List.length_map,List.length_take];omega
 rw[List.drop_eq_getElem_cons hlt,List.set_append_right _ _ (Nat.le_of_eq hl),hl,Nat.sub_self,List.set_cons_zero,fQ hi,List.map_append,List.append_assoc];rfl
theorem Dg{l:List (List Nat)}{i:Nat}{x:List Nat}(f:List Nat->List Nat)(hi:l[i]? =some x):((l.take i).map f++l.drop i)[i]? =some x:=by
 have hlt:=(List.getElem?_eq_some_iff.1 hi).1;rw[List.getElem?_append_right (by simp;omega),List.getElem?_drop,List.length_map,List.length_take,Nat.min_eq_left (by omega),Nat.sub_self,Nat.add_zero,hi]
theorem OwS.wr{lo base p:Nat}{h:Heap}{v:Value}{l:List (List Nat)}{ob:bG}(q:OwS lo h v l)(hz:∀z,vB v z->z≠p):OwS lo (h.wr base p ob) v l:=by
 rcases q with q|⟨b,c,t,h1,h2,h3,rfl,h4⟩
 ·exact .inl q
 ·exact .inr ⟨b,c,t,h1,h2,(z5 (hz b ⟨_,_,rfl⟩)).trans h3,rfl,h4⟩
theorem OwS.ne{lo p:Nat}{h:Heap}{v:Value}{l:List (List Nat)}{vs:List Value}{own:Bool}(q:OwS lo h v l)(g:h.get p=some (.cells vs own 1)):∀z,vB v z->z≠p:=by
 rintro z ⟨m,c,hv⟩ rfl;rcases q with⟨rfl,_⟩|⟨b,c',t,h1,h2,h3,rfl,h4⟩
 ·cases hv
 ·cases hv;rw[g]at h3;cases h3
theorem OM(F:B0 T){h:Heap}(hr:Rdy h)(hg:Tab h)(h2:0<h.next){w:List Nat×List Nat}(hw:IsW w){o:List Nat}(ho:IsS o):Al T 65 [wV w,sv o] h λv h'=>OwS h.next h' v (bQ w o):=by
 have hp:=F.pl.fi.ft.li.p;refine .of hp F.f92 hr (λv h1 hv q=>OwS.flat hv q) ?_;have hwc:cellsOf (wV w)=wL w:=by show(wL w).toArray.toList=_;simp
 have g0:((h.push (.cells (cellsOf (wV w)) true 1)).push (.cells (cellsOf (sv o)) true 1)).get h.next=some (.cells (wL w) true 1):=by rw[hwc];exact(z4 (Nat.lt_succ_self _)).trans (z3 h _)
 have g1:((h.push (.cells (cellsOf (wV w)) true 1)).push (.cells (cellsOf (sv o)) true 1)).get (h.next+1)=some (.cells (us o) true 1):=z3 _ _;have n0:((h.push (.cells (cellsOf (wV w)) true 1)).push (.cells (cellsOf (sv o)) true 1)).next=h.next+2:=rfl
 have x0:Ext h ((h.push (.cells (cellsOf (wV w)) true 1)).push (.cells (cellsOf (sv o)) true 1)):=((Ext.refl h).push _).push _;refine Y5 ?_;generalize((h.push (.cells (cellsOf (wV w)) true 1)).push (.cells (cellsOf (sv o)) true 1))=H at*;have W:=x0.wf hr.wf;have hL:=x0.log.trans hr.log;have wk:=lY hw;have wkl:=jh hw;have wa:=No hw;have wb:=Np hw;have wka:=bA hw.a.len;have wkb:=bA hw.b.len;have k8:=bA ho.len;have k9:=bV ho.len;have C1:=DC F.pl (h:={H with log:=[]}) (.of W) (show Tab H from hg.ext x0 h2) (by show 0<H.next;omega) hw.b ho;have hok0:∀x∈nw w.2 o,IsS x:=λx hx=>Ba hx;have hlen0:=xq w.2 o;have hA:qz w o=ddS (eU ((nw w.2 o).map λp=>fH p w.1)):=rfl;have hAl:=zD w o;have hAok:∀x∈qz w o,IsS x:=λx hx=>wT hw hx;unfold bQ;generalize qz w o=r at*;generalize nw w.2 o=l at*;refine Y5 ?_;refine FW.al C1 (λv h' m q=>q) ?_;rintro _ H1 x1 ⟨u,rfl,q1⟩;have q1:OwS H.next H1 u l:=q1
 clear C1;have ey1:=x0.trans x1;have n1:=x1.next
 have g01:=(x1.old _ (by omega)).trans g0;have x2:=ff (h:=H1) (base:=h.next) (by omega) (.cells [.slice none 0 0] true 1) (.cells [u] true 1);have g5:=fO (h:=H1) (base:=h.next) [.slice none 0 0] [u];have n2:((H1.push (.cells [.slice none 0 0] true 1)).wr h.next H1.next (.cells [u] true 1)).next=H1.next+1:=rfl
 obtain⟨a,c,rfl⟩:=q1.form;clear g0 g1;refine Y7 ?_;refine WE.uM ?_;intro H2 hH2;have e2:H2=((H1.push (.cells [.slice none 0 0] true 1)).wr h.next H1.next (.cells [.slice a l.length c] true 1)):=hH2;rw[←e2]at x2 g5 n2;clear hH2 e2;have ey2:=ey1.trans x2;have W2:=ey2.wf hr.wf;have hL2:=ey2.log.trans hr.log;have g02:=(x2.old _ (by omega)).trans g01;have q2:=q1.ext x2;refine cW (E0:=[(2, .pointer (some ⟨h.next,0,none⟩)),(5, .pointer (some ⟨H1.next,0,none⟩)),(16, .int .i64 (l.length:Nat)),(17, .int .i64 (l.length:Nat)),(18, .bool false)]) (P:=λh'=>WF h'∧h'.log=[]/\H2.next<=h'.next/\(∀z,z<H.next->h'.get z=H2.get z)/\h'.get H1.next=some (.cells [.slice a l.length c] true 1)/\OwS H.next h' (.slice a l.length c) (l.map λp=>fH p w.1)) ?_ ?_
 ·rcases q2 with⟨hv,rfl⟩|⟨b,c',tl,hb1,hb2,hb3,hv,hcl,hcu⟩
  ·cases hv;refine Y6 ?_;refine cM (λmm e ds h'=>0=mm/\e=[(2, .pointer (some ⟨h.next,0,none⟩)),(5, .pointer (some ⟨H1.next,0,none⟩)),(16, .int .i64 0),(17, .int .i64 0)]/\ds=[]/\H2=h') ⟨rfl,rfl,rfl,rfl⟩ ?_;rintro mm e ds _ ⟨rfl,rfl,rfl,rfl⟩;refine Y9 ?_;exact⟨rfl,rfl,rfl,W2,hL2,Nat.le_refl _,λ_ _=>rfl,g5, .inl ⟨rfl,rfl⟩⟩
  ·cases hv;have hb0:b<H1.next:=(q1.vb ⟨_,_,rfl⟩).2
   refine Y6 ?_
   refine cM (λmm e ds h'=>∃i:Nat,i<=l.length/\l.length-i=mm/\e=[(2, .pointer (some ⟨h.next,0,none⟩)),(5, .pointer (some ⟨H1.next,0,none⟩)),(16, .int .i64 (l.length:Nat)),(17, .int .i64 (i:Nat))]/\ds=[]/\WF h'∧h'.log=[]/\H2.next=h'.next/\(∀z,z≠b->h'.get z=H2.get z)/\h'.get b=some (.cells (ssL ((l.take i).map (λp=>fH p w.1)++l.drop i)++tl) true 8))
    ⟨0,Nat.zero_le _,rfl,rfl,rfl,W2,hL2,rfl,λ_ _=>rfl,hb3⟩ ?_
   rintro mm e ds H3 ⟨i,hi,rfl,rfl,rfl,w3,l3,n3,o3,gb⟩;have g53:=(o3 H1.next (by omega)).trans g5;have g03:=(o3 h.next (by omega)).trans g02;by_cases hlt:i<l.length
   ·obtain⟨x,hx⟩:∃x,l[i]? =some x:=⟨l[i],List.getElem?_eq_getElem hlt⟩;have hxs:=hok0 x (List.mem_of_getElem? hx);have hokm:∀y∈(l.take i).map (λp=>fH p w.1)++l.drop i,IsS y:=λy hy=>by
     rcases List.mem_append.1 hy with hy|hy
     ·obtain⟨p,hp,rfl⟩:=List.mem_map.1 hy;exact(hok0 p (List.mem_of_mem_take hp)).less hw.a
     ·exact hok0 y (List.mem_of_mem_drop hy)
    have hml:((l.take i).map (λp=>fH p w.1)++l.drop i).length=l.length:=by
     rw[List.length_append,List.length_map,List.length_take,List.length_drop];omega
    have rx:=ql (t:=tl) hokm (Dg _ hx);have hset:=yH (λp=>fH p w.1) hx;have hls:=hxs.less hw.a;have C:=Ge hp F.f124 (h:={H3 with log:=[]}) (.of w3) hxs hw.a;have kc:=BI (t:=tl) hokm hls (i:=i) (by omega);have kw:cU (ssL ((l.take i).map (λp=>fH p w.1)++l.drop i)++tl) (0+i*8) (cellsOf (sv (fH x w.1)))=ssL ((l.take (i+1)).map (λp=>fH p w.1)++l.drop (i+1))++tl:=by
     have e:cellsOf (sv (fH x w.1))=us (fH x w.1):=by show(us (fH x w.1)).toArray.toList=_;simp
     rw[e,BF hokm hls (by omega),hset]
    have kx:=bA hxs.len;have mlt:aq .lss (.int .i64 (i:Nat)) (.int .i64 (l.length:Nat))=some (.bool true):=ei (by omega);generalize fH x w.1=lx at*;generalize(l.take i).map (λp=>fH p w.1)++l.drop i=m at*;obtain rfl:=hcu (λq=>by rw[q]at hlt;simp at hlt);refine Y23 ?_;refine FW.puD C (by(repeat apply aG rfl);apply ah rfl (aa rfl (eG (by exact rfl)) (by exact dg _ _)) rfl;apply ah rfl (aa rfl (bY (by exact rfl) (by assumption) (by exact rfl)) (by exact eV _ _ _)) rfl;exact bh) ?_;clear C;refine qI ?_;refine gI rfl rfl rfl (by exact rfl) (by exact rfl) (by exact rfl) gb kc kw (by omega) (by(repeat apply aG rfl);exact bh) ?_;refine Y8 ?_;exact⟨l.length-(i+1),by omega,i+1,by omega,rfl,rfl,rfl,w3.as (AS.wr h.next _ _ _),(Heap.aB (by omega)).trans l3,n3,λz hz=>(z5 hz).trans (o3 z hz),by rw[z6,gb];rfl⟩
   ·obtain rfl:i=l.length:=by omega
    have mlt:aq .lss (.int .i64 (l.length:Nat)) (.int .i64 (l.length:Nat))=some (.bool false):=eH (by omega);rw[List.take_length,List.drop_length,List.append_nil]at gb;refine Y9 ?_;refine⟨rfl,rfl,rfl,w3,l3,by omega,λz hz=>o3 z (by omega),g53, .inr ⟨b,c,tl,hb1,by omega,gb,by rw[List.length_map],by rw[List.length_map];exact hcl,λq=>hcu λq2=>q (by rw[q2];rfl)⟩⟩
 have hvb:∀z,vB (.slice a l.length c) z->H.next<=z/\z<H1.next:=λz hz=>q1.vb hz
 rintro H3 ⟨w3,l3,n3,o3,g53,q3⟩;clear q2 q1 g5 g01;have g03:=(o3 _ (by omega)).trans g02;have hokm:∀y∈l.map (λp=>fH p w.1),IsS y:=λy hy=>by
  obtain⟨p,hp,rfl⟩:=List.mem_map.1 hy;exact(hok0 p hp).less hw.a
 have hlm:(l.map λp=>fH p w.1).length=l.length:=List.length_map _;generalize hll:l.map (λp=>fH p w.1)=lm at*;have hlm2:lm.length<1000000:=by omega
 have C2:=F8 F.pl.f189 (.inr rfl) (h:={H3 with log:=[]}) (q3.log []) hokm hlm2;refine Y3 ?_;refine FW.gs0 C2 (λv h' m q=>q.log m) (λz hz=>by have:=(q3.vb hz).1;omega) ?_;rintro v4 H4 n4 l4 o4 w4 q4;clear C2;have W4:=w4 w3;have g54:=(o4 H1.next (by omega) (λq=>by have:=(hvb _ q).2;omega)).trans g53;have hok4:∀x∈eU lm,IsS x:=λx hx=>hokm x (iM.1 hx);have C3:=vS hp F.pl.f192 (h:={H4 with log:=[]}) (.of W4) (q4.log []) hok4 (by rw[jV];exact hlm2);rw[←hA]at C3;refine Y4 ?_;refine FW.gs0 C3 (λv h' m q=>q.log m) (λz hz=>by have:=(q4.vb hz).1;omega) ?_;rintro v5 H5 n5 l5 o5 w5 q5;clear C3;have W5:=w5 W4;have hL5:=l5.trans (l4.trans l3);have g55:=(o5 H1.next (by omega) (λq=>by have:=(hvb _ q).2;omega)).trans g54;have ne5:=q5.ne g55;obtain⟨a5,c5,rfl⟩:=q5.form;have hn1:H1.next<H5.next:=by omega
 have q6:=q5.wr (base:=h.next) (ob:= .cells [.slice a5 r.length c5] true 1) ne5;have g56:(H5.wr h.next H1.next (.cells [.slice a5 r.length c5] true 1)).get H1.next=some (.cells [.slice a5 r.length c5] true 1):=by rw[z6,g55];rfl
 have W6:WF (H5.wr h.next H1.next (.cells [.slice a5 r.length c5] true 1)):=W5.as (AS.wr h.next _ _ _);have hL6:(H5.wr h.next H1.next (.cells [.slice a5 r.length c5] true 1)).log=[]:=(Heap.aB (by omega)).trans hL5;have n6:(H5.wr h.next H1.next (.cells [.slice a5 r.length c5] true 1)).next=H5.next:=rfl
 clear q5 q4 q3 g54 g53;refine Y2 ?_;clear g55;refine WE.uM ?_;intro H6 hH6;have e6:H6=H5.wr h.next H1.next (.cells [.slice a5 r.length c5] true 1):=hH6
 rw[←e6]at q6 g56 W6 hL6 n6;clear hH6 e6;have hrl:r.length<1000000:=by omega
 have C4:=JG hp F.f194 (h:={H6 with log:=[]}) (.of W6) ((q6.ss hAok).log []) hrl;refine Y3 ?_;refine FW.al C4 (λv h' m q=>q.log m) ?_;rintro v7 H7 x7 q7;have q7:OwS H6.next H7 v7 r:=q7
 clear C4;have W7:=x7.wf W6;have hL7:=x7.log.trans hL6;have n7:=x7.next
 have C5:=G9 hp F.f193 F.f257 (h:={H7 with log:=[]}) (.of W7) (lo:=H6.next) (q7.log []) hAok hrl (g:=85) (cap:=[.pointer (some ⟨H1.next,0,none⟩)]) (wR r) λh' w hnn hold x hx=>
  OJ F (h:={h' with log:=[]}) (.of w) (q:=H1.next) (v:= .slice a5 r.length c5) ((OwS.ss (q6.keep (h':=h') (by have:H7.next<=h'.next:=hnn;omega) λz _ hz=>(hold z hz).trans (x7.old z hz)) hAok).log []) hrl hx ((hold _ (by omega)).trans ((x7.old _ (by omega)).trans g56))
 refine Y2 ?_;refine FW.gs0 C5 (λv h' m q=>q.log m) (λz hz=>by have:=(q7.vb hz).1;omega) ?_;rintro v8 H8 n8 l8 o8 w8 q8;clear C5;refine Y3 ?_;exact cF (l8.trans hL7) rfl (q8.low (by omega))
def mB(w:List Nat×List Nat):Bool:=decide (64<((ij w.2:Nat):Int)-((ij w.1:Nat):Int))
theorem JI(s:List Nat):ij s<=512:=lK s 512
structure I4 (T:Nat->Option an):Prop where
 nd:B0 T
 f89:T 39=some f89
 f90:T 40=some f90
 f91:T 43=some f91
theorem Ts(F:I4 T){h:Heap}(hr:Rdy h){w:List Nat×List Nat}(hw:IsW w):Pu T 39 [wV w] h (.bool (sIn w.1 w.2)):=by
 have hp:=F.nd.pl.fi.ft.li.p;refine .of hp F.f89 hr rfl ?_;have hwc:cellsOf (wV w)=wL w:=by show(wL w).toArray.toList=_;simp
 have g0:(h.push (.cells (cellsOf (wV w)) true 1)).get h.next=some (.cells (wL w) true 1):=by rw[hwc];exact z3 h _
 have W:WF (h.push (.cells (cellsOf (wV w)) true 1)):=hr.wf.push _;have hL:(h.push (.cells (cellsOf (wV w)) true 1)).log=[]:=hr.log;refine Y4 ?_;generalize(h.push (.cells (cellsOf (wV w)) true 1))=H at*;have C:=CU hp F.nd.f35 F.nd.f121 (h:={H with log:=[]}) (.of W) hw.a hw.b;have wa:=No hw;have wb:=Np hw;have wka:=bA hw.a.len;have wkb:=bA hw.b.len;refine Y6 ?_;refine FW.pu C ?_;refine Y3 ?_;exact aA hL rfl rfl
theorem KY(F:I4 T){h:Heap}(hr:Rdy h){w:List Nat×List Nat}(hw:IsW w):Pu T 43 [wV w] h (.bool (mB w)):=by
 have hp:=F.nd.pl.fi.ft.li.p;refine .of hp F.f91 hr rfl ?_;have hwc:cellsOf (wV w)=wL w:=by show(wL w).toArray.toList=_;simp
 have g0:(h.push (.cells (cellsOf (wV w)) true 1)).get h.next=some (.cells (wL w) true 1):=by rw[hwc];exact z3 h _
 have W:WF (h.push (.cells (cellsOf (wV w)) true 1)):=hr.wf.push _;have hL:(h.push (.cells (cellsOf (wV w)) true 1)).log=[]:=hr.log;refine Y4 ?_;generalize(h.push (.cells (cellsOf (wV w)) true 1))=H at*;have C1:=rR F.nd.pl.fi.ft.co (h:={H with log:=[]}) (.of W) hw.b;have C2:=rR F.nd.pl.fi.ft.co (h:={H with log:=[]}) (.of W) hw.a;have wa:=No hw;have wb:=Np hw;have wka:=bA hw.a.len;have wkb:=bA hw.b.len;have b1:=JI w.1;have b2:=JI w.2;have m1:aq .sub (.int .i64 ((ij w.2:Nat):Int)) (.int .i64 ((ij w.1:Nat):Int))=some (.int .i64 (((ij w.2:Nat):Int)-((ij w.1:Nat):Int))):=mA (ct (by omega) (by omega));have m2:aq .gtr (.int .i64 (((ij w.2:Nat):Int)-((ij w.1:Nat):Int))) (.int .i64 64)=some (.bool (mB w)):=by
  unfold mB;by_cases q:64<((ij w.2:Nat):Int)-((ij w.1:Nat):Int)
  ·rw[decide_eq_true q];exact jD q
  ·rw[decide_eq_false q];exact ji (by omega)
 generalize((ij w.2:Nat):Int)-((ij w.1:Nat):Int)=d at*;refine Y7 ?_;refine FW.puD C1 (by apply ah rfl (aa rfl (dh (by exact rfl) (by assumption) (by assumption) (by assumption)) (by exact yd _)) rfl;apply ah rfl (aa rfl (cT (by exact rfl)) (by exact aX _)) rfl;(repeat apply aG rfl);exact bh) ?_;clear C1;skip;refine qC ?_;refine FW.puD C2 (by(repeat apply aG rfl);exact bh) ?_;clear C2;refine Y7 ?_;exact aA hL rfl rfl
structure Pb where
 cells:List Nat
 cost:Int
def pbL(p:Pb):List Value:=us p.cells++[.int .i64 p.cost]
def pbV(p:Pb):Value:= .agg (pbL p).toArray
def A9(l:List Pb):List Value:=l.flatMap pbL
theorem jU{p:Pb}(h:IsS p.cells):(pbL p).length=9:=by simp[pbL,aH,h.len]
theorem Dw{p:Pb}(h:IsS p.cells):bH (pbL p) (0+8)=some (.int .i64 p.cost):=by
 rw[cD];show(us p.cells++[Value.int .i64 p.cost])[8]? =_;rw[List.getElem?_append_right (by rw[aH,h.len];omega),aH,h.len];rfl
theorem qi{p:Pb}(h:IsS p.cells):cw 8 (bU (0+0) (pbL p))=us p.cells:=by
 rw[bI,aT];show(us p.cells++[Value.int .i64 p.cost]).take 8=_;rw[List.take_append_of_le_length (by rw[aH,h.len];omega),List.take_of_length_le (by rw[aH,h.len];omega)]
theorem xm{p:Pb}(h:IsS p.cells):Nat.beq (cm (pbL p)) 9=true:=by rw[bS,jU h];rfl
theorem DA(p:Pb):dY (pbL p)=true:=pJ (dB _) rfl
theorem L6:∀{l:List Pb} {i:Nat} {p:Pb},(∀p∈l,IsS p.cells)->l[i]? =some p->((A9 l).drop (i*9)).take 9=pbL p
 |[],i,p,_,h=>by simp at h
 |q::l,0,p,hl,h=>by
  simp at h;subst h;have e:A9 (q::l)=pbL q++A9 l:=rfl;have:=jU (hl q List.mem_cons_self);rw[e,Nat.zero_mul,List.drop_zero,List.take_append_of_le_length (by omega),List.take_of_length_le (by omega)]
 |q::l,i+1,p,hl,h=>by
  have e:A9 (q::l)=pbL q++A9 l:=rfl;have e8:=jU (hl q List.mem_cons_self);have e2:(pbL q++A9 l).drop 9=A9 l:=by rw[←e8];exact List.drop_left
  rw[e,show(i+1)*9=9+i*9 by omega,←List.drop_drop,e2];exact L6 (λs hs=>hl s (List.mem_cons_of_mem _ hs)) (by simpa using h)
structure Rc (vs:List Value) (o:Nat) (p:Pb):Prop where
 all:cw 9 (bU o vs)=pbL p
 cells:cw 8 (bU (o+0) vs)=us p.cells
 cost:bH vs (o+8)=some (.int .i64 p.cost)
theorem Rc.mk'{vs:List Value}{o:Nat}{p:Pb}(hp:IsS p.cells)(h:(vs.drop o).take 9=pbL p):Rc vs o p:=by
 refine⟨by rw[bI,aT];exact h,?_,?_⟩
 ·have:=qi hp;rw[←this,bI,aT,bI,aT,←h,List.drop_take,List.drop_drop,List.take_take];rfl
 ·have:=Dw hp;rw[←this,cD,cD,←h,List.getElem?_take_of_lt (by omega),List.getElem?_drop,Nat.zero_add]
structure PbS (h:Heap) (v:Value) (l:List Pb):Prop where
 sl:aJ h 9 v l.length (A9 l)
 ok:∀p∈l,IsS p.cells
theorem PbS.elem{h:Heap}{v:Value}{l:List Pb}(s:PbS h v l){i:Nat}{p:Pb}(hi:l[i]? =some p):
 ∃b o c vs own t,v= .slice (some ⟨b,o,none⟩) l.length c/\h.get b=some (.cells vs own t)/\b<h.next/\Rc vs (o+i*9) p:=by
 have hlt:=(List.getElem?_eq_some_iff.1 hi).1;rcases aJ.inv s.sl with⟨_,_,h0,_⟩|⟨b,o,cap,hv,s1,hc⟩
 ·omega
 ·obtain⟨vs,own,t,g1,g2⟩:=s1.obj;refine⟨b,o,cap,vs,own,t,hv,g1,s1.lt, .mk' (s.ok p (List.mem_of_getElem? hi)) ?_⟩;rw[←L6 s.ok hi,←g2];simp only[bI,aT,List.drop_take,List.take_take,List.drop_drop];congr 1;omega
theorem PbS.form{h:Heap}{v:Value}{l:List Pb}(s:PbS h v l):∃a c,v= .slice a l.length c:=s.sl.form
theorem PbS.ext{h h':Heap}{v:Value}{l:List Pb}(s:PbS h v l)(x:Ext h h'):PbS h' v l:=⟨s.sl.ext x,s.ok⟩
theorem PbS.log{h:Heap}{v:Value}{l:List Pb}(s:PbS h v l)(m:List Nat):PbS {h with log:=m} v l:=⟨s.sl.log m,s.ok⟩
def oH(p:Pb):Bool:=decide (p.cells=s0)|| !inR p.cost 1 1000
def prE(l:List Pb):Int:=if 8<l.length then 2 else if l.any oH then 1 else 0
def wz(P:Pb->Bool):List Pb->Nat->Int
 |[],_=> -1
 |r::l,i=>if P r then(i:Int)else wz P l (i+1)
theorem Hq(P:Pb->Bool){l:List Pb}{i:Nat}{r:Pb}(hi:l[i]? =some r):wz P (l.drop i) i=if P r then(i:Int)else wz P (l.drop (i+1)) (i+1):=by
 obtain⟨hlt,rfl⟩:=List.getElem?_eq_some_iff.1 hi;rw[List.drop_eq_getElem_cons hlt,wz]
theorem Kl(P:Pb->Bool)(l:List Pb):wz P (l.drop l.length) l.length= -1:=by
 rw[List.drop_length];rfl
theorem CO(P:Pb->Bool):∀(l:List Pb) (i:Nat),decide (0<=wz P l i)=l.any P
 |[],_=>rfl
 |r::l,i=>by
  rw[wz,List.any_cons];by_cases h:P r=true
  ·rw[if_pos h,h,Bool.true_or];exact decide_eq_true (by omega)
  ·rw[if_neg h,CO P l (i+1)];have:P r=false:=by simpa using h
   rw[this,Bool.false_or]
structure FB (T:Nat->Option an):Prop where
 p:aF T
 f62:T 64=some f62
 f90:T 40=some f90
 f106:T 35=some f106
 f155:T 80=some f155
 f156:T 81=some f156
 f231:T 106=some f231
theorem Ri(F:FB T){h:Heap}(hr:Rdy h){p:Pb}(hs:IsS p.cells):Pu T 81 [pbV p] h (.bool (oH p)):=by
 refine .of F.p F.f156 hr rfl ?_;have hpc:cellsOf (pbV p)=pbL p:=by show(pbL p).toArray.toList=_;simp
 have x0:Ext h (h.push (.cells (cellsOf (pbV p)) true 1)):=(Ext.refl h).push _;have g0:(h.push (.cells (cellsOf (pbV p)) true 1)).get h.next=some (.cells (pbL p) true 1):=by rw[hpc];exact z3 h _
 refine Y4 ?_;generalize(h.push (.cells (cellsOf (pbV p)) true 1))=H at*;have W:=x0.wf hr.wf;have hL:=x0.log.trans hr.log;have kc:=qi hs;have kk:=bA hs.len;have kx:=Dw hs;have C1:=FZ F.p F.f90 (h:={H with log:=[]}) (.of W) hs;have C2:=Kn F.p F.f106 (h:={H with log:=[]}) (.of W) p.cost 1 1000;unfold oH;generalize decide (p.cells=s0)=b1 at*;generalize inR p.cost 1 1000=b2 at*;cases b1 with
 |true=>
  refine Y4 ?_;refine FW.pu C1 ?_;refine Y9 ?_;exact aA hL rfl rfl
 |false=>
  refine Y4 ?_;refine FW.pu C1 ?_;refine Y7 ?_;refine FW.pu C2 ?_;refine Y6 ?_;exact aA hL rfl rfl
theorem Kr(F:FB T){h:Heap}(hr:Rdy h){v:Value}{l:List Pb}(s:PbS h v l)(hn:l.length<1000000){g:Nat}{cap:List Value}(P:Pb->Bool)
 (HP:∀r∈l,Pu T g (pbV r::cap) h (.bool (P r))):Pu T 106 [v, .func (.func g) #[] cap.toArray] h (.int .i64 (wz P l 0)):=by
 refine .of F.p F.f231 hr rfl ?_;obtain⟨a,c,rfl⟩:=s.form;refine Y10 ?_
 refine cM (λm e ds h'=>∃i:Nat,i<=l.length/\m=l.length-i/\e=[(0, .slice a l.length c),(1, .func (.func g) #[] cap.toArray),(7, .int .i64 (l.length:Nat)),(8, .int .i64 (i:Nat))]/\ds=[]/\h=h'∧wz P l 0=wz P (l.drop i) i)
  ⟨0,Nat.zero_le _,rfl,rfl,rfl,rfl,rfl⟩ ?_
 rintro m e ds _ ⟨i,hin,rfl,rfl,rfl,rfl,hi⟩;by_cases hlt:i<l.length
 ·obtain⟨r,hri⟩:∃r,l[i]? =some r:=⟨l[i],List.getElem?_eq_getElem hlt⟩;have hrm:=List.mem_of_getElem? hri;obtain⟨b,o,c2,vs,own,t,hv,g1,hb,g2⟩:=s.elem hri;cases hv;have k1:=g2.all;have k2:=xm (s.ok r hrm);have H:=HP r hrm;have mlt:aq .lss (.int .i64 (i:Nat)) (.int .i64 (l.length:Nat))=some (.bool true):=ei (by omega);rw[Hq P hri]at hi;refine Y19 ?_;refine kZ (vE (all:=pbV r::cap) (by exact rfl) (by exact rfl) (by exact rfl) (by rw[dH,dH];simp[pbV])) ?_;refine FW.pu (by rw[hr.self];exact H) ?_;clear H HP;cases hpr:P r with
  |true=>
   rw[hpr,if_pos rfl]at hi;rw[hi];refine Y12 ?_;exact aA hr.log rfl rfl
  |false=>
   rw[hpr,if_neg (by simp)]at hi;refine Y9 ?_;exact⟨l.length-(i+1),by omega,i+1,by omega,rfl,rfl,rfl,rfl,hi⟩
 ·obtain rfl:i=l.length:=by omega
  have mlt:aq .lss (.int .i64 (l.length:Nat)) (.int .i64 (l.length:Nat))=some (.bool false):=eH (by omega);rw[Kl]at hi;rw[hi];refine Y14 ?_;exact aA hr.log rfl rfl
theorem N1(F:FB T){h:Heap}(hr:Rdy h){v:Value}{l:List Pb}(s:PbS h v l)(hn:l.length<1000000):Pu T 64 [v] h (.int .i64 (prE l)):=by
 refine .of F.p F.f62 hr rfl ?_;obtain⟨a,c,rfl⟩:=s.form;have hL:=hr.log;unfold prE;by_cases h8:8<l.length
 ·have m1:aq .gtr (.int .i64 (l.length:Nat)) (.int .i64 8)=some (.bool true):=jD (by omega);rw[if_pos h8];refine Y15 ?_;exact aA hL rfl rfl
 rw[if_neg h8];have m1:aq .gtr (.int .i64 (l.length:Nat)) (.int .i64 8)=some (.bool false):=ji (by omega);have C:Pu T 80 [.slice a l.length c, .func (.func 81) #[] #[]] {h with log:=[]} (.bool (l.any oH)):=by
  refine .of F.p F.f155 (.of hr.wf) rfl ?_;have C:=Kr F (h:={h with log:=[]}) (.of hr.wf) (s.log []) hn (g:=81) (cap:=[]) oH λr hrm=>Ri F (.of hr.wf) (s.ok r hrm);rw[←CO oH l 0];generalize wz oH l 0=z at C⊢;refine Y7 ?_;refine FW.pu C ?_;clear C;have m1:aq .geq (.int .i64 z) (.int .i64 0)=some (.bool (decide (0<=z))):=sq;refine Y4 ?_;exact aA rfl rfl rfl
 cases hb:l.any oH with
 |true=>
  rw[hb]at C;rw[if_pos rfl];refine Y16 ?_;refine FW.pu C ?_;refine Y7 ?_;exact aA hL rfl rfl
 |false=>
  rw[hb]at C;rw[if_neg (by simp)];refine Y16 ?_;refine FW.pu C ?_;refine Y8 ?_;exact aA hL rfl rfl
def fL(f:List Nat):List Value:=f.map λk=> .int .u8 (k:Nat)
def fV(f:List Nat):Value:= .agg (fL f).toArray
theorem dx(f:List Nat):(fL f).length=f.length:=by simp[fL]
theorem kN:∀f:List Nat,dY (fL f)=true
 |[]=>rfl
 |_::f=>kN f
theorem Ay{f:List Nat}{i k:Nat}(h:f[i]? =some k):bH (fL f) (0+i*1)=some (.int .u8 (k:Nat)):=by
 rw[cD,Nat.zero_add,Nat.mul_one];simp[fL,h]
theorem iq{f:List Nat}(h:f.length=8):cw 8 (bU 0 (fL f))=fL f:=by
 rw[bI,aT,List.drop_zero,List.take_of_length_le (by rw[dx];omega)]
theorem fJ{f:List Nat}(h:f.length=8):Nat.beq (cm (fL f)) 8=true:=by rw[bS,dx,h];rfl
theorem yc(f:List Nat):iy (.agg (fL f).toArray) (.agg (fL f).toArray)=true:=by
 refine pS ?_;rw[List.toList_toArray];induction f with
 |nil=>rfl
 |cons p f ih=>exact di (iu _ _) ih
def quL(w:List Nat×List Nat)(pv nv ov mv:Value):List Value:=wL w++[pv,nv,ov,mv]
theorem Fa{w:List Nat×List Nat}(hw:IsW w)(pv nv ov mv:Value):(quL w pv nv ov mv).length=20:=by
 unfold quL;rw[List.length_append,iO hw];rfl
theorem Vc{w:List Nat×List Nat}(hw:IsW w)(pv nv ov mv:Value):cw 16 (bU (0+0) (quL w pv nv ov mv))=wL w:=by
 have:=iO hw;unfold quL;rw[bI,aT,Nat.zero_add,List.drop_zero,List.take_append_of_le_length (by omega),List.take_of_length_le (by omega)]
theorem U9{w:List Nat×List Nat}(hw:IsW w)(pv nv ov mv:Value):cw 8 (bU (0+0+0) (quL w pv nv ov mv))=us w.1:=by
 have h:=iO hw;have e:=No hw;rw[bI,aT,Nat.zero_add,List.drop_zero]at e;unfold quL;rw[bI,aT,Nat.zero_add,List.drop_zero,List.take_append_of_le_length (by omega)];exact e
theorem Va{w:List Nat×List Nat}(hw:IsW w)(pv nv ov mv:Value):cw 8 (bU (0+0+8) (quL w pv nv ov mv))=us w.2:=by
 have h:=iO hw;have e:=Np hw;rw[bI,aT,Nat.zero_add]at e;unfold quL;rw[bI,aT,Nat.zero_add,List.drop_append_of_le_length (by omega),List.take_append_of_le_length (by rw[List.length_drop];omega)];exact e
theorem Br{w:List Nat×List Nat}(hw:IsW w)(pv nv ov mv:Value)(i:Nat):bH (quL w pv nv ov mv) (16+i)=[pv,nv,ov,mv][i]? :=by
 have h:=iO hw;unfold quL;rw[cD,List.getElem?_append_right (by omega),h,Nat.add_sub_cancel_left]
theorem qA{w:List Nat×List Nat}(hw:IsW w)(pv nv ov mv:Value):bH (quL w pv nv ov mv) (0+16)=some pv:=Br hw pv nv ov mv 0
theorem QW{w:List Nat×List Nat}(hw:IsW w)(pv nv ov mv:Value):bH (quL w pv nv ov mv) (0+17)=some nv:=Br hw pv nv ov mv 1
theorem QX{w:List Nat×List Nat}(hw:IsW w)(pv nv ov mv:Value):bH (quL w pv nv ov mv) (0+18)=some ov:=Br hw pv nv ov mv 2
theorem Vb{w:List Nat×List Nat}(hw:IsW w)(pv nv ov mv:Value):bH (quL w pv nv ov mv) (0+19)=some mv:=Br hw pv nv ov mv 3
abbrev Zs:=List (Pb×Nat)
def alB(z:Zs)(s:List Nat):Bool:=z.all λx=> !(decide (x.2=2)&&sIn x.1.cells s)
def bsJ(s:List Nat)(x:Pb×Nat):List Nat:=if x.2=1 then iZ s x.1.cells else s
def bsS(s:List Nat)(z:Zs):List Nat:=z.foldl bsJ s
def bsB(w:List Nat×List Nat)(z:Zs):Bool:=sIn (bsS w.1 z) w.2&&alB z (bsS w.1 z)
theorem nO:∀{z:Zs} {s:List Nat},IsS s->(∀x∈z,IsS x.1.cells)->IsS (bsS s z)
 |[],s,hs,_=>hs
 |x::z,s,hs,h=>by
  have hx:=h x List.mem_cons_self;refine nO (z:=z) (s:=bsJ s x) ?_ λy hy=>h y (List.mem_cons_of_mem _ hy);unfold bsJ;split
  ·exact hs.join hx
  ·exact hs
theorem NG{l:List Pb}{f:List Nat}{i:Nat}{p:Pb}{k:Nat}(hp:l[i]? =some p)(hk:f[i]? =some k):(l.zip f)[i]? =some (p,k):=List.getElem?_zip_eq_some.2 ⟨hp,hk⟩
theorem GM{l:List Pb}{f:List Nat}(h:l.length<=f.length):(l.zip f).length=l.length:=by rw[List.length_zip];omega
theorem pX{l:List Pb}{f:List Nat}(h:∀p∈l,IsS p.cells):∀x∈l.zip f,IsS x.1.cells:=λx hx=>h _ (List.of_mem_zip hx).1
theorem QY{z:Zs}{i:Nat}{x:Pb×Nat}(h:z[i]? =some x):z.take (i+1)=z.take i++[x]:=by
 obtain⟨hlt,rfl⟩:=List.getElem?_eq_some_iff.1 h;exact List.take_succ_eq_append_getElem hlt
structure Ca (T:Nat->Option an):Prop where
 p:aF T
 f35:T 8=some f35
 f121:T 26=some f121
 f143:T 50=some f143
 f174:T 69=some f174
 f207:T 51=some f207
 f226:T 70=some f226
theorem vK(F:Ca T){h:Heap}(hr:Rdy h){q:Nat}{w:List Nat×List Nat}(hw:IsW w){pv nv ov mv:Value}(gq:h.get q=some (.cells (quL w pv nv ov mv) true 1)){l:List Pb}(sp:PbS h pv l)(hl:l.length<=8){f:List Nat}(hf:f.length=8){s:List Nat}(hs:IsS s):
 Pu T 70 [.pointer (some ⟨q,0,none⟩),fV f,sv s] h (.bool (alB (l.zip f) s)):=by
 refine .of F.p F.f226 hr rfl ?_;obtain⟨a,c,rfl⟩:=sp.form;have hfc:cellsOf (fV f)=fL f:=by show(fL f).toArray.toList=_;simp
 have x0:Ext h ((h.push (.cells (cellsOf (fV f)) true 1)).push (.cells (cellsOf (sv s)) true 1)):=((Ext.refl h).push _).push _;have g0:((h.push (.cells (cellsOf (fV f)) true 1)).push (.cells (cellsOf (sv s)) true 1)).get h.next=some (.cells (fL f) true 1):=by rw[hfc];exact(z4 (Nat.lt_succ_self _)).trans (z3 h _)
 have g1:((h.push (.cells (cellsOf (fV f)) true 1)).push (.cells (cellsOf (sv s)) true 1)).get (h.next+1)=some (.cells (us s) true 1):=z3 _ _;have n0:((h.push (.cells (cellsOf (fV f)) true 1)).push (.cells (cellsOf (sv s)) true 1)).next=h.next+2:=rfl
 refine Y5 ?_;generalize((h.push (.cells (cellsOf (fV f)) true 1)).push (.cells (cellsOf (sv s)) true 1))=H at*;have W:=x0.wf hr.wf;have hL:=x0.log.trans hr.log;have gqH:=(x0.old _ (hr.wf.bK gq)).trans gq;have spH:=sp.ext x0;have kp:=qA hw (.slice a l.length c) nv ov mv;have k8:=bA hs.len;have k9:=bV hs.len;have hzl:=GM (l:=l) (f:=f) (by omega);refine Y10 ?_
 refine cM (λm e ds h'=>∃i:Nat,i<=l.length/\m=l.length-i/\e=[(4, .pointer (some ⟨h.next,0,none⟩)),(5, .pointer (some ⟨h.next+1,0,none⟩)),(12, .slice a l.length c),(13, .int .i64 (l.length:Nat)),(14, .int .i64 (i:Nat))]/\ds=[]/\Ext H h'∧alB ((l.zip f).take i) s=true)
  ⟨0,Nat.zero_le _,rfl,rfl,rfl, .refl H,rfl⟩ ?_
 rintro m e ds G ⟨i,hin,rfl,rfl,rfl,xG,hall⟩;have WG:=xG.wf W;have hLG:=xG.log.trans hL;have nG:=xG.next
 by_cases hlt:i<l.length
 ·obtain⟨p,hpi⟩:∃r,l[i]? =some r:=⟨l[i],List.getElem?_eq_getElem hlt⟩;obtain⟨k,hki⟩:∃r,f[i]? =some r:=⟨f[i]'(by omega),List.getElem?_eq_getElem _⟩;have hps:=sp.ok p (List.mem_of_getElem? hpi);obtain⟨b,o,c2,vs,own,t,hv,gl,hb,gat⟩:=(spH.ext xG).elem hpi;cases hv;have k1:=gat.all;have k2:=xm hps;have k3:=jU hps;have k4:=DA p;have mlt:aq .lss (.int .i64 (i:Nat)) (.int .i64 (l.length:Nat))=some (.bool true):=ei (by omega);have g0G:=(xG.old _ (by omega)).trans g0;have g1G:=(xG.old _ (by omega)).trans g1;have hz:=NG hpi hki;have hst:alB ((l.zip f).take (i+1)) s=(alB ((l.zip f).take i) s&& !(decide (k=2)&&sIn p.cells s)):=by
   unfold alB;rw[QY hz,List.all_append];simp
  have hno:(decide (k=2)&&sIn p.cells s)=true->alB (l.zip f) s=false:=λq=>by
   unfold alB;rw[List.all_eq_false];exact⟨(p,k),List.mem_of_getElem? hz,by rw[q];simp⟩
  refine Y9 ?_;refine cW (E0:=[(4, .pointer (some ⟨h.next,0,none⟩)),(5, .pointer (some ⟨h.next+1,0,none⟩)),(7, .int .i64 (i:Nat)),(8, .pointer (some ⟨G.next,0,none⟩)),(12, .slice (some ⟨b,o,none⟩) l.length c),(13, .int .i64 (l.length:Nat)),(14, .int .i64 (i:Nat))]) (P:=λh'=>Ext G h'∧h'.next=G.next+1/\h'.get G.next=some (.cells (pbL p) true 1)) ?_ ?_
  ·refine Y6 ?_;refine aD (bZ (by exact rfl) (by exact rfl) YG (by assumption) (by exact rfl) (by assumption)) ?_;refine bL ?_;refine y1 ?_;exact⟨rfl,rfl,rfl,ff (by omega) _ _,rfl,fO _ _⟩
  rintro G2 ⟨x2,n2,g2⟩;have WG2:=x2.wf WG;have hLG2:=x2.log.trans hLG;have g0G2:=(x2.old _ (by omega)).trans g0G;have g1G2:=(x2.old _ (by omega)).trans g1G;have kf:=Ay hki;have kc:=qi hps;have kcl:=bA hps.len;have x02:=xG.trans x2;clear g0G g1G gl k1 k2 gat;have mk:aq .eql (.int .u8 (k:Nat)) (.int .u8 2)=some (.bool (decide (k=2))):=wJ (c:=2) rfl;have C:=CU F.p F.f35 F.f121 (h:={G2 with log:=[]}) (.of WG2) hps hs;cases hk2:decide (k=2)with
  |false=>
   rw[hk2]at mk hst;refine Y20 ?_;exact⟨l.length-(i+1),by omega,i+1,by omega,rfl,rfl,rfl,x02,by rw[hst,hall];rfl⟩
  |true=>
   rw[hk2]at mk hst hno;cases hin:sIn p.cells s with
   |true=>
    rw[hin]at C hno;rw[hno rfl];refine Y14 ?_;refine FW.pu C ?_;refine Y12 ?_;exact aA hLG2 rfl rfl
   |false=>
    rw[hin]at C hst;refine Y14 ?_;refine FW.pu C ?_;refine Y10 ?_;exact⟨l.length-(i+1),by omega,i+1,by omega,rfl,rfl,rfl,x02,by rw[hst,hall];rfl⟩
 ·obtain rfl:i=l.length:=by omega
  have mlt:aq .lss (.int .i64 (l.length:Nat)) (.int .i64 (l.length:Nat))=some (.bool false):=eH (by omega);rw[←hzl,List.take_length]at hall;rw[hall];refine Y14 ?_;exact aA hLG rfl rfl
theorem PM(s:List Nat)(b:Bool):cG (.tuple #[sv s, .bool b])=true:=by
 have q:flat (sv s)=true:=vp s;show iD [sv s, .bool b]=true;simp only[iD,q];rfl
theorem FP(F:Ca T){h:Heap}(hr:Rdy h){q:Nat}{w:List Nat×List Nat}(hw:IsW w){pv nv ov mv:Value}(gq:h.get q=some (.cells (quL w pv nv ov mv) true 1)){l:List Pb}(sp:PbS h pv l)(hl:l.length<=8){f:List Nat}(hf:f.length=8):
 Pu T 50 [.pointer (some ⟨q,0,none⟩),fV f] h (.tuple #[sv (bsS w.1 (l.zip f)), .bool (bsB w (l.zip f))]):=by
 refine .of F.p F.f143 hr (PM _ _) ?_;obtain⟨a,c,rfl⟩:=sp.form;have hfc:cellsOf (fV f)=fL f:=by show(fL f).toArray.toList=_;simp
 have x0:Ext h ((h.push (.cells (cellsOf (fV f)) true 1)).push (.cells (aK 8 (.int .u64 0)) true 1)):=((Ext.refl h).push _).push _;have g0:((h.push (.cells (cellsOf (fV f)) true 1)).push (.cells (aK 8 (.int .u64 0)) true 1)).get h.next=some (.cells (fL f) true 1):=by rw[hfc];exact(z4 (Nat.lt_succ_self _)).trans (z3 h _)
 have g1:((h.push (.cells (cellsOf (fV f)) true 1)).push (.cells (aK 8 (.int .u64 0)) true 1)).get (h.next+1)=some (.cells (us s0) true 1):=z3 _ _;have n0:((h.push (.cells (cellsOf (fV f)) true 1)).push (.cells (aK 8 (.int .u64 0)) true 1)).next=h.next+2:=rfl
 refine Y5 ?_;generalize((h.push (.cells (cellsOf (fV f)) true 1)).push (.cells (aK 8 (.int .u64 0)) true 1))=H at*;have W:=x0.wf hr.wf;have hL:=x0.log.trans hr.log;have gqH:=(x0.old _ (hr.wf.bK gq)).trans gq;have kqn:=hr.wf.bK gq;have spH:=sp.ext x0;have g0':=g0;have g1':=g1;have gqH':=gqH;have spH':=spH;have kp:=qA hw (.slice a l.length c) nv ov mv;have ka:=U9 hw (.slice a l.length c) nv ov mv;have kb:=Va hw (.slice a l.length c) nv ov mv;have kal:=bA hw.a.len;have ka9:=bV hw.a.len;have kan:=hw.a.len;have kbl:=bA hw.b.len;have hzl:=GM (l:=l) (f:=f) (by omega);have hzok:=pX (f:=f) sp.ok;refine cW (E0:=[(0, .pointer (some ⟨q,0,none⟩)),(3, .pointer (some ⟨h.next,0,none⟩)),(4, .pointer (some ⟨h.next+1,0,none⟩)),(6, .pointer (some ⟨H.next,0,none⟩))]) (P:=λh'=>Ext H h'∧h'.next=H.next+1/\h'.get H.next=some (.cells (us w.1) true 1)) ?_ ?_
 ·refine Y7 ?_;refine aD (bZ (by exact rfl) (by exact rfl) YG (by(simp only[aH];assumption)) (by exact rfl) (by exact dB _)) ?_;refine bL ?_;refine y1 ?_;exact⟨rfl,rfl,rfl,ff (by omega) _ _,rfl,YG⟩
 rintro H1 ⟨x1,n1,g6⟩;have W1:=x1.wf W;have hL1:=x1.log.trans hL;have g01:=(x1.old _ (by omega)).trans g0;have g11:=(x1.old _ (by omega)).trans g1;have gq1:=(x1.old _ (by omega)).trans gqH;have sp1:=spH.ext x1;clear g0 g1 gqH spH;refine Y10 ?_
 refine cM (λm e ds h'=>∃i:Nat,i<=l.length/\m=l.length-i/\e=[(0, .pointer (some ⟨q,0,none⟩)),(3, .pointer (some ⟨h.next,0,none⟩)),(4, .pointer (some ⟨h.next+1,0,none⟩)),(6, .pointer (some ⟨H.next,0,none⟩)),(17, .slice a l.length c),(18, .int .i64 (l.length:Nat)),(19, .int .i64 (i:Nat))]/\ds=[]/\Ext H h'∧H.next<h'.next/\h'.get H.next=some (.cells (us (bsS w.1 ((l.zip f).take i))) true 1))
  ⟨0,Nat.zero_le _,rfl,rfl,rfl,x1,by omega,g6⟩ ?_
 clear g6 g01 g11 gq1 sp1;rintro m e ds G ⟨i,hin,rfl,rfl,rfl,xG,hnG,g6⟩;have WG:=xG.wf W;have hLG:=xG.log.trans hL;have nG:=xG.next
 have g0G:=(xG.old _ (by omega)).trans g0';have g1G:=(xG.old _ (by omega)).trans g1';have gqG:=(xG.old _ (by omega)).trans gqH';have spG:=spH'.ext xG;have hso:IsS (bsS w.1 ((l.zip f).take i)):=nO hw.a λx hx=>hzok x (List.mem_of_mem_take hx);by_cases hlt:i<l.length
 ·obtain⟨p,hpi⟩:∃r,l[i]? =some r:=⟨l[i],List.getElem?_eq_getElem hlt⟩;obtain⟨k,hki⟩:∃r,f[i]? =some r:=⟨f[i]'(by omega),List.getElem?_eq_getElem _⟩;have hps:=sp.ok p (List.mem_of_getElem? hpi);obtain⟨b,o,c2,vs,own,t,hv,gl,hb,gat⟩:=spG.elem hpi;cases hv;have k1:=gat.all;have k2:=xm hps;have k3:=jU hps;have k4:=DA p;have mlt:aq .lss (.int .i64 (i:Nat)) (.int .i64 (l.length:Nat))=some (.bool true):=ei (by omega);have hst:bsS w.1 ((l.zip f).take (i+1))=bsJ (bsS w.1 ((l.zip f).take i)) (p,k):=by
   unfold bsS;rw[QY (NG hpi hki),List.foldl_append];rfl
  generalize bsS w.1 ((l.zip f).take i)=s at*;have ks8:=bA hso.len;have ks9:=bV hso.len;have ksn:=hso.len;refine Y9 ?_;refine cW (E0:=[(0, .pointer (some ⟨q,0,none⟩)),(3, .pointer (some ⟨h.next,0,none⟩)),(4, .pointer (some ⟨h.next+1,0,none⟩)),(6, .pointer (some ⟨H.next,0,none⟩)),(7, .int .i64 (i:Nat)),(8, .pointer (some ⟨G.next,0,none⟩)),(17, .slice (some ⟨b,o,none⟩) l.length c),(18, .int .i64 (l.length:Nat)),(19, .int .i64 (i:Nat))]) (P:=λh'=>Ext G h'∧h'.next=G.next+1/\h'.get G.next=some (.cells (pbL p) true 1)) ?_ ?_
  ·refine Y6 ?_;refine aD (bZ (by exact rfl) (by exact rfl) YG (by assumption) (by exact rfl) (by assumption)) ?_;refine bL ?_;refine y1 ?_;exact⟨rfl,rfl,rfl,ff (by omega) _ _,rfl,fO _ _⟩
  rintro G2 ⟨x2,n2,g2⟩;have WG2:=x2.wf WG;have hLG2:=x2.log.trans hLG;have g0G2:=(x2.old _ (by omega)).trans g0G;have g6G2:=(x2.old _ (by omega)).trans g6;have kf:=Ay hki;have kc:=qi hps;have kcl:=bA hps.len;have x02:=xG.trans x2;clear g0G g1G gqG gl k1 k2 gat g6 spG;have mk:aq .eql (.int .u8 (k:Nat)) (.int .u8 1)=some (.bool (decide (k=1))):=wJ (c:=1) rfl;have C:=Ga F.p F.f174 (h:={G2 with log:=[]}) (.of WG2) hso hps;unfold bsJ at hst;dsimp only at hst;by_cases hk1:k=1
  ·rw[decide_eq_true hk1]at mk;rw[if_pos hk1]at hst;have hjs:=hso.join hps;generalize iZ s p.cells=j at*;have kj8:=bA hjs.len;have kjn:=hjs.len;refine Y12 ?_;refine FW.pu C ?_;refine aD (bZ (by exact rfl) (by exact rfl) (by assumption) (by(simp only[aH];assumption)) (by(simp only[aH];assumption)) (by exact dB _)) ?_;refine bL ?_;refine y1 ?_;refine UJ ?_;refine Ku ?_;refine tY ?_;refine Y3 ?_;refine⟨l.length-(i+1),by omega,i+1,by omega,rfl,rfl,rfl,⟨?_,?_,?_,?_⟩,?_,?_⟩
   ·exact Nat.le_trans x02.next (Nat.le_refl _)
   ·rw[Heap.aB (by omega)];exact x02.log
   ·intro z hz;exact(z5 (by omega)).trans (x02.old z hz)
   ·intro wf;exact(x02.wf wf).as (AS.wr h.next _ _ _)
   ·show H.next<G2.next;omega
   ·rw[hst];(simp(disch:=first|omega|(simp only[z1,z2];omega))only[z3,z4,z5,z6,z7,z1,z2,g0',g1',gq,gqH',g2,g0G2,g6G2];done)
  ·rw[decide_eq_false hk1]at mk;rw[if_neg hk1]at hst;refine Y14 ?_;exact⟨l.length-(i+1),by omega,i+1,by omega,rfl,rfl,rfl,x02,by omega,by rw[hst];exact g6G2⟩
 ·obtain rfl:i=l.length:=by omega
  have mlt:aq .lss (.int .i64 (l.length:Nat)) (.int .i64 (l.length:Nat))=some (.bool false):=eH (by omega);rw[←hzl,List.take_length]at g6 hso;have C2:=vK F (h:={G with log:=[]}) (.of WG) hw gqG (spG.log []) hl hf hso;have C1:=CU F.p F.f35 F.f121 (h:={G with log:=[]}) (.of WG) hso hw.b;unfold bsB;generalize alB (l.zip f) (bsS w.1 (l.zip f))=al at*;generalize bsS w.1 (l.zip f)=s at*;have ks8:=bA hso.len;have ks9:=bV hso.len;have ksn:=hso.len;have kf8:=iq hf;have kf9:=fJ hf;cases hin:sIn s w.2 with
  |false=>
   rw[hin]at C1;refine Y20 ?_;refine FW.puD C1 (by(repeat apply aG rfl);apply ah rfl (aa rfl (dh (by exact rfl) (by assumption) (by assumption) (by assumption)) (by exact yd _)) rfl;exact bh) ?_;clear C1 C2;refine Y6 ?_;refine pU rfl rfl rfl (by exact rfl) (by exact rfl) (by exact rfl) (by assumption) (by(simp only[aH];assumption)) (by exact rfl) (by exact dB _) (by omega) (by omega) (by apply ah rfl (aa rfl (Am (by exact rfl) (by exact rfl)) (by exact BK _)) rfl;(repeat apply aG rfl);exact bh) ?_;refine Y5 ?_;refine aA ?_ (dF (own:=true) (s:=1) rfl ?_ ks9 ks8 (lU rfl rfl)) rfl
   ·rw[Heap.aB (by omega)];exact hLG
   ·exact YG
  |true=>
   rw[hin]at C1;refine Y20 ?_;refine FW.puD C1 (by(repeat apply aG rfl);apply ah rfl (aa rfl (dh (by exact rfl) (by assumption) (by assumption) (by assumption)) (by exact yd _)) rfl;exact bh) ?_;clear C1;refine Y5 ?_;refine FW.puD C2 (by(repeat apply aG rfl);apply ah rfl (aa rfl (dh (by exact rfl) (by assumption) (by assumption) (by assumption)) (by exact yd _)) rfl;exact bh) ?_;clear C2;refine bW rfl rfl rfl (by exact rfl) (by exact rfl) (by exact rfl) (uR (by exact rfl) (by exact rfl)) ?_;refine pU rfl rfl rfl (by exact rfl) (by exact rfl) (by exact rfl) (by assumption) (by(simp only[aH];assumption)) (by exact rfl) (by exact dB _) (by omega) (by omega) (by apply ah rfl (aa rfl (uR (by exact rfl) (by exact rfl)) (by exact BK _)) rfl;apply aG rfl;exact bh) ?_;refine Y5 ?_;refine aA ?_ (dF (own:=true) (s:=1) rfl ?_ ks9 ks8 (lU rfl rfl)) rfl
   ·rw[Heap.aB (by omega)];exact hLG
   ·exact YG
structure NdS (h:Heap) (nv:Value) (ns:List (List (List Nat))):Prop where
 ex:∃vals:List Value,aJ h 1 nv ns.length vals/\∀(i:Nat) (r:List (List Nat)),ns[i]? =some r->∃v,vals[i]? =some v/\SsQ h v r
theorem NdS.ext{h h':Heap}{nv:Value}{ns:List (List (List Nat))}(s:NdS h nv ns)(x:Ext h h'):NdS h' nv ns:=by
 obtain⟨vals,s1,s2⟩:=s.ex;exact⟨vals,s1.ext x,λi r hi=>by
  obtain⟨v,hv,sv⟩:=s2 i r hi;exact⟨v,hv,sv.ext x⟩⟩
theorem NdS.log{h:Heap}{nv:Value}{ns:List (List (List Nat))}(s:NdS h nv ns)(m:List Nat):NdS {h with log:=m} nv ns:=by
 obtain⟨vals,s1,s2⟩:=s.ex;exact⟨vals,s1.log m,λi r hi=>by
  obtain⟨v,hv,sv⟩:=s2 i r hi;exact⟨v,hv,sv.log m⟩⟩
theorem NdS.elem{h:Heap}{nv:Value}{ns:List (List (List Nat))}(s:NdS h nv ns){i:Nat}{r:List (List Nat)}(hi:ns[i]? =some r):
 ∃b o c vs own t v,nv= .slice (some ⟨b,o,none⟩) ns.length c/\h.get b=some (.cells vs own t)/\b<h.next/\bH vs (o+i*1)=some v/\SsQ h v r:=by
 obtain⟨vals,s1,s2⟩:=s.ex;obtain⟨v,hv,sv⟩:=s2 i r hi;have hlt:=(List.getElem?_eq_some_iff.1 hi).1;rcases aJ.inv s1 with⟨_,_,h0,_⟩|⟨b,o,cap,hs,s3,hc⟩
 ·omega
 ·obtain⟨vs,own,t,g1,g2⟩:=s3.obj;refine⟨b,o,cap,vs,own,t,v,hs,g1,s3.lt,?_,sv⟩;rw[bI,aT]at g2;rw[←g2,List.getElem?_take_of_lt (by omega),List.getElem?_drop]at hv;rw[cD,Nat.mul_one];exact hv
def jK(z:Zs)(s:List Nat)(r:List (List Nat)):Nat:=if r.any (λn=>sIn n s)then 1 else if r.any (λn=>alB z (iZ s n))then 3 else 2
theorem zq(F:Ca T){h:Heap}(hr:Rdy h){q:Nat}{w:List Nat×List Nat}(hw:IsW w){pv nv ov mv:Value}(gq:h.get q=some (.cells (quL w pv nv ov mv) true 1)){l:List Pb}(sp:PbS h pv l)(hl:l.length<=8){f:List Nat}(hf:f.length=8){s:List Nat}(hs:IsS s)
 {ns:List (List (List Nat))}(sn:NdS h nv ns)(hnn:ns.length<1000000){j:Nat}{r:List (List Nat)}(hj:ns[j]? =some r)(hrl:r.length<1000000):
 Pu T 51 [.pointer (some ⟨q,0,none⟩),fV f,sv s, .int .i64 (j:Nat)] h (.int .u8 ((jK (l.zip f) s r:Nat):Int)):=by
 refine .of F.p F.f207 hr rfl ?_;have hfc:cellsOf (fV f)=fL f:=by show(fL f).toArray.toList=_;simp
 have x0:Ext h ((h.push (.cells (cellsOf (fV f)) true 1)).push (.cells (cellsOf (sv s)) true 1)):=((Ext.refl h).push _).push _;have g0:((h.push (.cells (cellsOf (fV f)) true 1)).push (.cells (cellsOf (sv s)) true 1)).get h.next=some (.cells (fL f) true 1):=by rw[hfc];exact(z4 (Nat.lt_succ_self _)).trans (z3 h _)
 have g1:((h.push (.cells (cellsOf (fV f)) true 1)).push (.cells (cellsOf (sv s)) true 1)).get (h.next+1)=some (.cells (us s) true 1):=z3 _ _;have n0:((h.push (.cells (cellsOf (fV f)) true 1)).push (.cells (cellsOf (sv s)) true 1)).next=h.next+2:=rfl
 refine Y5 ?_;refine Nn ?_;generalize((h.push (.cells (cellsOf (fV f)) true 1)).push (.cells (cellsOf (sv s)) true 1))=H at*;have W:=x0.wf hr.wf;have hL:=x0.log.trans hr.log;have kqn:=hr.wf.bK gq;have gqH:=(x0.old _ kqn).trans gq;have spH:=sp.ext x0;have kn:=QW hw pv nv ov mv;have hjl:=(List.getElem?_eq_some_iff.1 hj).1;obtain⟨nb,no,nc,nvs,nown,nt,v,hnv,gn,hnb,gv,sr⟩:=(sn.ext x0).elem hj;subst hnv;have sr':=sr;obtain⟨a,c,rfl⟩:=sr.sl.form;have ks8:=bA hs.len;have ks9:=bV hs.len;have kf8:=iq hf;have kf9:=fJ hf;unfold jK;refine Y19 ?_
 refine cM (λm e ds h'=>∃i:Nat,i<=r.length/\m=r.length-i/\e=[(0, .pointer (some ⟨q,0,none⟩)),(5, .pointer (some ⟨h.next,0,none⟩)),(6, .pointer (some ⟨h.next+1,0,none⟩)),(9, .int .u8 ((if(r.take i).any (λn=>alB (l.zip f) (iZ s n))then 3 else 2:Nat):Int)),(18, .slice a r.length c),(19, .int .i64 (r.length:Nat)),(20, .int .i64 (i:Nat))]/\ds=[]/\Ext H h'∧(r.take i).any (λn=>sIn n s)=false)
  ⟨0,Nat.zero_le _,rfl,rfl,rfl, .refl H,rfl⟩ ?_
 rintro m e ds G ⟨i,hin,rfl,rfl,rfl,xG,hno⟩;have WG:=xG.wf W;have hLG:=xG.log.trans hL;have nG:=xG.next
 by_cases hlt:i<r.length
 ·obtain⟨x,hx⟩:∃s,r[i]? =some s:=⟨r[i],List.getElem?_eq_getElem hlt⟩;have hxs:=sr'.ok x (List.mem_of_getElem? hx);obtain⟨b,o,c3,vs,own,tt,hv,gl,hbl,el⟩:=(sr'.ext xG).elem hx;cases hv;have kx8:=bA hxs.len;have kx9:=bV hxs.len;have kxn:=hxs.len;have mlt:aq .lss (.int .i64 (i:Nat)) (.int .i64 (r.length:Nat))=some (.bool true):=ei (by omega);have g0G:=(xG.old _ (by omega)).trans g0;have g1G:=(xG.old _ (by omega)).trans g1;have gqG:=(xG.old _ (by omega)).trans gqH;have hs1:(r.take (i+1)).any (λn=>sIn n s)=((r.take i).any (λn=>sIn n s)||sIn x s):=by rw[fQ hx,List.any_append];simp
  have hs2:(r.take (i+1)).any (λn=>alB (l.zip f) (iZ s n))=((r.take i).any (λn=>alB (l.zip f) (iZ s n))||alB (l.zip f) (iZ s x)):=by rw[fQ hx,List.any_append];simp
  have hyes:sIn x s=true->r.any (λn=>sIn n s)=true:=λq=>List.any_eq_true.2 ⟨x,List.mem_of_getElem? hx,q⟩;generalize(r.take i).any (λn=>alB (l.zip f) (iZ s n))=bb at*;refine Y9 ?_;refine cW (E0:=[(0, .pointer (some ⟨q,0,none⟩)),(5, .pointer (some ⟨h.next,0,none⟩)),(6, .pointer (some ⟨h.next+1,0,none⟩)),(9, .int .u8 ((if bb then 3 else 2:Nat):Int)),(11, .pointer (some ⟨G.next,0,none⟩)),(18, .slice (some ⟨b,o,none⟩) r.length c),(19, .int .i64 (r.length:Nat)),(20, .int .i64 (i:Nat))]) (P:=λh'=>Ext G h'∧h'.next=G.next+1/\h'.get G.next=some (.cells (us x) true 1)) ?_ ?_
  ·refine Y4 ?_;refine aD (bZ (by exact rfl) (by exact rfl) YG (by(simp only[aH];assumption)) (by exact rfl) (by exact dB _)) ?_;refine bL ?_;refine y1 ?_;exact⟨rfl,rfl,rfl,ff (by omega) _ _,rfl,YG⟩
  rintro G2 ⟨x2,n2,g2⟩;have WG2:=x2.wf WG;have hLG2:=x2.log.trans hLG;have g0G2:=(x2.old _ (by omega)).trans g0G;have g1G2:=(x2.old _ (by omega)).trans g1G;have gqG2:=(x2.old _ (by omega)).trans gqG;have x02:=xG.trans x2;have C1:=CU F.p F.f35 F.f121 (h:={G2 with log:=[]}) (.of WG2) hxs hs;have C2:=Ga F.p F.f174 (h:={G2 with log:=[]}) (.of WG2) hs hxs;have C3:=vK F (h:={G2 with log:=[]}) (.of WG2) hw gqG2 ((spH.ext x02).log []) hl hf (hs.join hxs);clear g0G g1G gqG gl el;generalize alB (l.zip f) (iZ s x)=ab at*;generalize iZ s x=jx at*;cases hin2:sIn x s with
  |true=>
   rw[hin2]at C1;rw[if_pos (hyes hin2)];refine Y5 ?_;refine FW.pu C1 ?_;refine Y7 ?_;refine UK (by exact rfl) ?_;refine UK (by exact rfl) ?_;refine Y9 ?_;exact aA hLG2 rfl rfl
  |false=>
   rw[hin2]at C1 hs1;rw[hno]at hs1;cases ab with
   |true=>
    rw[Bool.or_true]at hs2;refine Y5 ?_;refine FW.pu C1 ?_;clear C1;refine Y10 ?_;refine FW.puD C2 (by(repeat apply aG rfl);apply ah rfl (aa rfl (dh (by exact rfl) (by assumption) (by assumption) (by assumption)) (by exact yc _)) rfl;apply ah rfl (aa rfl (eG (by exact rfl)) (by exact aX _)) rfl;exact bh) ?_;clear C2;skip;refine qC ?_;refine FW.puD C3 (by(repeat apply aG rfl);exact bh) ?_;clear C3;refine Y7 ?_;refine bL ?_;refine Y8 ?_;exact⟨r.length-(i+1),by omega,i+1,by omega,rfl,by rw[hs2];rfl,rfl,x02,hs1⟩
   |false=>
    rw[Bool.or_false]at hs2;refine Y5 ?_;refine FW.pu C1 ?_;clear C1;refine Y10 ?_;refine FW.puD C2 (by(repeat apply aG rfl);apply ah rfl (aa rfl (dh (by exact rfl) (by assumption) (by assumption) (by assumption)) (by exact yc _)) rfl;apply ah rfl (aa rfl (eG (by exact rfl)) (by exact aX _)) rfl;exact bh) ?_;clear C2;skip;refine qC ?_;refine FW.puD C3 (by(repeat apply aG rfl);exact bh) ?_;clear C3;refine Y13 ?_;exact⟨r.length-(i+1),by omega,i+1,by omega,rfl,by rw[hs2],rfl,x02,hs1⟩
 ·obtain rfl:i=r.length:=by omega
  have mlt:aq .lss (.int .i64 (r.length:Nat)) (.int .i64 (r.length:Nat))=some (.bool false):=eH (by omega);rw[List.take_length]at hno⊢;rw[if_neg (by rw[hno];simp)];refine Y15 ?_;exact aA hLG rfl rfl
end Go.A.Pk
end
section
namespace Go.Proofs
open Go.Shelf
def Tryz.qU:Go.Shelf.Ren:=⟨fun|6=>57|15=>76|14=>75|28=>103|29=>104|20=>95|21=>96|22=>97|23=>98|24=>99|25=>100|26=>101|27=>102|46=>108|47=>109|48=>110|49=>111|50=>112|57=>113|n=>n,fun|22=>28|24=>24|25=>86|3=>3|39=>80|0=>0|53=>162|55=>22|4=>4|46=>156|45=>155|50=>72|5=>5|9=>9|66=>165|70=>169|76=>171|77=>172|n=>n,fun|n=>n⟩
theorem Tryz.pe:Go.Proofs.SlLaysF0.n6 Tryz.prog Tryz.qU:={
 mixed:=by kernel_rfl
 f6:=⟨Tryz.f57.name,by decide,Tryz.func57.trans (congrArg some (by kernel_rfl))⟩
 f14:=⟨Tryz.f75.name,by decide,Tryz.func75.trans (congrArg some (by kernel_rfl))⟩
 f15:=Tryz.func76.trans (congrArg some (by kernel_rfl))
 f20:=⟨Tryz.f95.name,by decide,Tryz.func95.trans (congrArg some (by kernel_rfl))⟩
 f21:=⟨Tryz.f96.name,by decide,Tryz.func96.trans (congrArg some (by kernel_rfl))⟩
 f22:=⟨Tryz.f97.name,by decide,Tryz.func97.trans (congrArg some (by kernel_rfl))⟩
 f23:=⟨Tryz.f98.name,by decide,Tryz.func98.trans (congrArg some (by kernel_rfl))⟩
 f24:=⟨Tryz.f99.name,by decide,Tryz.func99.trans (congrArg some (by kernel_rfl))⟩
 f25:=⟨Tryz.f100.name,by decide,Tryz.func100.trans (congrArg some (by kernel_rfl))⟩
 f26:=⟨Tryz.f101.name,by decide,Tryz.func101.trans (congrArg some (by kernel_rfl))⟩
 f27:=⟨Tryz.f102.name,by decide,Tryz.func102.trans (congrArg some (by kernel_rfl))⟩
 f28:=Tryz.func103.trans (congrArg some (by kernel_rfl))
 f29:=Tryz.func104.trans (congrArg some (by kernel_rfl))
 f46:=⟨Tryz.f108.name,by decide,Tryz.func108.trans (congrArg some (by kernel_rfl))⟩
 f47:=Tryz.func109.trans (congrArg some (by kernel_rfl))
 f48:=Tryz.func110.trans (congrArg some (by kernel_rfl))
 f49:=⟨Tryz.f111.name,by decide,Tryz.func111.trans (congrArg some (by kernel_rfl))⟩
 f50:=⟨Tryz.f112.name,by decide,Tryz.func112.trans (congrArg some (by kernel_rfl))⟩
 f57:=⟨Tryz.f113.name,by decide,Tryz.func113.trans (congrArg some (by kernel_rfl))⟩
 t0:=Tryz.underlying0
 a0:=Tryz.isAgg0
 z0:=Tryz.sizeOf0
 v0:=Tryz.zeroValue0
 t3:=Tryz.underlying3
 a3:=Tryz.isAgg3
 z3:=Tryz.sizeOf3
 v3:=Tryz.zeroValue3
 t4:=Tryz.underlying4
 a4:=Tryz.isAgg4
 z4:=Tryz.sizeOf4
 v4:=Tryz.zeroValue4
 t5:=Tryz.underlying5
 a5:=Tryz.isAgg5
 z5:=Tryz.sizeOf5
 v5:=Tryz.zeroValue5
 t9:=Tryz.underlying9
 a9:=Tryz.isAgg9
 z9:=Tryz.sizeOf9
 v9:=Tryz.zeroValue9
 t22:=Tryz.underlying28
 a22:=Tryz.isAgg28
 z22:=Tryz.sizeOf28
 v22:=Tryz.zeroValue28
 t25:=Tryz.underlying86
 a25:=Tryz.isAgg86
 z25:=Tryz.sizeOf86
 v25:=Tryz.zeroValue86
 t39:=Tryz.underlying80
 a39:=Tryz.isAgg80
 z39:=Tryz.sizeOf80
 v39:=Tryz.zeroValue80
 t45:=Tryz.underlying155
 a45:=Tryz.isAgg155
 z45:=Tryz.sizeOf155
 v45:=Tryz.zeroValue155
 t46:=Tryz.underlying156
 a46:=Tryz.isAgg156
 z46:=Tryz.sizeOf156
 v46:=Tryz.zeroValue156
 t50:=Tryz.underlying72
 a50:=Tryz.isAgg72
 z50:=Tryz.sizeOf72
 v50:=Tryz.zeroValue72
 t53:=Tryz.underlying162
 a53:=Tryz.isAgg162
 z53:=Tryz.sizeOf162
 v53:=Tryz.zeroValue162
 t55:=Tryz.underlying22
 a55:=Tryz.isAgg22
 z55:=Tryz.sizeOf22
 v55:=Tryz.zeroValue22
 t66:=Tryz.underlying165
 a66:=Tryz.isAgg165
 z66:=Tryz.sizeOf165
 v66:=Tryz.zeroValue165
 t70:=Tryz.underlying169
 a70:=Tryz.isAgg169
 z70:=Tryz.sizeOf169
 v70:=Tryz.zeroValue169
 t76:=Tryz.underlying171
 a76:=Tryz.isAgg171
 z76:=Tryz.sizeOf171
 v76:=Tryz.zeroValue171
 t77:=Tryz.underlying172
 a77:=Tryz.isAgg172
 z77:=Tryz.sizeOf172
 v77:=Tryz.zeroValue172}
open Go.RowKit Go.Lib Go.Sort in
theorem Tryz.slices_SortFunc_none(p:Option Addr)(cap:Nat)(fv:Value)(w:World):
 Calls Tryz.prog 57 #[.slice p 0 cap,fv] w λe w'=>e= .returned (.tuple #[])/\w'=w:=AnyF.slices_SortFunc_none Tryz.pe p cap fv w
end Go.Proofs
end
section
namespace Go.A.Pk
open Go Go.Proofs Go.Sort
theorem mV:∀{a b:List Nat},a.length=b.length->cmpL b a= -cmpL a b
 |[],[],_=>rfl
 |[],_::_,h=>by cases h
 |_::_,[],h=>by cases h
 |x::a,y::b,h=>by
  unfold cmpL;by_cases h1:x<y
  ·rw[if_neg (by omega),if_pos h1,if_pos h1];rfl
  ·by_cases h2:y<x
   ·rw[if_pos h2,if_neg h1,if_pos h2]
   ·rw[if_neg h2,if_neg h1,if_neg h1,if_neg h2];exact mV (by simpa using h)
theorem qd:∀{a b:List Nat},a.length=b.length->cmpL a b=0->a=b
 |[],[],_,_=>rfl
 |[],_::_,h,_=>by cases h
 |_::_,[],h,_=>by cases h
 |x::a,y::b,h,h0=>by
  unfold cmpL at h0;by_cases h1:x<y
  ·rw[if_pos h1]at h0;cases h0
  ·by_cases h2:y<x
   ·rw[if_neg h1,if_pos h2]at h0;cases h0
   ·rw[if_neg h1,if_neg h2]at h0;rw[show x=y by omega,qd (by simpa using h) h0]
theorem qH:∀{a b c:List Nat},a.length=b.length->b.length=c.length->cmpL a b<0->cmpL b c<0->cmpL a c<0
 |[],[],_,_,_,h,_=>by unfold cmpL at h;omega
 |[],_::_,_,h,_,_,_=>by cases h
 |_::_,[],_,h,_,_,_=>by cases h
 |_::_,_::_,[],_,h,_,_=>by cases h
 |x::a,y::b,z::c,h1,h2,q1,q2=>by
  unfold cmpL at q1 q2⊢;by_cases a1:x<y
  ·by_cases b1:y<z
   ·rw[if_pos (show x<z by omega)];omega
   ·rw[if_neg b1]at q2;by_cases b2:z<y
    ·rw[if_pos b2]at q2;omega
    ·rw[if_pos (show x<z by omega)];omega
  ·rw[if_neg a1]at q1;by_cases a2:y<x
   ·rw[if_pos a2]at q1;omega
   ·rw[if_neg a2]at q1;by_cases b1:y<z
    ·rw[if_pos (show x<z by omega)];omega
    ·rw[if_neg b1]at q2;by_cases b2:z<y
     ·rw[if_pos b2]at q2;omega
     ·rw[if_neg b2]at q2;rw[if_neg (show¬x<z by omega),if_neg (show¬z<x by omega)];exact qH (by simpa using h1) (by simpa using h2) q1 q2
abbrev Sol:={l:List Nat // IsS l}
instance:Inhabited Sol:=⟨⟨s0,zP⟩⟩
def vX(x:Sol):List Value:=us x.1
def cfS(x y:Sol):Int:=cmpL x.1 y.1
theorem jI(x y:Sol):x.1.length=y.1.length:=x.2.len.trans y.2.len.symm
theorem NZ:SWO (ltOf cfS):=by
 refine⟨λx=> ?_,λx y z h1 h2=> ?_,λx y z h1 h2=> ?_⟩
 ·unfold ltOf cfS;rw[tw];rfl
 ·unfold ltOf cfS at*;rw[decide_eq_true_eq]at*;exact qH (jI x y) (jI y z) h1 h2
 ·unfold ltOf cfS at*;rw[decide_eq_false_iff_not]at*;have a1:=mV (jI x y);have a2:=mV (jI y z);have a3:=mV (jI x z);rcases Int.lt_or_eq_of_le (show cmpL y.1 x.1<=0 by omega)with q|q
  ·rcases Int.lt_or_eq_of_le (show cmpL z.1 y.1<=0 by omega)with p|p
   ·have:=qH (jI z y) (jI y x) p q;omega
   ·have e:=qd (jI z y) p;rw[e];omega
  ·have e:=qd (jI y x) q;rw[←e];omega
theorem JE(x y:Sol)(h1:ltOf cfS x y=false)(h2:ltOf cfS y x=false):x=y:=by
 unfold ltOf cfS at*;rw[decide_eq_false_iff_not]at*;have a1:=mV (jI x y);exact Subtype.ext (qd (jI x y) (by omega))
theorem CB(x:Sol):(vX x).length=8:=by unfold vX;rw[aH,x.2.len]
theorem F3(d:Array Sol):flatK vX 8 d=(ssL (d.toList.map (·.1))).toArray:=by
 have hok:∀s∈d.toList.map (·.1),IsS s:=λs hs=>by
  obtain⟨x,_,rfl⟩:=List.mem_map.1 hs;exact x.2
 have hl:(ssL (d.toList.map (·.1))).length=d.size*8:=by rw[fM hok];simp
 apply ext_get! ((size_flatK vX 8 d).trans hl.symm);intro t ht;have ht':t<d.size*8:=by simpa using ht
 rw[get_flatK _ _ _ t ht'];have hd:t / 8<d.size:=by omega
 have hx:(d.toList.map (·.1))[t / 8]? =some (d[t / 8]!).1:=by
  rw[List.getElem?_map,Array.getElem?_toList,Array.getElem?_eq_getElem hd,getElem!_pos d (t / 8) hd];rfl
 have h8:=GD hok hx;have e:((ssL (d.toList.map (·.1))).drop (t / 8*8))[t % 8]? =(us (d[t / 8]!).1)[t % 8]? :=by
  rw[←h8,List.getElem?_take_of_lt (by omega)]
 rw[List.getElem?_drop,show t / 8*8+t % 8=t by omega]at e;have e1:(us (d[t / 8]!).1).length=8:=CB _;rw[List.getElem?_eq_getElem (by omega),List.getElem?_eq_getElem (by omega),Option.some.injEq]at e;show(us (d[t / 8]!).1)[t % 8]! =(ssL (d.toList.map (·.1))).toArray[t]!;rw[getElem!_pos _ (t % 8) (by omega),getElem!_pos _ t (show t<(ssL (d.toList.map (·.1))).length by rw[hl];exact ht'),←e];rfl
theorem CA:Rdy (⟨[],1000,[]⟩:Heap):=⟨⟨by simp,by intro b hb;simp at hb⟩,rfl⟩
theorem LR.flat{μ:Mu}:∀{l:List Value},(∀a∈l,cG a=true)->LR μ l l
 |[],_=> .nil
 |a::l,h=> .cons (VR.cG (h a List.mem_cons_self)).1 (LR.flat λx hx=>h x (List.mem_cons_of_mem _ hx))
theorem uo{P:Program}{T:Nat->Option an}(S:ef P T)(hg:P.globals.size<=1000){f:Nat}{args:List Value}{v:Value}(hnc:gi (T f)=false)(H:Pu T f args ⟨[],1000,[]⟩ v)(ha:∀a∈args,cG a=true)(hv:cG v=true)(w:World):
 Calls P f args.toArray w λe w'=>e= .returned v/\∃q os',w'=Sort.grow (w.drewN q) os':=by
 obtain⟨r',h',⟨m,hm⟩,rfl,rfl⟩:=H;have hrun:=hm m (Nat.le_refl _);refine(mh S hrun rfl hnc (R.none (P:=P) (w:=w) hg) (LR.flat ha)).mono λe w' hq=> ?_;obtain⟨μ',q1,q2,q3⟩:=hq;cases e with
 |returned v'=>
  have hv':VR μ' v v':=q1;rw[(VR.cG hv).2 _ hv'];have hk:∀r,r<w.heap.size->w'.heap[r]? =w.heap[r]? :=λr hr=>q3.keep r hr λ⟨b,o,k,g,_⟩=>by cases g
  refine⟨rfl,w'.drawn-w.drawn,w'.heap.extract w.heap.size w'.heap.size,?_⟩;have hle:=q3.le;have hh:w'.heap=w.heap++w'.heap.extract w.heap.size w'.heap.size:=by
   apply Array.ext_getElem?;intro i;by_cases hi:i<w.heap.size
   ·rw[hk i hi,Array.getElem?_append_left hi]
   ·rw[Array.getElem?_append_right (by omega),Array.getElem?_extract];by_cases h2:i<w'.heap.size
    ·rw[if_pos (by omega)];congr 1;omega
    ·rw[if_neg (by omega),Array.getElem?_eq_none (by omega)]
  obtain⟨s1,s2,s3,s4⟩:=q3.same;cases w with
  |mk a1 a2 a3 a4 a5=>
   cases w' with
   |mk b1 b2 b3 b4 b5=>
    dsimp only at s1 s2 s3 s4 hh;subst s1;subst s2;subst s3;show World.mk b1 _ b3 _ _=World.mk (a1++_) _ (a3+(b3-a3)) _ _;rw[show a3+(b3-a3)=b3 by omega];congr 1
 |panicked _=>exact q1.elim
 |outgrown=>exact q1.elim
theorem VU:aW Tryz.prog Tryz.f30 (ksO f168)=some f168:=by kernel_rfl
theorem VV:aW Tryz.prog Tryz.f82 (ksO f190)=some f190:=by kernel_rfl
theorem VW:aW Tryz.prog Tryz.f59 (ksO f191)=some f191:=by kernel_rfl
theorem VX:aW Tryz.prog Tryz.f77 (ksO f256)=some f256:=by kernel_rfl
theorem VY:aW Tryz.prog Tryz.f105 (ksO f315)=some f315:=by kernel_rfl
def Nf:Tr:=(.node (.node (.node .nil 30 f168 .nil) 59 f191 .nil) 77 f256 (.node (.node .nil 82 f190 .nil) 105 f315 .nil))
def TC:Nat->Option an:=Nf.get
theorem VP:Nf.all (Entry Tryz.prog):=by
 unfold Nf;exact(Tr.af (Tr.af (Tr.af Tr.all_nil (.of Tryz.func30 VU) Tr.all_nil) (.of Tryz.func59 VW) Tr.all_nil) (.of Tryz.func77 VX) (Tr.af (Tr.af Tr.all_nil (.of Tryz.func82 VV) Tr.all_nil) (.of Tryz.func105 VY) Tr.all_nil))
theorem Fo:ef Tryz.prog TC:=qk (by kernel_rfl) VP
theorem UF:yK TC:={p:=Fo.aF,f191:=by kernel_rfl,f256:=by kernel_rfl,f315:=by kernel_rfl}
theorem G8(k:Nat)(hk:k=30∨k=82)(x y:Sol)(w:World):Calls Tryz.prog k #[.agg (vX x).toArray, .agg (vX y).toArray] w λe w'=>e= .returned (.int .i64 (cfS x y))/\∃q os',w'=Sort.grow (w.drewN q) os':=by
 have hn:∀a∈[sv x.1,sv y.1],cG a=true:=λa ha=>by
  rcases List.mem_cons.1 ha with rfl|ha
  ·exact ja _
  ·rw[List.mem_singleton.1 ha];exact ja _
 rcases hk with rfl|rfl
 ·exact uo Fo mY (by kernel_rfl) (Oy UF (by kernel_rfl) CA x.2 y.2) hn rfl w
 ·exact uo Fo mY (by kernel_rfl) (Oz UF (by kernel_rfl) CA x.2 y.2) hn rfl w
theorem OG(l:List (List Nat))(h:∀s∈l,IsS s):∃d:List Sol,d.map (·.1)=l:=⟨l.attach.map λx=>⟨x.1,h _ x.2⟩,by simp⟩
theorem MK(d:List Sol):(d.mergeSort λx y=> !(ltOf cfS) y x).map (·.1)=eU (d.map (·.1)):=by
 unfold eU;exact List.map_mergeSort λa _ b _=>rfl
theorem Ep(k:Nat)(hk:k=30∨k=82):∀args w,(callFunc k args).run Tryz.prog w= .ok (.enter k args) w:=by
 rcases hk with rfl|rfl
 ·exact enters_of Tryz.func30 (by kernel_rfl) rfl
 ·exact enters_of Tryz.func82 (by kernel_rfl) rfl
theorem U5:Entry Tryz.prog 57 (.kT (pK 30 82)):=by
 refine .kT (Ia Tryz.func57 (of_decide_eq_true (by kernel_rfl)) (by kernel_rfl) (λk p cap w=>Tryz.slices_SortFunc_none p cap _ w) ?_);intro k hk blk off cap l w hok hH hblk hl;obtain⟨d,hd⟩:=OG l hok;have hfl:flatK vX 8 d.toArray=(ssL l).toArray:=by rw[F3];simp[hd]
 have hdl:d.length=l.length:=by rw[←hd];simp
 have h:=AnyQ.slices_SortFunc_total Tryz.pe 8 (Tryz.isAgg24) (Tryz.sizeOf24) vX CB (λx v hv=>by
  obtain⟨n,_,rfl⟩:=List.mem_map.1 hv;rfl) cfS NZ k #[] blk off cap d.toArray w (Ep k hk) (λm os dk hs x y=>by
   have:=G8 k hk x y (sortWorldK vX 8 w blk off m dk os);simpa using this) (by
   show Holds id w blk off (flatK vX 8 d.toArray);rw[hfl];exact hH) hblk (by simpa[hdl]using hl) JE
 have hs:d.toArray.size=l.length:=by simpa using hdl
 rw[hs]at h;refine h.mono λe w' ⟨he,n,os,hw⟩=>⟨he,n,os,?_⟩;rw[hw];show Sort.grow (putRow id (Sort.ahead w n) blk off (flatK vX 8 _)) os=_;rw[F3];congr 2;have:=MK d;rw[hd]at this;simpa using congrArg ssL this
end Go.A.Pk
end
section
namespace Go.A.Pk
open Go.Sort Go.Proofs
def SLt(a b:List Nat):Prop:=cmpL a b<0
theorem zF{w:List Nat×List Nat}{o q:List Nat}:q∈qz w o↔ ∃p∈nw w.2 o,fH p w.1=q:=by
 unfold qz;constructor
 ·intro h;exact List.mem_map.1 (iM.1 (qe h))
 ·intro h;exact rU (iM.2 (List.mem_map.2 h))
theorem L9{a b p:List Nat}(hb:¬b=s0):p∈nw a b↔ ∃f∈gY a b,f.s=p:=by
 unfold nw;rw[if_neg hb];constructor
 ·intro h;exact List.mem_map.1 (iM.1 (qe h))
 ·intro h;exact rU (iM.2 (List.mem_map.2 h))
theorem Dl{α:Type}[DecidableEq α]:∀{l k:List α},l.Nodup->(∀x∈l,x∈k)->l.length<=k.length
 |[],_,_,_=>Nat.zero_le _
 |a::l,k,hn,h=>by
  obtain⟨h1,h2⟩:=List.nodup_cons.1 hn;have ha:=h a List.mem_cons_self;have ih:=Dl (k:=k.erase a) h2 λx hx=>(List.mem_erase_of_ne (λ(e:x=a)=>h1 (by rw[←e];exact hx))).2 (h x (List.mem_cons_of_mem _ hx));rw[List.length_erase_of_mem ha]at ih;have:=List.length_pos_of_mem ha;rw[List.length_cons];omega
theorem NV{n m:Nat}(h:ceN n=ceN m):n=m:=by
 unfold ceN at h;injection h with h1 h2 h3
 omega
theorem Cu(s:List Nat)(n:Nat):(aU s n).Nodup:=by
 unfold aU;refine List.Pairwise.filter _ ?_;rw[List.pairwise_map];exact List.nodup_range.imp λ{a b} h e=>h (NV e)
theorem zx{f:Ce->Ce}{s:List Nat}(hin:∀c∈aU s 512,inG (f c)=true)(hf:∀c d,f c=f d->c=d):ij s<=ij (mK f s):=by
 unfold ij;rw[←List.length_map (f:=f)];refine Dl ?_ λx hx=> ?_
 ·unfold List.Nodup;rw[List.pairwise_map];exact(Cu s 512).imp λ{a b} h e=>h (hf a b e)
 ·obtain⟨c,hc,rfl⟩:=List.mem_map.1 hx;exact dX.2 ((sB hin _).2 ⟨c,dX.1 hc,rfl⟩)
theorem MB(k:Nat)(c d:Ce)(h:gK k c=gK k d):c=d:=by
 obtain⟨c1,c2,c3⟩:=c;obtain⟨d1,d2,d3⟩:=d;unfold gK at h;split at h<;>(injection h with h1 h2 h3;(try dsimp only at h1 h2 h3);congr 1<;>omega)
theorem DL:∀(n:Nat) (c d:Ce),sN n c=sN n d->c=d
 |0,_,_,h=>h
 |n+1,c,d,h=>by
  refine DL n c d ?_;unfold sN ME at h;injection h with h1 h2 h3
  generalize sN n c=x at*;generalize sN n d=y at*;obtain⟨x1,x2,x3⟩:=x;obtain⟨q1,q2,q3⟩:=y;dsimp only at h1 h2 h3;congr 1;omega
theorem Nh(t:Nat)(c d:Ce)(h:kM t c=kM t d):c=d:=MB _ _ _ (DL _ _ _ h)
theorem SR(x y z:Int)(c d:Ce)(h:shC x y z c=shC x y z d):c=d:=by
 obtain⟨c1,c2,c3⟩:=c;obtain⟨d1,d2,d3⟩:=d;unfold shC at h;injection h with h1 h2 h3
 dsimp only at h1 h2 h3;congr 1<;>omega
theorem Bb{b:List Nat}{t:Nat}{x y z:Int}(r:Rng (dS (fI b t)).1 x y z):ij b<=ij (mK (shC x y z) (fI b t)):=
 Nat.le_trans (zx (λc hc=>vo c (jQ hc)) (Nh t)) (zx (λc hc=>r.all (dX.1 hc)) (SR x y z))
def Q9(a b p:List Nat):Prop:=∃t,t<24/\∃x y z,Rng (dS (fI b t)).1 x y z/\mK (shC x y z) (fI b t)=p/\sIn p a=true
theorem AD{a b:List Nat}(ha:IsS a)(hb:IsS b)(h0:¬b=s0){p:List Nat}:(∃f∈gY a b,f.s=p)↔Q9 a b p:=by
 have hsp:=λt=>sV b t;constructor
 ·rintro⟨f,hf,rfl⟩;unfold gY at hf;split at hf
  ·cases hf
  ·obtain⟨t,ht,hf⟩:=List.mem_flatMap.1 hf;have bi:=nN (fI b t);have bia:=nN a;unfold oT Hg wo tD uQ at hf;obtain⟨z,hz,hf⟩:=List.mem_flatMap.1 hf;obtain⟨y,hy,hf⟩:=List.mem_flatMap.1 hf;obtain⟨x,hx,hf⟩:=List.mem_flatMap.1 hf;rw[BW]at hx hy hz;obtain⟨⟨bl1,bl2,bl3⟩,⟨bh1,bh2,bh3⟩⟩:=bia;have r:Rng (dS (fI b t)).1 x y z:=⟨by omega,by omega,by omega⟩;split at hf
   ·rename_i hin;rw[List.mem_singleton.1 hf];refine⟨t,List.mem_range.1 ht,x,y,z,r,?_,hin⟩;exact(Gf (hsp t) r).symm
   ·cases hf
 ·rintro⟨t,ht,x,y,z,r,rfl,hin⟩;have hsub:=(dP (wN r) ha).1 hin;have hcell:∀c,ej (fI b t) c=true->ej a (shC x y z c)=true:=λc hc=>hsub _ ((sB (λd hd=>r.all (dX.1 hd)) _).2 ⟨c,hc,rfl⟩);have hall:∀x∈aU b 512,inG (kM t x)=true:=λc hc=>vo c (jQ hc);have hs0:¬fI b t=s0:=by
   intro q;obtain⟨c,hc⟩:=zW hb h0;have:=(sB hall (kM t c)).2 ⟨c,hc,rfl⟩;rw[show mK (kM t) b=s0 from q,sP]at this;cases this
  obtain⟨c1,hc1⟩:=zW (hsp t) hs0;have k1:=rM (hcell c1 hc1);obtain⟨k2x,k2y,k2z⟩:=nU.1 (Kc hc1);unfold shC at k1;dsimp only at k1;have lo:=Rn hs0 (x:=(dS a).1.lo.x-x) (y:=(dS a).1.lo.y-y) (z:=(dS a).1.lo.z-z) (by omega) (by omega) (by omega) λc hc=>by
   have:=rM (hcell c hc);unfold shC at this;dsimp only at this;omega
  have hi:=Ro hs0 (x:=(dS a).1.hi.x-x) (y:=(dS a).1.hi.y-y) (z:=(dS a).1.hi.z-z) (by omega) (by omega) (by omega) λc hc=>by
   have:=rM (hcell c hc);unfold shC at this;dsimp only at this;omega
  have hcnt:¬ij a<ij b:=by
   have h1:=Bb r;have h2:=Sub.cnt hsub;omega
  have h0a:¬a=s0:=by
   intro q;have:=hcell c1 hc1;rw[q,sP]at this;cases this
  have hle:=Gf (hsp t) r;refine⟨⟨t,x,y,z,kJ (fI b t) (dS (fI b t)).1 x y z⟩,?_,hle⟩;unfold gY;rw[if_neg (λq=>q.elim h0a hcnt)];refine List.mem_flatMap.2 ⟨t,List.mem_range.2 ht,?_⟩;unfold oT Hg wo tD uQ;refine List.mem_flatMap.2 ⟨z,BW.2 (by omega),List.mem_flatMap.2 ⟨y,BW.2 (by omega),List.mem_flatMap.2 ⟨x,BW.2 (by omega),?_⟩⟩⟩;rw[if_pos (by rw[hle];exact hin)];exact List.mem_singleton.2 rfl
theorem vh{a b p:List Nat}(ha:IsS a)(hb:IsS b)(h0:¬b=s0):p∈nw a b↔Q9 a b p:=by
 rw[L9 h0,AD ha hb h0]
theorem AB{a b:List Nat}(ha:IsS a)(hb:IsS b)(h0:¬b=s0):wm a b=true↔ ∃p,Q9 a b p:=by
 rw[Oh h0];constructor
 ·intro h;cases hl:gY a b with
  |nil=>rw[hl]at h;cases h
  |cons f r=>exact⟨f.s,(AD ha hb h0).1 ⟨f,by rw[hl];exact List.mem_cons_self,rfl⟩⟩
 ·rintro⟨p,hp⟩;obtain⟨f,hf,_⟩:=(AD ha hb h0).2 hp;cases hl:gY a b with
  |nil=>rw[hl]at hf;cases hf
  |cons f r=>rfl
end Go.A.Pk
end
section
namespace Go.A.Pk
variable {T:Nat->Option an}
theorem Iq{a b c:List Nat}(ha:IsS a)(hb:IsS b)(hc:IsS c)(h1:sIn a b=true)(h2:sIn b c=true):sIn a c=true:=
 (dP ha hc).2 λx hx=>(dP hb hc).1 h2 x ((dP ha hb).1 h1 x hx)
theorem filter_lt{α:Type}{p q:α->Bool}(h:∀x,p x=true->q x=true):∀{l:List α} {x:α},x∈l->q x=true->p x=false->(l.filter p).length<(l.filter q).length
 |[],_,hx,_,_=>by cases hx
 |a::l,x,hx,hq,hp=>by
  rw[List.filter_cons,List.filter_cons];rcases List.mem_cons.1 hx with rfl|hx
  ·rw[if_neg (by rw[hp];simp),if_pos hq,List.length_cons];exact Nat.lt_succ_of_le (filter_le h l)
  ·have ih:=filter_lt h hx hq hp;by_cases ha:p a=true
   ·rw[if_pos ha,if_pos (h a ha),List.length_cons,List.length_cons];omega
   ·rw[if_neg ha];split
    ·rw[List.length_cons];omega
    ·exact ih
theorem Rt{a b:List Nat}(ha:IsS a)(hb:IsS b)(h:sIn a b=true)(hne:a≠b):ij a<ij b:=by
 have hs:=(dP ha hb).1 h;have hex:∃c,ej b c=true/\ej a c=false:=by
  rcases Classical.em (∃c,ej b c=true/\ej a c=false)with q|q
  ·exact q
  ·exfalso;apply hne;refine u0 ha hb λz i hz hi=> ?_;cases h1:ej a (eN z i)with
   |true=>rw[hs _ h1]
   |false=>
    cases h2:ej b (eN z i)with
    |false=>rfl
    |true=>exact absurd ⟨_,h2,h1⟩ q
 obtain⟨c,h1,h2⟩:=hex;unfold ij aU;exact filter_lt hs (List.mem_filter.1 (dX.2 h1)).1 h1 h2
theorem Db{r:List (List Nat)}(hr:∀s∈r,IsS s){t:List Nat}(ht:IsS t):∀(n:Nat) {q:List Nat},ij q<=n->q∈r->sIn q t=true->∃y∈r,wR r y=false/\sIn y t=true
 |n,q,hn,hq,hin=>by
  cases hm:wR r q with
  |false=>exact⟨q,hq,hm,hin⟩
  |true=>
   unfold wR at hm;obtain⟨y,hy,h2⟩:=List.any_eq_true.1 hm;rw[Bool.and_eq_true,Bool.not_eq_true',decide_eq_false_iff_not]at h2;have hlt:=Rt (hr y hy) (hr q hq) h2.2 h2.1;cases n with
   |zero=>omega
   |succ n=>exact Db hr ht n (by omega) hy (Iq (hr y hy) (hr q hq) ht h2.2 hin)
theorem sF{w:List Nat×List Nat}(hw:IsW w){o s:List Nat}(h:s∈bQ w o):IsS s:=wT hw (List.mem_filter.1 h).1
theorem zG(w:List Nat×List Nat)(o:List Nat):(bQ w o).length<=98304:=Nat.le_trans (List.length_filter_le ..) (zD w o)
theorem OL{w:List Nat×List Nat}(hw:IsW w){o t:List Nat}(ho:IsS o)(h0:¬o=s0)(ht:IsS t)(h1:Sub w.1 t)(h2:Sub t w.2):(bQ w o).any (λn=>sIn n t)=wm t o:=by
 cases hf:wm t o with
 |true=>
  obtain⟨p,tt,htt,x,y,z,r,rfl,hin⟩:=(AB ht ho h0).1 hf;have hps:=wN r;have hpt:=(dP hps ht).1 hin;have hpl:mK (shC x y z) (fI o tt)∈nw w.2 o:=(vh hw.b ho h0).2 ⟨tt,htt,x,y,z,r,rfl,(dP hps hw.b).2 λc hc=>h2 c (hpt c hc)⟩;generalize mK (shC x y z) (fI o tt)=p at*;have hq:fH p w.1∈qz w o:=zF.2 ⟨p,hpl,rfl⟩;have hqt:sIn (fH p w.1) t=true:=(dP (hps.less hw.a) ht).2 λc hc=>by
   rw[tX hps hw.a,Bool.and_eq_true]at hc;exact hpt c hc.1
  obtain⟨y,hy,hm,hyt⟩:=Db (λs hs=>wT hw hs) ht (ij (fH p w.1)) (Nat.le_refl _) hq hqt;exact List.any_eq_true.2 ⟨y,List.mem_filter.2 ⟨hy,by rw[hm];rfl⟩,hyt⟩
 |false=>
  rw[List.any_eq_false];intro n hn hnt;have hnA:=(List.mem_filter.1 hn).1;obtain⟨p,hp,rfl⟩:=zF.1 hnA;have hps:=Ba hp;obtain⟨tt,htt,x,y,z,r,e,hin⟩:=(vh hw.b ho h0).1 hp;have hpt:sIn p t=true:=(dP hps ht).2 λc hc=>by
   cases hs:ej w.1 c with
   |true=>exact h1 c hs
   |false=>
    refine(dP (hps.less hw.a) ht).1 hnt c ?_;rw[tX hps hw.a,hc,hs];rfl
  have:=(AB ht ho h0).2 ⟨p,tt,htt,x,y,z,r,e,hpt⟩;rw[hf]at this;cases this
end Go.A.Pk
end
section
namespace Go.A.Pk
theorem Sub.trans{a b c:List Nat}(h1:Sub a b)(h2:Sub b c):Sub a c:=λx hx=>h2 x (h1 x hx)
theorem Iy{a b:List Nat}(ha:IsS a)(hb:IsS b):Sub a (iZ a b):=λc hc=>by rw[tW ha hb,hc];rfl
theorem Iz{a b:List Nat}(ha:IsS a)(hb:IsS b):Sub b (iZ a b):=λc hc=>by rw[tW ha hb,hc,Bool.or_true]
theorem CY{a b c:List Nat}(ha:IsS a)(hb:IsS b)(h1:Sub a c)(h2:Sub b c):Sub (iZ a b) c:=λx hx=>by
 rw[tW ha hb,Bool.or_eq_true]at hx;exact hx.elim (h1 x) (h2 x)
theorem rN:∀{z:Zs} {s:List Nat},IsS s->(∀x∈z,IsS x.1.cells)->Sub s (bsS s z)
 |[],s,_,_=>λc hc=>hc
 |x::z,s,hs,h=>by
  have hx:=h x List.mem_cons_self;have hz:∀y∈z,IsS y.1.cells:=λy hy=>h y (List.mem_cons_of_mem _ hy);show Sub s (bsS (bsJ s x) z);unfold bsJ;split
  ·exact(Iy hs hx).trans (rN (hs.join hx) hz)
  ·exact rN hs hz
theorem uU:∀{z:Zs} {s:List Nat},IsS s->(∀x∈z,IsS x.1.cells)->∀x∈z,x.2=1->Sub x.1.cells (bsS s z)
 |[],_,_,_,x,hx,_=>by cases hx
 |y::z,s,hs,h,x,hx,h1=>by
  have hy:=h y List.mem_cons_self;have hz:∀y∈z,IsS y.1.cells:=λy hy=>h y (List.mem_cons_of_mem _ hy);show Sub x.1.cells (bsS (bsJ s y) z);rcases List.mem_cons.1 hx with rfl|hx
  ·unfold bsJ;rw[if_pos h1];exact(Iz hs hy).trans (rN (hs.join hy) hz)
  ·unfold bsJ;split
   ·exact uU (hs.join hy) hz x hx h1
   ·exact uU hs hz x hx h1
theorem mU:∀{z:Zs} {s t:List Nat},IsS s->(∀x∈z,IsS x.1.cells)->Sub s t->(∀x∈z,x.2=1->Sub x.1.cells t)->Sub (bsS s z) t
 |[],_,_,_,_,h1,_=>h1
 |x::z,s,t,hs,h,h1,h2=>by
  have hx:=h x List.mem_cons_self;have hz:∀y∈z,IsS y.1.cells:=λy hy=>h y (List.mem_cons_of_mem _ hy);show Sub (bsS (bsJ s x) z) t;unfold bsJ;split
  ·rename_i hk;exact mU (hs.join hx) hz (CY hs hx h1 (h2 x List.mem_cons_self hk)) λy hy=>h2 y (List.mem_cons_of_mem _ hy)
  ·exact mU hs hz h1 λy hy=>h2 y (List.mem_cons_of_mem _ hy)
theorem uS{z:Zs}{s:List Nat}:alB z s=true↔ ∀x∈z,x.2=2->sIn x.1.cells s=false:=by
 unfold alB;rw[List.all_eq_true];refine⟨λh x hx hk=> ?_,λh x hx=> ?_⟩
 ·have:=h x hx;rw[decide_eq_true hk,Bool.true_and,Bool.not_eq_true']at this;exact this
 ·by_cases hk:x.2=2
  ·rw[h x hx hk,Bool.and_false];rfl
  ·rw[decide_eq_false hk];rfl
def oJ(t:List Nat)(p:Pb):Nat:=if sIn p.cells t then 1 else 2
def vu(t:List Nat)(z:Zs):Prop:=∀x∈z,x.2=0∨x.2=oJ t x.1
theorem CN{w:List Nat×List Nat}(hw:IsW w){t:List Nat}(ht:IsS t)(h1:Sub w.1 t){z:Zs}(hz:∀x∈z,IsS x.1.cells)(hh:vu t z):Sub (bsS w.1 z) t:=
 mU hw.a hz h1 λx hx hk=>by
  rcases hh x hx with q|q
  ·omega
  ·unfold oJ at q;split at q
   ·rename_i hi;exact(dP (hz x hx) ht).1 hi
   ·omega
theorem Kf{t:List Nat}(ht:IsS t){z:Zs}(hz:∀x∈z,IsS x.1.cells)(hh:vu t z){s:List Nat}(hs:IsS s)(hst:Sub s t):alB z s=true:=uS.2 λx hx hk=>by
 rcases hh x hx with q|q
 ·omega
 ·unfold oJ at q;split at q
  ·omega
  ·rename_i hi;cases hq:sIn x.1.cells s with
   |false=>rfl
   |true=>exact absurd ((dP (hz x hx) ht).2 (((dP (hz x hx) hs).1 hq).trans hst)) hi
theorem F9{w:List Nat×List Nat}(hw:IsW w){t:List Nat}(ht:IsS t)(h1:Sub w.1 t)(h2:Sub t w.2){z:Zs}(hz:∀x∈z,IsS x.1.cells)(hh:vu t z):bsB w z=true:=by
 have hb:=nO hw.a hz;have hbt:=CN hw ht h1 hz hh;unfold bsB;rw[(dP hb hw.b).2 (hbt.trans h2),Kf ht hz hh hb hbt];rfl
theorem Ov{z:Zs}{s:List Nat}{r:List (List Nat)}:jK z s r=1↔r.any (λn=>sIn n s)=true:=by
 unfold jK;cases r.any (λn=>sIn n s)<;>cases r.any (λn=>alB z (iZ s n))<;>simp
theorem Ow{z:Zs}{s:List Nat}{r:List (List Nat)}:jK z s r=2↔r.any (λn=>sIn n s)=false/\r.any (λn=>alB z (iZ s n))=false:=by
 unfold jK;cases r.any (λn=>sIn n s)<;>cases r.any (λn=>alB z (iZ s n))<;>simp
theorem Hu(z:Zs)(s:List Nat)(r:List (List Nat)):jK z s r=1∨jK z s r=2∨jK z s r=3:=by
 unfold jK;cases r.any (λn=>sIn n s)<;>cases r.any (λn=>alB z (iZ s n))<;>simp
theorem Hv{w:List Nat×List Nat}(hw:IsW w){t o:List Nat}(ho:IsS o)(h0:¬o=s0)(ht:IsS t)(h1:Sub w.1 t)(h2:Sub t w.2){z:Zs}(hz:∀x∈z,IsS x.1.cells)(hh:vu t z):
 (jK z (bsS w.1 z) (bQ w o)=1->wm t o=true)/\(jK z (bsS w.1 z) (bQ w o)=2->wm t o=false):=by
 have hb:=nO hw.a hz;have hbt:=CN hw ht h1 hz hh;have hni:=OL hw ho h0 ht h1 h2;refine⟨λq=> ?_,λq=> ?_⟩
 ·obtain⟨n,hn,hin⟩:=List.any_eq_true.1 (Ov.1 q);rw[←hni];exact List.any_eq_true.2 ⟨n,hn,(dP (sF hw hn) ht).2 (((dP (sF hw hn) hb).1 hin).trans hbt)⟩
 ·cases hf:wm t o with
  |false=>rfl
  |true=>
   rw[←hni]at hf;obtain⟨n,hn,hin⟩:=List.any_eq_true.1 hf;have hns:=sF hw hn;have:=List.any_eq_false.1 (Ow.1 q).2 n hn;exact absurd (Kf ht hz hh (hb.join hns) (CY hb hns hbt ((dP hns ht).1 hin))) this
end Go.A.Pk
end
section
namespace Go.A.Pk
variable {T:Nat->Option an}
theorem OwS.QO{lo:Nat}{h h':Heap}{v:Value}{l:List (List Nat)}(q:OwS lo h v l)(hn:h.next<=h'.next)(ha:∀z,vB v z->h'.get z=h.get z):OwS lo h' v l:=by
 rcases q with q|⟨b,c,t,h1,h2,h3,rfl,h4⟩
 ·exact .inl q
 ·exact .inr ⟨b,c,t,h1,by omega,(ha b ⟨_,_,rfl⟩).trans h3,rfl,h4⟩
theorem Mk{w:List Nat×List Nat}(hw:IsW w)(pv nv ov mv v:Value)(hv:cellsOf v=[v]):cU (quL w pv nv ov mv) (0+17) (cellsOf v)=quL w pv v ov mv:=by
 have hl:=iO hw;rw[hv];unfold quL;rw[eY (by rw[List.length_append,hl];simp),Nat.zero_add,List.take_append,List.take_of_length_le (by omega),hl,List.drop_append,List.drop_of_length_le (by simp;omega),hl];simp
theorem O6{lo sz n p m c:Nat}{h:Heap}{cs:List Value}(s:Own lo h sz (.slice (some ⟨p,0,none⟩) m c) n cs):h.get p=some (.cells cs true sz):=by
 cases s with
 |full h1 h2 h3=>exact h3
theorem O7{lo n:Nat}{h:Heap}{v:Value}{cs:List Value}(s:Own lo h 1 v n cs):cs.length=n:=by
 cases s with
 |nil=>rfl
 |full h1 h2 h3 h4=>omega
theorem LW{lo sz n:Nat}{h:Heap}{v:Value}{cs:List Value}(s:Own lo h sz v n cs)(hn:0<n):mO v=false:=by
 cases s with
 |nil=>omega
 |full=>rfl
structure I3 (T:Nat->Option an):Prop where
 nd:B0 T
 f201:T 44=some f201
theorem Gg(F:I3 T){h:Heap}(hr:Rdy h)(hg:Tab h)(h2:0<h.next){q:Nat}(hq2:2<q){w:List Nat×List Nat}(hw:IsW w){pv ov mv:Value}(gq:h.get q=some (.cells (quL w pv (.slice none 0 0) ov mv) true 1)){os:List (List Nat)}(so:SsQ h ov os)(hol:os.length<1000000)
 (hov:∀b o m c,ov= .slice (some ⟨b,o,none⟩) m c->b<q):
 Gs T 44 [.pointer (some ⟨q,0,none⟩)] h (λz=>q<=z) λ_ h'=>(∀z,z<h.next->z≠q->h'.get z=h.get z)/\∃nv,h'.get q=some (.cells (quL w pv nv ov mv) true 1)/\NdS h' nv (os.map (bQ w)):=by
 have hp:=F.nd.pl.fi.ft.li.p;refine .ofK hp F.f201 ?_;obtain⟨a,c,rfl⟩:=so.sl.form;have hqn:=hr.wf.bK gq;have ko:=λnv=>QX hw pv nv (.slice a os.length c) mv;have kn:=λnv=>QW hw pv nv (.slice a os.length c) mv;have kw:=λnv=>Vc hw pv nv (.slice a os.length c) mv;have kwl:=jh hw;have kqset:=λnv v=>Mk hw pv nv (.slice a os.length c) mv v;have kql:=λnv=>Fa hw pv nv (.slice a os.length c) mv;have ko0:=ko (.slice none 0 0);refine Y9 ?_
 refine cM (λm e ds h'=>∃(i:Nat) (v:Value) (vals:List Value),i<=os.length/\m=os.length-i/\e=[(0, .pointer (some ⟨q,0,none⟩)),(7, .slice a os.length c),(8, .int .i64 (os.length:Nat)),(9, .int .i64 (i:Nat))]/\ds=[]/\WF h'∧h.next<=h'.next/\eF q h'.log/\(i=0->h'=h)/\(0<i->q∈h'.log)/\(∀z,z<h.next->z≠q->h'.get z=h.get z)/\h'.get q=some (.cells (quL w pv v (.slice a os.length c) mv) true 1)/\Own h.next h' 1 v i vals/\dY vals=true/\∀j r,((os.take i).map (bQ w))[j]? =some r->∃u,vals[j]? =some u/\OwS h.next h' u r)
  ⟨0, .slice none 0 0,[],Nat.zero_le _,rfl,rfl,rfl,hr.wf,Nat.le_refl _,by rw[hr.log];exact eF.nil _,λ_=>rfl,λq=>absurd q (Nat.lt_irrefl 0),λ_ _ _=>rfl,gq, .nil,rfl,λj r hj=>(by rw[List.take_zero,List.map_nil,List.getElem?_nil]at hj;cases hj)⟩ ?_
 rintro m e ds G ⟨i,v,vals,hin,rfl,rfl,rfl,WG,nG,lG,hi0,hi1,oG,gqG,ow,on1,hvs⟩;have hgG:G.get 0=h.get 0:=oG 0 h2 (by omega);by_cases hlt:i<os.length
 ·obtain⟨x,hx⟩:∃s,os[i]? =some s:=⟨os[i],List.getElem?_eq_getElem hlt⟩;have hxs:=so.ok x (List.mem_of_getElem? hx);obtain⟨b,o,c3,vs,own,tt,hv,gl,hbl,el⟩:=so.elem hx;cases hv;have hbq:b≠q:=Nat.ne_of_lt (hov _ _ _ _ rfl);have glG:=(oG b hbl hbq).trans gl;have kx8:=bA hxs.len;have kx9:=bV hxs.len;have kxn:=hxs.len;have mlt:aq .lss (.int .i64 (i:Nat)) (.int .i64 (os.length:Nat))=some (.bool true):=ei (by omega);refine Y9 ?_;refine cW (E0:=[(0, .pointer (some ⟨q,0,none⟩)),(3, .pointer (some ⟨G.next,0,none⟩)),(7, .slice (some ⟨b,o,none⟩) os.length c),(8, .int .i64 (os.length:Nat)),(9, .int .i64 (i:Nat))]) (P:=λh'=>Ext G h'∧h'.next=G.next+1/\h'.get G.next=some (.cells (us x) true 1)) ?_ ?_
  ·refine Y4 ?_;refine aD (bZ (by exact rfl) (by exact rfl) YG (by(simp only[aH];assumption)) (by exact rfl) (by exact dB _)) ?_;refine bL ?_;refine y1 ?_;exact⟨rfl,rfl,rfl,ff (by omega) _ _,rfl,YG⟩
  rintro G2 ⟨x2,n2,g2⟩;have WG2:=x2.wf WG;have gqG2:=(x2.old _ (by omega)).trans gqG;have hgG2:Tab G2:=((x2.old 0 (by omega)).trans hgG).trans hg;have C:=OM F.nd (h:={G2 with log:=[]}) (.of WG2) (show Tab G2 from hgG2) (by show 0<G2.next;omega) hw hxs;obtain⟨av,cv,rfl⟩:∃a c,v= .slice a i c:=(ow.slice (by omega)).form;have kov:=ko (.slice av i cv);have knv:=kn (.slice av i cv);have kwv:=kw (.slice av i cv);refine Y12 ?_;refine FW.alD C (λv h' m q=>q.log m) ?_;rintro u G5 x5 q5;clear C;have q5:OwS G2.next G5 u (bQ w x):=q5
  have n5:=x5.next
  have gq5:=(x5.old _ (by omega)).trans gqG2;have g25:=(x5.old _ (by omega)).trans g2;refine⟨_,by(repeat apply aG rfl);apply ah rfl (aa rfl (bY (by exact rfl) (by assumption) (by assumption)) (by exact eV _ _ _)) rfl;apply ah rfl (aa rfl (cT (by exact rfl)) (by exact aX _)) rfl;apply ah rfl (aa rfl (gp (by exact rfl)) (by exact aX _)) rfl;apply ah rfl (aa rfl (eG (by exact rfl)) (by exact aX _)) rfl;apply ah rfl (aa rfl (eG (by exact rfl)) (by exact aX _)) rfl;exact bh,?_⟩;obtain⟨a5,c5,rfl⟩:=q5.form;refine BO rfl rfl rfl (by exact rfl) (by exact rfl) (by exact rfl) (mT (by exact rfl) (by exact rfl)) (by refine e9 (aa rfl (bY (by exact rfl) YG (by assumption)) (by exact eV _ _ _)) ?_;refine e9 (aa rfl (cT (by exact rfl)) (by exact aX _)) ?_;refine e9 (aa rfl (gp (by exact rfl)) (by exact aX _)) ?_;refine e9 (aa rfl (eG (by exact rfl)) (by exact aX _)) ?_;refine e9 (aa rfl (eG (by exact rfl)) (by exact aX _)) ?_;exact Bw) ?_;have x6:Ext G5 (G5.push (.cells [.slice a5 (bQ w x).length c5] true 1)):=(Ext.refl G5).push _;have hvb:∀q' a c,(.slice av i cv:Value)= .slice (some ⟨q',0,none⟩) a c->h.next<=q'∧q'<G.next:=λq' a c e=>by rw[e]at ow;exact EU ow
  have n6:(G5.push (.cells [.slice a5 (bQ w x).length c5] true 1)).next=G5.next+1:=rfl
  refine Nj (lo:=q) (n:=i) (cs:=vals) (c1:=[.slice a5 (bQ w x).length c5]) ((ow.ext (x2.trans (x5.trans x6))).low (by omega)) (by omega) (by omega) (by omega) rfl rfl rfl (by exact rfl) (by exact rfl) (by exact rfl) (vm (iN (cs:=[.slice a5 (bQ w x).length c5]) (z3 G5 _) rfl rfl)) rfl rfl on1 (by show eF q G5.log;rw[x5.log,x2.log];exact lG) (x6.wf (x5.wf WG2)) ?_;intro G7 lg o7 n7 l7 W7 hold7;have n7:G5.next+1<G7.next:=n7
  have hold7:∀z,z<G5.next->(∀q' a c,(.slice av i cv:Value)= .slice (some ⟨q',0,none⟩) a c->z≠q')->G7.get z=G5.get z:=λz hz hne=>(hold7 z (by show z<G5.next+1;omega) hne).trans (z4 hz)
  have o7:Own (G5.next+1) G7 1 (.slice (some ⟨G5.next+1,0,none⟩) (i+1) UNK) (i+1) (vals++[.slice a5 (bQ w x).length c5]):=o7;have gq7:G7.get q=some (.cells (quL w pv (.slice av i cv) (.slice (some ⟨b,o,none⟩) os.length c) mv) true 1):=(hold7 q (by omega) (λq' a c e=>by have:=(hvb q' a c e).1;omega)).trans gq5;refine⟨_,by(repeat apply aG rfl);apply ah rfl (aa rfl (eG (by exact rfl)) (by exact aX _)) rfl;exact bh,?_⟩;have kc:(Nat.beq (cm (cellsOf (.slice (some ⟨G5.next+1,0,none⟩) (i+1) UNK))) 1&&Nat.ble (0+17+1) (cm (quL w pv (.slice av i cv) (.slice (some ⟨b,o,none⟩) os.length c) mv))&&dY (cellsOf (.slice (some ⟨G5.next+1,0,none⟩) (i+1) UNK)))=true:=by
   rw[bS (quL w pv (.slice av i cv) (.slice (some ⟨b,o,none⟩) os.length c) mv),kql (.slice av i cv)];rfl
  have kst:=kqset (.slice av i cv) (.slice (some ⟨G5.next+1,0,none⟩) (i+1) UNK) rfl;have kqn7:q<G7.next:=by omega
  refine Y2 ?_;refine gI rfl rfl rfl (by exact rfl) (by exact rfl) (by exact rfl) gq7 kc kst kqn7 (by(repeat apply aG rfl);exact bh) ?_;refine Y8 ?_;refine⟨os.length-(i+1),by omega,i+1, .slice (some ⟨G5.next+1,0,none⟩) (i+1) UNK,vals++[.slice a5 (bQ w x).length c5],by omega,rfl,rfl,rfl,W7.as (AS.wr h.next _ _ _),(by show h.next<=G7.next;omega),yq l7 (Nat.le_refl q),λe=>(by omega),λ_=>BS hqn,λz hz hne=> ?_,?_,?_,pJ on1 rfl,λj r hj=> ?_⟩
  ·exact(z5 hne).trans ((hold7 z (by omega) (λq' a c e=>by have:=(hvb q' a c e).1;omega)).trans ((x5.old z (by omega)).trans ((x2.old z (by omega)).trans (oG z hz hne))))
  ·rw[z6,gq7];rfl
  ·exact(o7.keep (h':=G7.wr h.next q (.cells (quL w pv (.slice (some ⟨G5.next+1,0,none⟩) (i+1) UNK) (.slice (some ⟨b,o,none⟩) os.length c) mv) true 1)) (Nat.le_refl _) λz hz _=>z5 (by omega)).low (by omega)
  ·have hvl:vals.length=i:=by
    have:=ow.slice (by omega);exact O7 ow
   have hml:((os.take i).map (bQ w)).length=i:=by rw[List.length_map,List.length_take];omega
   rw[fQ hx,List.map_append]at hj;rcases Nat.lt_or_ge j i with hji|hji
   ·rw[List.getElem?_append_left (by omega)]at hj;obtain⟨u',hu',qo⟩:=hvs j r hj;refine⟨u',by rw[List.getElem?_append_left (by omega)];exact hu',qo.QO (by show G.next<=G7.next;omega) λz hz=> ?_⟩;have hzb:=qo.vb hz;refine(z5 (by omega)).trans ((hold7 z (by omega) (λq' a c e=> ?_)).trans ((x5.old z (by omega)).trans (x2.old z (by omega))));rw[e]at ow;exact qo.ne (O6 ow) z hz
   ·obtain rfl:j=i:=by
     have:=(List.getElem?_eq_some_iff.1 hj).1;rw[List.length_append,hml]at this;simp at this;omega
    rw[List.getElem?_append_right (by omega),hml,Nat.sub_self]at hj;simp at hj;subst hj;refine⟨_,by rw[List.getElem?_append_right (by omega),hvl,Nat.sub_self];rfl,(q5.low (by omega)).QO (by show G5.next<=G7.next;omega) λz hz=> ?_⟩;have hzb:=q5.vb hz;exact(z5 (by omega)).trans ((hold7 z (by omega) (λq' a c e=>by have:=(hvb q' a c e).2;omega)))
 ·obtain rfl:i=os.length:=by omega
  have mlt:aq .lss (.int .i64 (os.length:Nat)) (.int .i64 (os.length:Nat))=some (.bool false):=eH (by omega);rw[List.take_length]at hvs;have hon:0<os.length->mO v=false:=λq=>LW ow q;have hsl:=ow.slice (by omega);refine Y9 ?_;refine He (λz hz=>lG z hz) ?_ rfl ⟨oG,v,gqG,vals,?_,λj r hj=> ?_⟩
  ·rcases Nat.eq_zero_or_pos os.length with q0|q0
   ·exact .inl (hi0 q0)
   ·exact .inr ⟨q,hqn,hi1 q0,_,_,_,gqG,DN (hon q0) (List.mem_append_right _ (by simp))⟩
  ·rw[List.length_map];exact hsl
  ·obtain⟨u,hu,qu⟩:=hvs j r hj;refine⟨u,hu,qu.ss λs hs=> ?_⟩;have hjm:=List.mem_of_getElem? hj;obtain⟨x,_,rfl⟩:=List.mem_map.1 hjm;exact sF hw hs
def mc(w:List Nat×List Nat)(l:List Pb)(os:List (List Nat)):Int:=
 if sIn w.1 w.2=false then 1 else if 6<os.length then 2 else if os.any (λs=>decide (s=s0))=true then 1 else prE l
structure IU (T:Nat->Option an):Prop where
 ne:I4 T
 cp:FB T
 f141:T 42=some f141
theorem Oe{h:Heap}{e:Env}{w:List Nat×List Nat}(hw:IsW w){x1 x2 x3 x4:Operand}{pv ov mv:Value}(h1:ev h e x1=some (wV w))(h2:ev h e x2=some pv)(h3:ev h e x3=some ov)(h4:ev h e x4=some mv)(c2:cellsOf pv=[pv])(c3:cellsOf ov=[ov])(c4:cellsOf mv=[mv]):
 iW h e [(.int .u64 0),(.int .u64 0),(.int .u64 0),(.int .u64 0),(.int .u64 0),(.int .u64 0),(.int .u64 0),(.int .u64 0),(.int .u64 0),(.int .u64 0),(.int .u64 0),(.int .u64 0),(.int .u64 0),(.int .u64 0),(.int .u64 0),(.int .u64 0),(.slice none 0 0),(.slice none 0 0),(.slice none 0 0),(.map none)] [(0,16,x1),(16,1,x2),(18,1,x3),(19,1,x4)]=some (quL w pv (.slice none 0 0) ov mv):=by
 have hl:=iO hw;have e1:cellsOf (wV w)=wL w:=by show(wL w).toArray.toList=_;simp
 have k1:cm (wL w)=16:=by rw[bS,hl]
 have p1:cU [(.int .u64 0),(.int .u64 0),(.int .u64 0),(.int .u64 0),(.int .u64 0),(.int .u64 0),(.int .u64 0),(.int .u64 0),(.int .u64 0),(.int .u64 0),(.int .u64 0),(.int .u64 0),(.int .u64 0),(.int .u64 0),(.int .u64 0),(.int .u64 0),(.slice none 0 0),(.slice none 0 0),(.slice none 0 0),(.map none)] 0 (wL w)=wL w++[.slice none 0 0, .slice none 0 0, .slice none 0 0, .map none]:=by
  rw[eY (by rw[hl];decide),hl];rfl
 have p2:cU (wL w++[.slice none 0 0, .slice none 0 0, .slice none 0 0, .map none]) 16 [pv]=wL w++[pv, .slice none 0 0, .slice none 0 0, .map none]:=by
  rw[eY (by rw[List.length_append,hl];simp),List.take_append_of_le_length (by omega),List.take_of_length_le (by omega),List.drop_append,List.drop_of_length_le (by simp;omega),hl];simp
 have p3:cU (wL w++[pv, .slice none 0 0, .slice none 0 0, .map none]) 18 [ov]=wL w++[pv, .slice none 0 0,ov, .map none]:=by
  rw[eY (by rw[List.length_append,hl];simp),List.take_append,List.take_of_length_le (by omega),List.drop_append,List.drop_of_length_le (by simp;omega),hl];simp
 have p4:cU (wL w++[pv, .slice none 0 0,ov, .map none]) 19 [mv]=wL w++[pv, .slice none 0 0,ov,mv]:=by
  rw[eY (by rw[List.length_append,hl];simp),List.take_append,List.take_of_length_le (by omega),List.drop_append,List.drop_of_length_le (by simp;omega),hl];simp
 have k2:∀a b c d:Value,cm (wL w++[a,b,c,d])=20:=λa b c d=>by rw[bS,List.length_append,hl];rfl
 simp only[iW,h1,h2,h3,h4,e1,c2,c3,c4,k1,k2,p1,p2,p3,p4];rfl
theorem GZ(l:List Value):cellsOf (.agg l.toArray)=l:=by show l.toArray.toList=_;simp
def VJ(h:Heap)(w:List Nat×List Nat)(pv ov:Value)(e:Int)(v:Value)(h':Heap):Prop:=
 (e≠0/\v= .tuple #[.pointer none, .int .i64 e])∨(e=0/\∃q m,v= .tuple #[.pointer (some ⟨q,0,none⟩), .int .i64 0]/\h.next<=m/\m<q/\q<h'.next/\h'.get q=some (.cells (quL w pv (.slice none 0 0) ov (.map (some m))) true 1)/\h'.get m=some (.map []))
theorem Cm(F:IU T){h:Heap}(hr:Rdy h){w:List Nat×List Nat}(hw:IsW w){pv ov:Value}{l:List Pb}(sp:PbS h pv l)(hl:l.length<1000000){os:List (List Nat)}(so:SsQ h ov os)(hol:os.length<1000000):
 Al T 42 [wV w,pv,ov] h (VJ h w pv ov (mc w l os)):=by
 have hp:=F.cp.p;refine .of hp F.f141 hr ?_ ?_
 ·rintro v h1 hv (q|⟨_,q,m,rfl,_⟩)
  ·exact .inl q
  ·cases hv
 obtain⟨a,c,rfl⟩:=sp.form;obtain⟨a2,c2,rfl⟩:=so.sl.form;have hwc:cellsOf (wV w)=wL w:=by show(wL w).toArray.toList=_;simp
 have x0:Ext h (h.push (.cells (cellsOf (wV w)) true 1)):=(Ext.refl h).push _;have g0:(h.push (.cells (cellsOf (wV w)) true 1)).get h.next=some (.cells (wL w) true 1):=by rw[hwc];exact z3 h _
 have n0:(h.push (.cells (cellsOf (wV w)) true 1)).next=h.next+1:=rfl
 refine Y5 ?_;generalize(h.push (.cells (cellsOf (wV w)) true 1))=H at*;have W:=x0.wf hr.wf;have hL:=x0.log.trans hr.log;have wk:=lY hw;have wkl:=jh hw;have C1:=Ts F.ne (h:={H with log:=[]}) (.of W) hw;have C2:=ur hp F.ne.nd.f196 F.ne.nd.f257 (h:={H with log:=[]}) (.of W) ((so.ext x0).log []) hol (g:=40) (cap:=[]) (λs=>decide (s=s0)) λs hs=>FZ hp F.cp.f90 (.of W) (so.ok s hs);have C3:=N1 F.cp (h:={H with log:=[]}) (.of W) ((sp.ext x0).log []) hl;unfold mc;cases hin:sIn w.1 w.2 with
 |false=>
  rw[hin]at C1;rw[if_pos rfl];refine Y4 ?_;refine FW.pu C1 ?_;refine Y9 ?_;exact cF hL rfl (.inl ⟨by decide,rfl⟩)
 |true=>
 rw[hin]at C1;rw[if_neg (by simp)];by_cases h6:6<os.length
 ·have m1:aq .gtr (.int .i64 (os.length:Nat)) (.int .i64 6)=some (.bool true):=jD (by omega);rw[if_pos h6];refine Y4 ?_;refine FW.pu C1 ?_;refine Y18 ?_;exact cF hL rfl (.inl ⟨by decide,rfl⟩)
 have m1:aq .gtr (.int .i64 (os.length:Nat)) (.int .i64 6)=some (.bool false):=ji (by omega);rw[if_neg h6];cases ha:os.any (λs=>decide (s=s0))with
 |true=>
  rw[ha]at C2;rw[if_pos rfl];refine Y4 ?_;refine FW.pu C1 ?_;refine Y18 ?_;refine FW.pu C2 ?_;refine Y8 ?_;exact cF hL rfl (.inl ⟨by decide,rfl⟩)
 |false=>
 rw[ha]at C2;rw[if_neg (by simp)];by_cases he:prE l=0
 ·rw[he]at C3⊢;have mn:aq .neq (.int .i64 0) (.int .i64 0)=some (.bool false):=rfl;refine Y4 ?_;refine FW.pu C1 ?_;refine Y18 ?_;refine FW.pu C2 ?_;refine Y8 ?_;refine FW.pu C3 ?_;clear C1 C2 C3;refine Y13 ?_;refine aD FL ?_;refine aD (p8 (Oe hw (by exact rfl) (by exact rfl) (by exact rfl) (by exact rfl) rfl rfl rfl)) ?_;have hqc:=GZ (quL w (.slice a l.length c) (.slice none 0 0) (.slice a2 os.length c2) (.map (some H.next)));refine Y5 ?_;refine cF hL rfl (.inr ⟨rfl,_,_,rfl,?_,Nat.lt_succ_self _,Nat.lt_succ_self _,?_,?_⟩)
  ·show h.next<=H.next;omega
  ·rw[hqc];exact z3 _ _
  ·exact(z4 (Nat.lt_succ_self _)).trans (z3 _ _)
 ·have mn:aq .neq (.int .i64 (prE l)) (.int .i64 0)=some (.bool true):=jE he;generalize prE l=e at*;refine Y4 ?_;refine FW.pu C1 ?_;refine Y18 ?_;refine FW.pu C2 ?_;refine Y8 ?_;refine FW.pu C3 ?_;refine Y14 ?_;exact cF hL rfl (.inl ⟨he,rfl⟩)
end Go.A.Pk
end
