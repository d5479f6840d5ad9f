/- Walks of functions, plain laws, the table. -/
import Derived.Test.YtjancmjkjgpfpaaGreatDoorVU0
import Derived.Test.YtjancmjkjgpfpaaGreatDoorVD
import Derived.Test.YtjancmjkjgpfpaaGreatDoorVV
import Derived.Test.YtjancmjkjgpfpaaGreatDoorVF
set_option linter.all false
set_option maxHeartbeats 16000000
set_option maxRecDepth 100000
section
namespace Go.A.Pk
variable {T:Nat->Option an}
def ints(l:List Int):List Value:=l.map λx=> .int .i64 x
theorem CX(l:List Int):(ints l).length=l.length:=by simp[ints]
def ceN(n:Nat):Ce:=⟨(n % 8:Nat),(n / 8 % 8:Nat),(n / 64:Nat)⟩
def ceS(l:List Ce):List Value:=l.flatMap ceL
theorem NW(a b:List Ce):ceS (a++b)=ceS a++ceS b:=by simp[ceS]
def aU(s:List Nat)(n:Nat):List Ce:=((List.range n).map ceN).filter (ej s)
theorem Ar(s:List Nat)(n:Nat):aU s (n+1)=aU s n++(if ej s (ceN n)then [ceN n]else []):=by
 unfold aU;rw[List.range_succ,List.map_append,List.filter_append];congr 1;simp only[List.map_cons,List.map_nil,List.filter_cons,List.filter_nil]
theorem lK(s:List Nat)(n:Nat):(aU s n).length<=n:=by
 unfold aU;exact Nat.le_trans (List.length_filter_le ..) (by simp)
end Go.A.Pk
end
section
namespace Go.A.Pk
def mM(s:List Nat)(z:Nat):List Ce:=(bitsOf (s.getD z 0)).map (eN z)
theorem Aq{z i:Nat}(hi:i<64):ceN (z*64+i)=eN z i:=by
 unfold ceN eN;rw[show(z*64+i) % 8=i % 8 by omega,show(z*64+i) / 8 % 8=i / 8 by omega,show(z*64+i) / 64=z by omega]
theorem iV(s:List Nat){z:Nat}(hz:z<8):aU s ((z+1)*64)=aU s (z*64)++mM s z:=by
 unfold aU mM bitsOf;rw[show(z+1)*64=z*64+64 by omega,List.range_add,List.map_append,List.filter_append];congr 1;rw[List.map_map,List.filter_map];have e1:(List.range 64).filter (ej s ∘ (ceN ∘ λx=>z*64+x))=(List.range 64).filter (Nat.testBit (s.getD z 0)):=by
  apply List.filter_congr;intro i hi;have hi:=List.mem_range.1 hi;show ej s (ceN (z*64+i))=_;rw[Aq hi,fK hz hi]
 rw[e1];apply List.map_congr_left;intro i hi;have hi:=List.mem_range.1 (List.mem_filter.1 hi).1;exact Aq hi
theorem wq{f:Nat->Nat->Nat}{a b:List Nat}(ha:IsS a)(hb:IsS b){z:Nat}(hz:z<8):(List.zipWith f a b).getD z 0=f (a.getD z 0) (b.getD z 0):=by
 have e1:=jY (s:=a) (i:=z) (by rw[ha.len];exact hz);have e2:=jY (s:=b) (i:=z) (by rw[hb.len];exact hz);rw[List.getD_eq_getElem?_getD,List.getElem?_zipWith,e1,e2];rfl
theorem fT{s:List Nat}{c:Ce}(hc:¬inG c=true):ej s c=false:=by
 unfold ej;rw[Bool.not_eq_true]at hc;rw[hc];rfl
theorem tW{a b:List Nat}(ha:IsS a)(hb:IsS b)(c:Ce):ej (iZ a b) c=(ej a c||ej b c):=by
 by_cases hc:inG c=true
 ·obtain⟨z,i,hz,hi,rfl⟩:=iF hc;rw[fK hz hi,fK hz hi,fK hz hi];unfold iZ uO;rw[wq ha hb hz];exact Nat.testBit_or ..
 ·rw[fT hc,fT hc,fT hc];rfl
theorem tX{a b:List Nat}(ha:IsS a)(hb:IsS b)(c:Ce):ej (fH a b) c=(ej a c&& !ej b c):=by
 by_cases hc:inG c=true
 ·obtain⟨z,i,hz,hi,rfl⟩:=iF hc;rw[fK hz hi,fK hz hi,fK hz hi];unfold fH uO;rw[wq ha hb hz];simp only[Ed];show Nat.testBit (a.getD z 0 ^^^ (a.getD z 0&&&b.getD z 0)) i=_;rw[Nat.testBit_xor,Nat.testBit_and];cases (a.getD z 0).testBit i<;>cases (b.getD z 0).testBit i<;>rfl
 ·rw[fT hc,fT hc];rfl
theorem sP(c:Ce):ej s0 c=false:=by
 by_cases hc:inG c=true
 ·obtain⟨z,i,hz,hi,rfl⟩:=iF hc;rw[fK hz hi];have:∀z:Fin 8,s0.getD z.val 0=0:=by decide
  rw[this ⟨z,hz⟩];exact Nat.zero_testBit i
 ·exact fT hc
theorem HC{s:List Nat}{n:Nat}{c:Ce}(h:c∈aU s n):ej s c=true:=(List.mem_filter.1 h).2
structure Dou where
 c:Ce
 ids:List Int
 is:Bool
 e:Int
def c0:Ce:=⟨0,0,0⟩
end Go.A.Pk
end
section
namespace Go.A.Pk
variable {T:Nat->Option an}
section
open I
def vN:aR:=I.R [g 5 (.new [O,O,O]),S 3 5 7] [2,5]
def vP:aR:= .block 1 (I.R [L 8 2,N 9 3 5,g 10 (.dz [O,O,O] 1 [(0,3,(t 9))]),g 11 (.append 3 24 (t 8) (t 10)),S 1 2 11] [])
end
theorem WE.uM{base:Nat}{rnd:Option Nat}{c:aR}{Q:XQ}{e:Env}{ds:Dfs}{h:Heap}(hK:∀hA,hA=h->WE T base rnd c Q e ds hA):WE T base rnd c Q e ds h:=hK h rfl
theorem D4{base:Nat}{rnd:Option Nat}{Q:XQ}{e:Env}{ds:Dfs}{h:Heap}{lo sz bytes n:Nat}{dst:Option Nat}{os:List aV}{x y:Operand}{v u:Value}{cs c1:List Value}(s:Own lo h sz v n cs)(hn:n<1000000)(hsz:0<sz)(hb:bytes<=100000)
 (hx:ev h e x=some v)(hy:ev h e y=some u)(hs:dn h sz u=some (c1,1))(hl1:c1.length=sz)(h1:dY c1=true)
 (hK:∀h',Own h.next h' sz (.slice (some ⟨h.next,0,none⟩) (n+1) UNK) (n+1) (cs++c1)->h'.next=h.next+1->(∀z∈h'.log,lo<=z∨z∈h.log)->(WF h->WF h')->(∀z,z<h.next->z<lo->h'.get z=h.get z)->WO T base rnd Q os (cC e dst (.slice (some ⟨h.next,0,none⟩) (n+1) UNK)) ds h'):WO T base rnd Q (⟨dst, .append sz bytes x y,none⟩::os) e ds h:=by
 have hbd:(2*(n+1)+768)*bytes<=281474976710656:=by
  have:(2*(n+1)+768)*bytes<=2000768*100000:=Nat.mul_le_mul (by omega) hb;omega
 cases s with
 |nil=>
  refine aD (mS (n:=1) hx hy hs (by omega) (by simpa using hbd) rfl) ?_;exact hK _ (Own.full (lo:=h.next) (h:=h.push (.cells c1 true sz)) (sz:=sz) (q:=h.next) (n:=1) (cs:=c1) (Nat.le_refl _) (Nat.lt_succ_self _) (z3 _ _) (by omega) (by omega)) rfl (λz hz=> .inr hz) (λw=>w.push _) (λz hz _=>z4 hz)
 | @full q _ _ q1 q2 q3 q4 q5=>
   refine aD (jO (n:=1) (vs:=cs) (ws:=cs++c1) hx hy hs (by omega) q3 q4 hsz h1 hbd (dH _ _)) ?_;exact hK _ (.full (Nat.le_refl _) (Nat.lt_succ_self _) (z3 _ _) (by rw[List.length_append,q4,hl1,Nat.add_mul,Nat.one_mul]) (by omega)) rfl (λz hz=>by
    rcases dw (b:=q) (o:= .dead) hz with rfl|hz
    ·exact .inl q1
    ·exact .inr hz) (λw=>(w.as (AS.wr base _ q .dead)).push _) (λz hz hne=>(z4 (by exact hz)).trans (z5 (by omega)))
theorem En(hp:aF T){H:Heap}(hr:Rdy H){q l lo lo2:Nat}{fv v:Value}{cs:List Ce}{c:Ce}(hm:cs.length<1000000)(hlo:lo<=q)
 (gl:H.get l=some (.loop [(2, .pointer (some ⟨q,0,none⟩)),(6,fv)] [7] vN vP 0 .normal))
 (go:H.get q=some (.cells [v] true 1))(own:Own lo2 H 3 v cs.length (ceS cs))(hlo2:lo<=lo2)(hq2:q<lo2)(hl2:l<lo2)(h2n:lo2<=H.next):
 FW T (.yield l) [ceV c] H λr H'=>r= .ret (.bool true)/\(∀z∈H'.log,lo<=z)/\q∈H'.log/\∃v',H'.get q=some (.cells [v'] true 1)/\cV [v']=false/\Own lo2 H' 3 v' (cs++[c]).length (ceS (cs++[c]))/\(∀z,z<lo2->z≠q->H'.get z=H.get z)/\WF H'∧H.next<=H'.next:=by
 have no:q≠l:=λe=>by subst e;rw[go]at gl;cases gl
 have ko:=hr.wf.bK go;have kl:=hr.wf.bK gl;refine FW.FA hp (q:=q) (R:=λH'=>∃v',H'.get q=some (.cells [v'] true 1)/\cV [v']=false/\Own lo2 H' 3 v' (cs++[c]).length (ceS (cs++[c]))/\(∀z,z<lo2->z≠q->H'.get z=H.get z)/\WF H'∧H.next<=H'.next) gl rfl kl ko no ?_;unfold vN;refine Y3 ?_;refine bL ?_;refine y1 ?_;refine⟨rfl,YG,?_⟩;unfold vP;refine kG ?_;refine WE.uM ?_;intro hA hAe;have A1:∀z,z<H.next->z≠l->H.get z=hA.get z:=λz hz hne=>by rw[hAe];symm;simp(disch:=first|omega|(simp only[z1,z2];omega))only[z5,z4]
 have A3:hA.get H.next=some (.cells (ceL c) true 1):=by rw[hAe];(simp(disch:=first|omega|(simp only[z1,z2];omega))only[z3,z4,z5,z6,z7,z1,z2,gl,go];exact rfl)
 have A2:hA.get l=some (.loop [(2, .pointer (some ⟨q,0,none⟩)),(6,fv)] [7] vN vP 1 .normal):=by rw[hAe];(simp(disch:=first|omega|(simp only[z1,z2];omega))only[z3,z4,z5,z6,z7,z1,z2,gl,go,A3];exact rfl)
 have A5:hA.next=H.next+1:=by rw[hAe];rfl
 have A6:hA.log=[]:=by rw[hAe];simp(disch:=first|omega|(simp only[z1,z2];omega))only[Heap.aB,Heap.sj];exact hr.log
 have A7:WF hA:=by rw[hAe];exact(((hr.wf.push _).as (AS.wr _ _ _ _)).as (AS.wr _ _ _ _))
 clear hAe;have Bo:=(A1 q ko no).symm.trans go;have ck:cw 3 (bU 0 (ceL c))=ceL c:=rfl;have ckl:Nat.beq (cm (ceL c)) 3=true:=rfl;have ownA:Own lo2 hA 3 v cs.length (ceS cs):=own.keep (by omega) λz hz hz2=>(A1 z hz2 (by omega)).symm;clear go;refine Y4 ?_;refine D4 (lo:=lo2) (c1:=ceL c) (ownA.ext ((Ext.refl hA).push _)) hm (by omega) (by omega) (by exact rfl) (by exact rfl) (iN (cs:=ceL c) YG rfl rfl) rfl rfl ?_;intro h3 own3 n3 l3 w3 o3;have own3:Own (H.next+2) h3 3 (.slice (some ⟨H.next+2,0,none⟩) (cs.length+1) UNK) (cs.length+1) (ceS cs++ceL c):=by
  have e:(hA.push (.cells (ceL c) true 3)).next=H.next+2:=by show hA.next+1=_;omega
  rw[←e];exact own3
 have n3:h3.next=H.next+3:=by rw[n3];show hA.next+1+1=_;omega
 have l3:∀z∈h3.log,lo2<=z:=λz hz=>(l3 z hz).elim id λe=>by
  have e:z∈hA.log:=e;rw[A6]at e;cases e
 have o3:∀z,z<lo2->h3.get z=hA.get z:=λz hz=>(o3 z (by show z<hA.next+1;omega) hz).trans (z4 (by omega));have W3:WF h3:=w3 (A7.push _);have e5:∀o,(hA.push o).next=H.next+2:=λo=>by show hA.next+1=_;omega
 rw[e5];have Co:=(o3 q (by omega)).trans Bo;have Cl:=(o3 l (by omega)).trans A2;have hce:ceS (cs++[c])=ceS cs++ceL c:=by rw[NW,show ceS [c]=ceL c by simp[ceS]]
 have hcl:(cs++[c]).length=cs.length+1:=by simp
 clear Bo A3 A2;refine yS ?_;refine bL ?_;refine Y2 ?_;refine⟨rfl,⟨_,YG,rfl⟩,λz hz=> ?_,lZ (by omega),⟨_,_,_,Heap.aI Co,rfl⟩, .slice (some ⟨H.next+2,0,none⟩) (cs.length+1) UNK,(z5 no).trans (Heap.aI Co),rfl,?_,λz hz h1=> ?_,?_,?_⟩
 ·rcases dw hz with rfl|hz
  ·exact hlo
  ·exact Nat.le_trans hlo2 (l3 z hz)
 ·rw[hce,hcl];exact Own.low (lo:=H.next+2) (Own.keep own3 (Nat.le_refl _) λz hz _=>(z5 (by omega)).trans (z5 (by omega))) (by omega)
 ·by_cases hl:z=l
  ·subst hl;rw[gl];exact Heap.aI ((z5 (Ne.symm no)).trans Cl)
  ·exact(z5 hl).trans ((z5 h1).trans ((o3 z hz).trans (A1 z (by omega) hl).symm))
 ·exact(W3.as (AS.wr _ _ _ _)).as (AS.wr _ _ _ _)
 ·show H.next<=h3.next
  omega
theorem tr(s:List Nat){n:Nat}:∀m,∃r,aU s (n+m)=aU s n++r
 |0=>⟨[],by simp⟩
 |m+1=>by
  obtain⟨r,e⟩:=tr s (n:=n) m;exact⟨r++(if ej s (ceN (n+m))then [ceN (n+m)]else []),by rw[←Nat.add_assoc,Ar,e,List.append_assoc]⟩
structure rG (T:Nat->Option an):Prop where
 p:aF T
 f123:T 24=some f123
 f213:T 47=some f213
 f214:T 48=some f214
 f264:T 66=some f264
 f265:T 67=some f265
 f266:T 68=some f266
theorem JD(F:rG T){h:Heap}(hr:Rdy h){q0 l N lo:Nat}{s:List Nat}(hs:IsS s){P:List Ce->Heap->Prop}(hN:N<=h.next)(hlo:lo<=h.next){q:Nat}(Y:Cb T lo N l q ceV (aU s 512) P)
 (g0:h.get q0=some (.cells (us s) true 1))(htab:∀d H,P d H->Tab H)(h0:P [] h):
 Gr T 67 [.func (.yield l) #[] #[], .pointer (some ⟨q0,0,none⟩)] h lo λv h'=>v= .tuple #[]/\P (aU s 512) h':=by
 have hqn:q<h.next:=Nat.lt_of_lt_of_le Y.hq hN
 have hp:=F.p;have k8:=bA hs.len;have k9:=bV hs.len;refine Gr.ofK hp F.f265 hlo (λv h1 hA p=>Gc Y hqn hA hr.log p) ?_;refine Y5 ?_
 refine cM (λk e ds h'=>∃z:Nat,z<=8/\8-z=k/\e=[(0, .func (.yield l) #[] #[]),(6,sv s),(7, .int .i64 (z:Nat))]/\ds=[]/\Lk lo h h'∧P (aU s (z*64)) h'∧(h'=h∨q∈h'.log/\iB h' q))
  ⟨0,by omega,rfl,rfl,rfl, .refl _ _,h0, .inl rfl⟩ ?_
 rintro k e ds h' ⟨z,hz8,rfl,rfl,rfl,hk,hP,hm⟩;by_cases hz:z<8
 ·have e1:bH (us s).toArray.toList (z*1)=some (.int .u64 ((s.getD z 0:Nat):Int)):=by
   rw[List.toList_toArray,Nat.mul_one,cD];unfold us;rw[List.getElem?_map,jY (by rw[hs.len];exact hz)];rfl
  have hx0:=hs.jZ z;obtain⟨rest,hrest⟩:∃r,aU s 512=aU s (z*64)++mM s z++r:=by
   obtain⟨r,e⟩:=tr s (n:=(z+1)*64) (512-(z+1)*64);rw[show(z+1)*64+(512-(z+1)*64)=512 by omega,iV s hz]at e;exact⟨r,e⟩
  have hplane:=iV s hz;have hpl:mM s z=(bitsOf (s.getD z 0)).map (eN z):=rfl;generalize hx:s.getD z 0=x0 at*;generalize mM s z=pl at*;refine Y11 ?_;refine aD (vG (by exact rfl) (by exact rfl) (by omega) (by assumption)) ?_;refine Y4 ?_
  refine cM (λk e ds h''=>∃(x:Nat) (d:List Ce),x<U64/\d++(bitsOf x).map (eN z)=pl/\(bitsOf x).length=k/\e=[(0, .func (.yield l) #[] #[]),(3, .int .i64 (z:Nat)),(4, .int .u64 (x:Nat)),(6,sv s),(7, .int .i64 (z:Nat))]/\ds=[]/\Lk lo h h''∧P (aU s (z*64)++d) h''∧(h''=h∨q∈h''.log/\iB h'' q))
   ⟨x0,[],hx0,by rw[hpl];rfl,rfl,rfl,rfl,hk,by rw[List.append_nil];exact hP,hm⟩ ?_
  clear hP hk hm h';rintro k e ds h' ⟨x,d,hxl,hd,rfl,rfl,rfl,hk,hP,hm⟩;by_cases hx:x=0
  ·subst hx;rw[um]at hd;have hd:d=pl:=by simpa using hd
   subst hd;rw[←hplane]at hP;refine Y16 ?_;exact⟨8-(z+1),by omega,z+1,by omega,rfl,rfl,rfl,hk,hP,hm⟩
  ·obtain⟨b,m,hform⟩:=wX x hx;have hb64:=(u9 hform hxl).1;have hstep:=uk hform hxl;have m1:aq .neq (.int .u64 (x:Nat)) (.int .u64 0)=some (.bool true):=jE (by omega);have C:=QZ F.p F.f266 (h:={h' with log:=[]}) (.of (hk.wf hr.wf)) (show Tab h' from htab _ _ hP) hxl hform;have m2:aq .rem (.int .i64 (b:Nat)) (.int .i64 8)=some (.int .i64 ((b % 8:Nat):Int)):=KW;have m3:aq .quo (.int .i64 (b:Nat)) (.int .i64 8)=some (.int .i64 ((b / 8:Nat):Int)):=KV (by omega);have m4:aq .sub (.int .u64 (x:Nat)) (.int .u64 1)=some (.int .u64 ((x-1:Nat):Int)):=mA (by rw[show(x:Int)-1=((x-1:Nat):Int)by omega];exact nH (by unfold U64 at hxl;omega));have m5:=qy (a:=x) (b:=x-1) hxl (Nat.lt_of_le_of_lt (Nat.sub_le x 1) hxl);rw[hstep]at hd⊢;have hlt:Nat.land x (x-1)<U64:=u6 hxl;generalize Nat.land x (x-1)=x' at*;rw[List.map_cons]at hd;have hsp:aU s 512=(aU s (z*64)++d)++eN z b::((bitsOf x').map (eN z)++rest):=by
    rw[hrest,←hd];simp
   refine Y13 ?_;refine FW.pu C ?_;clear C;refine Y10 ?_;refine kZ (fn:= .yield l) (args:=[ceV (eN z b)]) (by rfl) ?_;refine Y.call hp hsp (hk.wf hr.wf) (Nat.le_trans hlo hk.next) (Nat.le_trans hN hk.next) hqn hP ?_;intro h2 hk2 hm2 hP2;refine Y13 ?_;exact⟨(bitsOf x').length,by simp,x',d++[eN z b],hlt,by rw[←hd];simp,rfl,rfl,rfl,hk.trans hk2,by rw[←List.append_assoc];exact hP2, .inr hm2⟩
 ·obtain rfl:z=8:=by omega
  refine Y9 ?_;exact vY (hk.log (by rw[hr.log];exact eF.nil _)) rfl ⟨rfl,hP,hm⟩
structure PCe (l q:Nat) (H0:Heap) (L:bG) (done:List Ce) (H:Heap):Prop where
 old:∀z,z<q->H.get z=H0.get z
 loop:H.get l=some L
 nx:l<H.next
 val:∃v,H.get q=some (.cells [v] true 1)/\Own (l+1) H 3 v done.length (ceS done)
theorem PCe.eO{l q:Nat}{H0:Heap}{L:bG}(hq:q<l)(done:List Ce)(H H':Heap)(p:PCe l q H0 L done H)(hn:H.next<=H'.next)(h:∀x,x<H.next->H'.get x=H.get x):PCe l q H0 L done H':=by
 obtain⟨p1,p2,p3,v,p4,p5⟩:=p;exact⟨λz hz=>(h z (by omega)).trans (p1 z hz),(h l p3).trans p2,by omega,v,(h q (by omega)).trans p4,p5.keep hn λz _ hz=>h z hz⟩
def fnC(q0:Nat):Value:= .func (.func 67) #[] #[.pointer (some ⟨q0,0,none⟩)]
theorem Own.flat{lo lo' sz n:Nat}{h h':Heap}{v:Value}{cs:List Value}(hv:cG v=true)(s:Own lo h sz v n cs):Own lo' h' sz v n cs:=by
 cases s with
 |nil=>exact .nil
 |full=>cases hv
theorem GS(F:rG T){h:Heap}(hr:Rdy h)(hg:Tab h)(h2:0<h.next){q0:Nat}{s:List Nat}(hs:IsS s)(g0:h.get q0=some (.cells (us s) true 1)):
 Al T 66 [.slice none 0 0,fnC q0] h λv h'=>Own h.next h' 3 v (aU s 512).length (ceS (aU s 512)):=by
 have hp:=F.p;refine .of hp F.f264 hr (λv h1 hv q=>Own.flat hv q) ?_;have kq:=hr.wf.bK g0;have hl5:=lK s 512;have x1:Ext h (h.push (.cells (cellsOf (Value.slice none 0 0)) true 1)):=(Ext.refl h).push _;have q1:(h.push (.cells (cellsOf (Value.slice none 0 0)) true 1)).get h.next=some (.cells [.slice none 0 0] true 1):=z3 _ _
 have n1:(h.push (.cells (cellsOf (Value.slice none 0 0)) true 1)).next=h.next+1:=rfl
 refine Y4 ?_;generalize(h.push (.cells (cellsOf (Value.slice none 0 0)) true 1))=H at*;have W:=x1.wf hr.wf;have hL:=x1.log.trans hr.log;refine Y5 ?_;refine Ac (lo:=h.next) (P:=PCe H.next h.next H (.loop [(2, .pointer (some ⟨h.next,0,none⟩)),(6,fnC q0)] [7] vN vP 0 .normal) (aU s 512)) rfl (by rfl) (by rw[F.f265];rfl) (by omega) (by omega) hL W ?_ (λH p=>⟨_,_,_,_,p.loop⟩) ?_
 ·have Y:Cb T h.next (H.next+1) H.next h.next ceV (aU s 512) (PCe H.next h.next H (.loop [(2, .pointer (some ⟨h.next,0,none⟩)),(6,fnC q0)] [7] vN vP 0 .normal)):=by
   refine⟨by omega,λdone x rest Hh hsp hrH hN hP=> ?_,PCe.eO (by omega)⟩;obtain⟨p1,p2,p3,v,p4,p5⟩:=hP;have hdl:done.length<1000000:=by
    have:=congrArg List.length hsp;rw[List.length_append]at this;omega
   refine FW.mono' (En hp hrH (lo:=h.next) (lo2:=H.next+1) (cs:=done) hdl (Nat.le_refl _) p2 p4 p5 (by omega) (by omega) (by omega) hN) ?_;rintro r' H' ⟨r1,r2,r3,v',r4,r5,r6,r7,r8,r9⟩;exact⟨r1,r2,r3,⟨_,_,_,r4,r5⟩,λz hz=>(r7 z (by omega) (by omega)).trans (p1 z hz),(r7 _ (by omega) (by omega)).trans p2,by omega,v',r4,r6⟩
  exact JD F (.of (W.push _)) (q0:=q0) (l:=H.next) (N:=H.next+1) (lo:=h.next) hs (Nat.le_refl _) (by show h.next<=H.next+1;omega) Y ((z4 (by omega)).trans ((x1.old _ kq).trans g0)) (λd H' hP=>(hP.old 0 h2).trans (hg.ext x1 h2))
   ⟨λz hz=>z4 (by omega),z3 _ _,Nat.lt_succ_self _,_,(z4 (by omega)).trans q1, .nil⟩
 intro h4 h5 k1 k2 k3 k4 k5 k6 hP;obtain⟨p1,p2,p3,v,p4,p5⟩:=hP;have D:=(k5 h.next (by omega)).trans p4;have ow:=p5.keep (h':=h5) (by omega) λz hz _=>k5 z (by omega);generalize aU s 512=cs at*;refine Y7 ?_;exact cF k1 rfl (ow.low (by omega))
theorem Eo(F:rG T){h:Heap}(hr:Rdy h)(hg:Tab h)(h2:0<h.next){q0:Nat}{s:List Nat}(hs:IsS s)(g0:h.get q0=some (.cells (us s) true 1)):
 Al T 47 [fnC q0] h λv h'=>Own h.next h' 3 v (aU s 512).length (ceS (aU s 512)):=by
 refine .of F.p F.f213 hr (λv h1 hv q=>Own.flat hv q) ?_;have C:=GS F (h:={h with log:=[]}) (.of hr.wf) hg h2 hs g0;refine Y6 ?_;refine FW.al C (λv h' m q=>q.log m) ?_;rintro v H1 x1 q1;clear C;refine Y3 ?_;exact cF (x1.log.trans hr.log) rfl q1
theorem vQ(F:rG T){h:Heap}(hr:Rdy h){s:List Nat}(hs:IsS s):
 Al T 48 [sv s] h λv h'=>∃q,v=fnC q/\h'.get q=some (.cells (us s) true 1)/\h.next<=q/\q<h'.next:=by
 refine .of F.p F.f214 hr ?_ ?_
 ·rintro v h1 hv ⟨q,rfl,_⟩;cases hv
 refine Y9 ?_;exact cF hr.log rfl ⟨h.next,rfl,z3 _ _,Nat.le_refl _,Nat.lt_succ_self _⟩
theorem JC(F:rG T){h:Heap}(hr:Rdy h)(hg:Tab h)(h2:0<h.next){s:List Nat}(hs:IsS s):
 Al T 24 [sv s] h λv h'=>Own h.next h' 3 v (aU s 512).length (ceS (aU s 512)):=by
 refine .of F.p F.f123 hr (λv h1 hv q=>Own.flat hv q) ?_;have k8:=bA hs.len;have k9:=bV hs.len;have x0:Ext h (h.push (.cells (cellsOf (sv s)) true 1)):=(Ext.refl h).push _;have g0:(h.push (.cells (cellsOf (sv s)) true 1)).get h.next=some (.cells (us s) true 1):=z3 h _
 have n0:(h.push (.cells (cellsOf (sv s)) true 1)).next=h.next+1:=rfl
 refine Y4 ?_;generalize(h.push (.cells (cellsOf (sv s)) true 1))=H at*;have W:=x0.wf hr.wf;have hL:=x0.log.trans hr.log;have C:=vQ F (h:={H with log:=[]}) (.of W) hs;refine Y3 ?_;refine FW.al C (λv h' m q=>q) ?_;rintro _ H1 x1 ⟨q,rfl,gq,q1,q2⟩;clear C;have W1:=x1.wf W;have hL1:=x1.log.trans hL;have n1:=x1.next
 have hg1:Tab H1:=hg.ext (x0.trans x1) h2;have C:=Eo F (h:={H1 with log:=[]}) (.of W1) hg1 (by show 0<H1.next;omega) hs gq;generalize aU s 512=cs at*;skip;refine yC ?_;refine FW.al C (λv h' m q=>q.log m) ?_;rintro v H2 x2 q2';clear C;refine Y3 ?_;exact cF (x2.log.trans hL1) rfl (q2'.low (by show h.next<=H1.next;omega))
theorem zg(F:rG T){h:Heap}(hr:Rdy h){q0 l N lo:Nat}{s:List Nat}(hs:IsS s){P:List Ce->Heap->Prop}{S:Heap->Prop}(hN:N<=h.next)(hlo:lo<=h.next)(hlN:l<N)(Y:I7 T lo N l ceV (aU s 512) P S)
 (g0:h.get q0=some (.cells (us s) true 1))(htab:∀d H,P d H->Tab H)(h0:P [] h):
 GrX T 67 [.func (.yield l) #[] #[], .pointer (some ⟨q0,0,none⟩)] h lo (P (aU s 512)) S:=by
 have hlb:l<h.next:=by omega
 have hp:=F.p;have k8:=bA hs.len;have k9:=bV hs.len;refine GrX.of (l:=l) hp F.f265 hlo hlb (λh1 h2 hn ha q=>Y.eO _ _ _ q (Nat.le_trans hN hn) λx hx=>ha x (by omega)) Y.GA ?_;refine Y5 ?_
 refine cM (λk e ds h'=>∃z:Nat,z<=8/\8-z=k/\e=[(0, .func (.yield l) #[] #[]),(6,sv s),(7, .int .i64 (z:Nat))]/\ds=[]/\Lk lo h h'∧P (aU s (z*64)) h')
  ⟨0,by omega,rfl,rfl,rfl, .refl _ _,h0⟩ ?_
 rintro k e ds h' ⟨z,hz8,rfl,rfl,rfl,hk,hP⟩;by_cases hz:z<8
 ·have e1:bH (us s).toArray.toList (z*1)=some (.int .u64 ((s.getD z 0:Nat):Int)):=by
   rw[List.toList_toArray,Nat.mul_one,cD];unfold us;rw[List.getElem?_map,jY (by rw[hs.len];exact hz)];rfl
  have hx0:=hs.jZ z;obtain⟨rest,hrest⟩:∃r,aU s 512=aU s (z*64)++mM s z++r:=by
   obtain⟨r,e⟩:=tr s (n:=(z+1)*64) (512-(z+1)*64);rw[show(z+1)*64+(512-(z+1)*64)=512 by omega,iV s hz]at e;exact⟨r,e⟩
  have hplane:=iV s hz;have hpl:mM s z=(bitsOf (s.getD z 0)).map (eN z):=rfl;generalize hx:s.getD z 0=x0 at*;generalize mM s z=pl at*;refine Y11 ?_;refine aD (vG (by exact rfl) (by exact rfl) (by omega) (by assumption)) ?_;refine Y4 ?_
  refine cM (λk e ds h''=>∃(x:Nat) (d:List Ce),x<U64/\d++(bitsOf x).map (eN z)=pl/\(bitsOf x).length=k/\e=[(0, .func (.yield l) #[] #[]),(3, .int .i64 (z:Nat)),(4, .int .u64 (x:Nat)),(6,sv s),(7, .int .i64 (z:Nat))]/\ds=[]/\Lk lo h h''∧P (aU s (z*64)++d) h'')
   ⟨x0,[],hx0,by rw[hpl];rfl,rfl,rfl,rfl,hk,by rw[List.append_nil];exact hP⟩ ?_
  clear hP hk h';rintro k e ds h' ⟨x,d,hxl,hd,rfl,rfl,rfl,hk,hP⟩;by_cases hx:x=0
  ·subst hx;rw[um]at hd;have hd:d=pl:=by simpa using hd
   subst hd;rw[←hplane]at hP;refine Y16 ?_;exact⟨8-(z+1),by omega,z+1,by omega,rfl,rfl,rfl,hk,hP⟩
  ·obtain⟨b,m,hform⟩:=wX x hx;have hb64:=(u9 hform hxl).1;have hstep:=uk hform hxl;have m1:aq .neq (.int .u64 (x:Nat)) (.int .u64 0)=some (.bool true):=jE (by omega);have C:=QZ F.p F.f266 (h:={h' with log:=[]}) (.of (hk.wf hr.wf)) (show Tab h' from htab _ _ hP) hxl hform;have m2:aq .rem (.int .i64 (b:Nat)) (.int .i64 8)=some (.int .i64 ((b % 8:Nat):Int)):=KW;have m3:aq .quo (.int .i64 (b:Nat)) (.int .i64 8)=some (.int .i64 ((b / 8:Nat):Int)):=KV (by omega);have m4:aq .sub (.int .u64 (x:Nat)) (.int .u64 1)=some (.int .u64 ((x-1:Nat):Int)):=mA (by rw[show(x:Int)-1=((x-1:Nat):Int)by omega];exact nH (by unfold U64 at hxl;omega));have m5:=qy (a:=x) (b:=x-1) hxl (Nat.lt_of_le_of_lt (Nat.sub_le x 1) hxl);rw[hstep]at hd⊢;have hlt:Nat.land x (x-1)<U64:=u6 hxl;generalize Nat.land x (x-1)=x' at*;rw[List.map_cons]at hd;have hsp:aU s 512=(aU s (z*64)++d)++eN z b::((bitsOf x').map (eN z)++rest):=by
    rw[hrest,←hd];simp
   refine Y13 ?_;refine FW.pu C ?_;clear C;refine Y10 ?_;refine kZ (fn:= .yield l) (args:=[ceV (eN z b)]) (by rfl) ?_;refine Y.call hp (by rw[hsp];simp) (hk.wf hr.wf) (Nat.le_trans hlo hk.next) (Nat.le_trans hN hk.next) hlb hP ?_ ?_
   rotate_left
   ·intro h9 hk9 hm9 hS9;refine Y12 ?_;exact JS ((hk.trans hk9).log (by rw[hr.log];exact eF.nil _)) rfl hm9 hS9
   intro h2 hk2 _ hP2;refine Y13 ?_;exact⟨(bitsOf x').length,by simp,x',d++[eN z b],hlt,by rw[←hd];simp,rfl,rfl,rfl,hk.trans hk2,by rw[←List.append_assoc];exact hP2⟩
 ·obtain rfl:z=8:=by omega
  refine Y9 ?_;exact JQ (hk.log (by rw[hr.log];exact eF.nil _)) rfl hP
end Go.A.Pk
end
section
namespace Go.A.Pk
variable {T:Nat->Option an}
structure Bx where
 lo:Ce
 hi:Ce
 deriving DecidableEq
def bxL(b:Bx):List Value:=ceL b.lo++ceL b.hi
def bxV(b:Bx):Value:= .agg (bxL b).toArray
def Cr(b:Bx)(c:Ce):Bx:=⟨⟨mi b.lo.x c.x,mi b.lo.y c.y,mi b.lo.z c.z⟩,⟨mx b.hi.x c.x,mx b.hi.y c.y,mx b.hi.z c.z⟩⟩
def bx0:Bx:=⟨⟨7,7,7⟩,⟨0,0,0⟩⟩
def bxS(l:List Ce):Bx:=l.foldl Cr bx0
theorem Jx(l:List Ce)(c:Ce):bxS (l++[c])=Cr (bxS l) c:=by unfold bxS;rw[List.foldl_append];rfl
section
open I
def vM:aR:=I.R [g 5 (.new [O,O,O]),S 3 5 16] [4,5]
def vO:aR:=(.block 1 (Q (I.R [A 17 0 4,A 18 3 4,M 6 17,M 7 18] [5,6,7]) (Q (.draw [M 19 6,M 20 6,M 21 6,M 22 6,g 23 (.bX (t 22)),A 24 0 23,L 25 24,A 26 0 5,L 27 26,g 28 (.eC false [(t 25),(t 27)]),M 29 6,g 30 (.bX (t 29)),A 31 1 30,L 32 31,A 33 1 5,L 34 33,g 35 (.eC false [(t 32),(t 34)]),M 36 6,g 37 (.bX (t 36)),A 38 2 37,L 39 38,A 40 2 5,L 41 40,g 42 (.eC false [(t 39),(t 41)]),g 43 (.bX (t 19)),A 44 0 43,S 1 44 28,g 45 (.bX (t 20)),A 46 1 45,S 1 46 35,g 47 (.bX (t 21)),A 48 2 47,S 1 48 42] [0,1,2,3,4,5,6,7,8,9,10,11,12,13,14,15,16,17,18,19,20,21,22,23,24,25,26,27,28,29,30,31,32] [0,0,0,0,8,24,56,0,128,504,0,1024,3072,7168,0,16384,64512,0,131072,393216,917504,0,2097152,8257536,1982457,18759673,52314105,119537659,253755387,522190843,1073741823,2147483647,4294967295] [5,7])
 (.draw [M 49 7,M 50 7,M 51 7,M 52 7,g 53 (.bX (t 52)),A 54 0 53,L 55 54,A 56 0 5,L 57 56,g 58 (.eC true [(t 55),(t 57)]),M 59 7,g 60 (.bX (t 59)),A 61 1 60,L 62 61,A 63 1 5,L 64 63,g 65 (.eC true [(t 62),(t 64)]),M 66 7,g 67 (.bX (t 66)),A 68 2 67,L 69 68,A 70 2 5,L 71 70,g 72 (.eC true [(t 69),(t 71)]),g 73 (.bX (t 49)),A 74 0 73,S 1 74 58,g 75 (.bX (t 50)),A 76 1 75,S 1 76 65,g 77 (.bX (t 51)),A 78 2 77,S 1 78 72] [0,1,2,3,4,5,6,7,8,9,10,11,12,13,14,15,16,17,18,19,20,21,22,23,24,25,26,27,28,29,30,31,32] [0,0,0,0,8,24,56,0,128,504,0,1024,3072,7168,0,16384,64512,0,131072,393216,917504,0,2097152,8257536,1982457,18759673,52314105,119537659,253755387,522190843,1073741823,2147483647,4294967295] []))))
end
theorem Jy(hp:aF T){H:Heap}(hr:Rdy H){q l lo N:Nat}{fv fv2:Value}{b:Bx}{c:Ce}(hlo:lo<=q)(hql:q<l)(hlN:l<N)
 (gl:H.get l=some (.loop [(2,fv2),(4, .pointer (some ⟨q,0,none⟩)),(15,fv)] [16] vM vO 0 .normal))
 (go:H.get q=some (.cells (bxL b) true 1)){S:Heap->Prop}:
 FW T (.yield l) [ceV c] H λr H'=>(∀z∈H'.log,lo<=z/\z<N)/\(r= .ret (.bool true)/\(H'.get q=some (.cells (bxL (Cr b c)) true 1)/\(∀z,z<H.next->z≠q->H'.get z=H.get z)/\H.next<=H'.next)∨r= .ret (.bool false)/\l∈H'.log/\S H'):=by
 have no:q≠l:=by omega
 have ko:=hr.wf.bK go;have kl:=hr.wf.bK gl;refine FW.NF hp (R:=λH'=>H'.get q=some (.cells (bxL (Cr b c)) true 1)/\(∀z,z<H.next->z≠q->H'.get z=H.get z)/\H.next<=H'.next) gl rfl kl ⟨by omega,hlN⟩ ?_;unfold vM;refine Y3 ?_;refine bL ?_;refine y1 ?_;refine⟨rfl,YG,?_⟩;unfold vO;refine kG ?_;refine WE.uM ?_;intro hA hAe;have A1:∀z,z<H.next->z≠l->H.get z=hA.get z:=λz hz hne=>by rw[hAe];symm;simp(disch:=first|omega|(simp only[z1,z2];omega))only[z5,z4]
 have A3:hA.get H.next=some (.cells (ceL c) true 1):=by rw[hAe];(simp(disch:=first|omega|(simp only[z1,z2];omega))only[z3,z4,z5,z6,z7,z1,z2,gl,go];exact rfl)
 have A2:hA.get l=some (.loop [(2,fv2),(4, .pointer (some ⟨q,0,none⟩)),(15,fv)] [16] vM vO 1 .normal):=by rw[hAe];(simp(disch:=first|omega|(simp only[z1,z2];omega))only[z3,z4,z5,z6,z7,z1,z2,gl,go,A3];exact rfl)
 have A5:hA.next=H.next+1:=by rw[hAe];rfl
 have A6:hA.log=[]:=by rw[hAe];simp(disch:=first|omega|(simp only[z1,z2];omega))only[Heap.aB,Heap.sj];exact hr.log
 have A7:WF hA:=by rw[hAe];exact(((hr.wf.push _).as (AS.wr _ _ _ _)).as (AS.wr _ _ _ _))
 clear hAe;have Bo:=(A1 q ko no).symm.trans go;obtain⟨⟨x1,y1',z1'⟩,⟨x2,y2',z2'⟩⟩:=b;obtain⟨cx,cy,cz⟩:=c;unfold bxL ceL at Bo;dsimp only[List.cons_append,List.nil_append]at Bo;unfold ceL at A3;dsimp only at A3;clear go;refine Y34 ?_;refine gI (vs:=[.int .i64 x1, .int .i64 y1', .int .i64 z1', .int .i64 x2, .int .i64 y2', .int .i64 z2']) (ws:=[.int .i64 (mi x1 cx), .int .i64 y1', .int .i64 z1', .int .i64 x2, .int .i64 y2', .int .i64 z2']) rfl rfl rfl (by exact rfl) (by exact rfl) (by exact rfl) (Bo) (by exact rfl) (by exact rfl) (by show q<hA.next;omega) (by(repeat apply aG rfl);apply ah rfl (aa rfl (Ak (by exact rfl) (by exact rfl)) (by exact dg _ _)) rfl;apply ah rfl (aa rfl (bY (by exact rfl) YG (by exact rfl)) (by exact dg _ _)) rfl;apply ah rfl (aa rfl (cT (by exact rfl)) (by exact aX _)) rfl;(repeat apply aG rfl);apply ah rfl (aa rfl (Ak (by exact rfl) (by exact rfl)) (by exact dg _ _)) rfl;apply ah rfl (aa rfl (bY (by exact rfl) YG (by exact rfl)) (by exact dg _ _)) rfl;apply ah rfl (aa rfl (cT (by exact rfl)) (by exact aX _)) rfl;(repeat apply aG rfl);apply ah rfl (aa rfl (eG (by exact rfl)) (by exact aX _)) rfl;apply ah rfl (aa rfl (eG (by exact rfl)) (by exact aX _)) rfl;apply aG rfl;exact bh) ?_;refine Y2 ?_;refine gI (vs:=[.int .i64 (mi x1 cx), .int .i64 y1', .int .i64 z1', .int .i64 x2, .int .i64 y2', .int .i64 z2']) (ws:=[.int .i64 (mi x1 cx), .int .i64 (mi y1' cy), .int .i64 z1', .int .i64 x2, .int .i64 y2', .int .i64 z2']) rfl rfl rfl (by exact rfl) (by exact rfl) (by exact rfl) (Heap.aI (Bo)) (by exact rfl) (by exact rfl) (by show q<hA.next;omega) (by(repeat apply aG rfl);apply ah rfl (aa rfl (Ak (by exact rfl) (by exact rfl)) (by exact dg _ _)) rfl;apply ah rfl (aa rfl (bY (by exact rfl) YG (by exact rfl)) (by exact dg _ _)) rfl;apply ah rfl (aa rfl (cT (by exact rfl)) (by exact aX _)) rfl;(repeat apply aG rfl);apply ah rfl (aa rfl (eG (by exact rfl)) (by exact aX _)) rfl;apply aG rfl;exact bh) ?_;refine Y2 ?_;refine gI (vs:=[.int .i64 (mi x1 cx), .int .i64 (mi y1' cy), .int .i64 z1', .int .i64 x2, .int .i64 y2', .int .i64 z2']) (ws:=[.int .i64 (mi x1 cx), .int .i64 (mi y1' cy), .int .i64 (mi z1' cz), .int .i64 x2, .int .i64 y2', .int .i64 z2']) rfl rfl rfl (by exact rfl) (by exact rfl) (by exact rfl) (Heap.aI (Heap.aI (Bo))) (by exact rfl) (by exact rfl) (by show q<hA.next;omega) (by(repeat apply aG rfl);exact bh) ?_;refine Y30 ?_;refine gI (vs:=[.int .i64 (mi x1 cx), .int .i64 (mi y1' cy), .int .i64 (mi z1' cz), .int .i64 x2, .int .i64 y2', .int .i64 z2']) (ws:=[.int .i64 (mi x1 cx), .int .i64 (mi y1' cy), .int .i64 (mi z1' cz), .int .i64 (mx x2 cx), .int .i64 y2', .int .i64 z2']) rfl rfl rfl (by exact rfl) (by exact rfl) (by exact rfl) (Heap.aI (Heap.aI (Heap.aI (Bo)))) (by exact rfl) (by exact rfl) (by show q<hA.next;omega) (by(repeat apply aG rfl);apply ah rfl (aa rfl (FK (by exact rfl) (by exact rfl)) (by exact dg _ _)) rfl;apply ah rfl (aa rfl (bY (by exact rfl) YG (by exact rfl)) (by exact dg _ _)) rfl;apply ah rfl (aa rfl (cT (by exact rfl)) (by exact aX _)) rfl;(repeat apply aG rfl);apply ah rfl (aa rfl (FK (by exact rfl) (by exact rfl)) (by exact dg _ _)) rfl;apply ah rfl (aa rfl (bY (by exact rfl) YG (by exact rfl)) (by exact dg _ _)) rfl;apply ah rfl (aa rfl (cT (by exact rfl)) (by exact aX _)) rfl;(repeat apply aG rfl);apply ah rfl (aa rfl (eG (by exact rfl)) (by exact aX _)) rfl;apply ah rfl (aa rfl (eG (by exact rfl)) (by exact aX _)) rfl;apply aG rfl;exact bh) ?_;refine Y2 ?_;refine gI (vs:=[.int .i64 (mi x1 cx), .int .i64 (mi y1' cy), .int .i64 (mi z1' cz), .int .i64 (mx x2 cx), .int .i64 y2', .int .i64 z2']) (ws:=[.int .i64 (mi x1 cx), .int .i64 (mi y1' cy), .int .i64 (mi z1' cz), .int .i64 (mx x2 cx), .int .i64 (mx y2' cy), .int .i64 z2']) rfl rfl rfl (by exact rfl) (by exact rfl) (by exact rfl) (Heap.aI (Heap.aI (Heap.aI (Heap.aI (Bo))))) (by exact rfl) (by exact rfl) (by show q<hA.next;omega) (by(repeat apply aG rfl);apply ah rfl (aa rfl (FK (by exact rfl) (by exact rfl)) (by exact dg _ _)) rfl;apply ah rfl (aa rfl (bY (by exact rfl) YG (by exact rfl)) (by exact dg _ _)) rfl;apply ah rfl (aa rfl (cT (by exact rfl)) (by exact aX _)) rfl;(repeat apply aG rfl);apply ah rfl (aa rfl (eG (by exact rfl)) (by exact aX _)) rfl;apply aG rfl;exact bh) ?_;refine Y2 ?_;refine gI (vs:=[.int .i64 (mi x1 cx), .int .i64 (mi y1' cy), .int .i64 (mi z1' cz), .int .i64 (mx x2 cx), .int .i64 (mx y2' cy), .int .i64 z2']) (ws:=[.int .i64 (mi x1 cx), .int .i64 (mi y1' cy), .int .i64 (mi z1' cz), .int .i64 (mx x2 cx), .int .i64 (mx y2' cy), .int .i64 (mx z2' cz)]) rfl rfl rfl (by exact rfl) (by exact rfl) (by exact rfl) (Heap.aI (Heap.aI (Heap.aI (Heap.aI (Heap.aI (Bo)))))) (by exact rfl) (by exact rfl) (by show q<hA.next;omega) (by(repeat apply aG rfl);exact bh) ?_;refine Y3 ?_;refine⟨⟨_,YG,rfl⟩,λz hz=> ?_, .inl ⟨rfl,λh5 hn h5e h5l=> ?_⟩⟩
 ·have key:z=q:=by
   rcases dw hz with h|hz
   ·exact h
   rcases dw hz with h|hz
   ·exact h
   rcases dw hz with h|hz
   ·exact h
   rcases dw hz with h|hz
   ·exact h
   rcases dw hz with h|hz
   ·exact h
   rcases dw hz with h|hz
   ·exact h
   rw[A6]at hz;cases hz
  subst key;exact⟨hlo,by omega⟩
 ·refine⟨(h5e q ko no).trans (Heap.aI (Heap.aI (Heap.aI (Heap.aI (Heap.aI (Heap.aI (Bo))))))),λz hz hne=> ?_,hn⟩;by_cases hl:z=l
  ·subst hl;rw[gl];exact h5l
  ·refine(h5e z hz hl).trans ?_;refine Eq.trans ?_ (A1 z hz hl).symm;simp only[z5 hne]
structure PXo (l q:Nat) (H0:Heap) (L:bG) (f:List Ce->List Value) (done:List Ce) (H:Heap):Prop where
 old:∀z,z<l->z≠q->H.get z=H0.get z
 loop:H.get l=some L
 val:H.get q=some (.cells (f done) true 1)
theorem PXo.eO{l q:Nat}{H0:Heap}{L:bG}{f:List Ce->List Value}(hq:q<l)(done:List Ce)(H H':Heap)(p:PXo l q H0 L f done H)(_:l+1<=H'.next)(h:∀x,x<l+1->H'.get x=H.get x):PXo l q H0 L f done H':=
 ⟨λz hz hne=>(h z (by omega)).trans (p.old z hz hne),(h l (by omega)).trans p.loop,(h q (by omega)).trans p.val⟩
def dS(s:List Nat):Bx×Bool:=if s=s0 then(⟨c0,c0⟩,false)else(bxS (aU s 512),true)
def Rm(p:Bx×Bool):Value:= .tuple #[bxV p.1, .bool p.2]
structure Qs (T:Nat->Option an):Prop where
 cp:rG T
 f210:T 53=some f210
theorem ze(F:Qs T){h:Heap}(hr:Rdy h)(hg:Tab h)(h2:0<h.next){s:List Nat}(hs:IsS s):Pu T 53 [sv s] h (Rm (dS s)):=by
 have hp:=F.cp.p;refine .of hp F.f210 hr rfl ?_;have k8:=bA hs.len;have k9:=bV hs.len;have x0:Ext h ((h.push (.cells (cellsOf (sv s)) true 1)).push (.cells [I.O,I.O,I.O,I.O,I.O,I.O] true 1)):=((Ext.refl h).push _).push _;have g0:((h.push (.cells (cellsOf (sv s)) true 1)).push (.cells [I.O,I.O,I.O,I.O,I.O,I.O] true 1)).get h.next=some (.cells (us s) true 1):=(z4 (Nat.lt_succ_self _)).trans (z3 h _)
 have g1:((h.push (.cells (cellsOf (sv s)) true 1)).push (.cells [I.O,I.O,I.O,I.O,I.O,I.O] true 1)).get (h.next+1)=some (.cells [I.O,I.O,I.O,I.O,I.O,I.O] true 1):=z3 _ _;have n0:((h.push (.cells (cellsOf (sv s)) true 1)).push (.cells [I.O,I.O,I.O,I.O,I.O,I.O] true 1)).next=h.next+2:=rfl
 refine Y5 ?_;generalize((h.push (.cells (cellsOf (sv s)) true 1)).push (.cells [I.O,I.O,I.O,I.O,I.O,I.O] true 1))=H at*;have W:=x0.wf hr.wf;have hL:=x0.log.trans hr.log;unfold dS;by_cases he:s=s0
 ·rw[if_pos he];have ck0:cw 6 (bU 0 (bxL ⟨c0,c0⟩))=bxL ⟨c0,c0⟩:=rfl;refine Y4 ?_;refine aD (oD (b:=s0) (by exact rfl) (by exact rfl) hs.len rfl) ?_;rw[decide_eq_true he];refine Y9 ?_;refine aA ?_ (dF (own:=true) (s:=1) (l:=bxL ⟨c0,c0⟩) rfl ?_ ck0 rfl rfl) rfl
  ·rw[Heap.aB (by show h.next<=h.next+1;omega)];exact hL
  ·exact YG
 ·rw[if_neg he];have x1:=ff (h:=H) (base:=h.next) (by omega) (.cells [I.O,I.O,I.O,I.O,I.O,I.O] true 1) (.cells (bxL bx0) true 1);have q1:=fO (h:=H) (base:=h.next) [I.O,I.O,I.O,I.O,I.O,I.O] (bxL bx0);refine Y4 ?_;refine aD (oD (b:=s0) (by exact rfl) (by exact rfl) hs.len rfl) ?_;rw[decide_eq_false he];refine Y4 ?_;refine cW (E0:=[(1, .pointer (some ⟨h.next,0,none⟩)),(2, .pointer (some ⟨h.next+1,0,none⟩)),(4, .pointer (some ⟨H.next,0,none⟩))]) (P:=λh'=>Ext H h'∧h'.next=H.next+1/\h'.get H.next=some (.cells (bxL bx0) true 1)) ?_ ?_
  ·refine Y5 ?_;refine bL ?_;refine y1 ?_;exact⟨rfl,rfl,rfl,ff (by omega) _ _,rfl,fO _ _⟩
  rintro H1 ⟨x1,n1,q1⟩;have ey1':=x0.trans x1;have W1:=ey1'.wf hr.wf;have hL1:=ey1'.log.trans hr.log;have ga:=(x1.old _ (by omega)).trans g0;have gb:=(x1.old _ (by omega)).trans g1;have C:=vQ F.cp (h:={H1 with log:=[]}) (.of W1) hs;clear g0 g1;refine Y4 ?_;refine FW.al C (λv h' m q=>q) ?_;rintro _ H2 x2 ⟨q,rfl,gq,q2,q3⟩;clear C;have q2:H1.next<=q:=q2
  have ey2':=ey1'.trans x2;have W2:=ey2'.wf hr.wf;have hL2:=ey2'.log.trans hr.log;have n2:=x2.next
  have gb2:=(x2.old _ (by omega)).trans gb;have q12:=(x2.old _ (by omega)).trans q1;have hg2:Tab H2:=hg.ext ey2' h2;clear ga gb q1;refine Y2 ?_;refine Ae (lo:=H.next) (P:=PXo H2.next H.next H2 (.loop [(2, .pointer (some ⟨h.next+1,0,none⟩)),(4, .pointer (some ⟨H.next,0,none⟩)),(15,fnC q)] [16] vM vO 0 .normal) (λd=>bxL (bxS d)) (aU s 512)) (S:=λ_=>False) rfl (by rfl) (by rw[F.cp.f265];rfl) (by omega) (by omega) hL2 W2 ?_ (λH p=>⟨_,_,_,_,p.loop⟩) (λH p=>p.elim) ?_ (λ_ _ _ _ _ _ _ p=>p.elim)
  ·have Y:I7 T H.next (H2.next+1) H2.next ceV (aU s 512) (PXo H2.next H.next H2 (.loop [(2, .pointer (some ⟨h.next+1,0,none⟩)),(4, .pointer (some ⟨H.next,0,none⟩)),(15,fnC q)] [16] vM vO 0 .normal) (λd=>bxL (bxS d))) (λ_=>False):=by
    refine⟨λdone x Hh hx hrH hN hP=> ?_,PXo.eO (by omega),λ_ _ h=>h,λ_ h=>h.elim⟩;refine FW.mono' (Jy hp hrH (lo:=H.next) (N:=H2.next+1) (S:=λ_=>False) (Nat.le_refl _) (by omega) (by omega) hP.loop hP.val) ?_;rintro r' H' ⟨r1,r2⟩;refine⟨r1,r2.imp (λ⟨e,g,o,_⟩=>⟨e,λz hz hne=>(o z (by omega) hne).trans (hP.old z hz hne),(o _ (by omega) (by omega)).trans hP.loop,?_⟩) id⟩;rw[Jx];exact g
   exact zg F.cp (.of (W2.push _)) (q0:=q) (l:=H2.next) (N:=H2.next+1) (lo:=H.next) hs (Nat.le_refl _) (by show H.next<=H2.next+1;omega) (Nat.lt_succ_self _) Y ((z4 (by omega)).trans gq) (λd H' hP=>(hP.old 0 (by omega) (by omega)).trans hg2)
    ⟨λz hz _=>z4 hz,z3 _ _,(z4 (by omega)).trans q12⟩
  intro h4 h5 k1 k2 k3 k4 k5 hP;have D:=(k5 H.next (by omega)).trans hP.val;have D2:=(k5 (h.next+1) (by omega)).trans ((hP.old _ (by omega) (by omega)).trans gb2);generalize bxS (aU s 512)=b at*;have ck:cw 6 (bU 0 (bxL b))=bxL b:=rfl;have ckl:Nat.beq (cm (bxL b)) 6=true:=rfl;refine Y8 ?_;refine aA ?_ (dF (own:=true) (s:=1) (l:=bxL b) rfl ?_ ck ckl rfl) rfl
  ·rw[Heap.aB (by show h.next<=h.next+1;omega)];exact k1
  ·exact YG
def gK:Nat->Ce->Ce
 |0,c=>c
 |1,c=>⟨c.x,7-c.z,c.y⟩
 |2,c=>⟨c.x,7-c.y,7-c.z⟩
 |3,c=>⟨c.x,c.z,7-c.y⟩
 |4,c=>⟨c.z,c.y,7-c.x⟩
 |_,c=>⟨7-c.z,c.y,c.x⟩
def ME(c:Ce):Ce:=⟨7-c.y,c.x,c.z⟩
def sN:Nat->Ce->Ce
 |0,c=>c
 |n+1,c=>ME (sN n c)
def kM(t:Nat)(c:Ce):Ce:=sN (t % 4) (gK (t / 4) c)
structure InB (c:Ce):Prop where
 x:0<=c.x/\c.x<=7
 y:0<=c.y/\c.y<=7
 z:0<=c.z/\c.z<=7
theorem nU{c:Ce}:inG c=true↔InB c:=by
 unfold inG;rw[decide_eq_true_eq];exact⟨λh=>⟨h.1,h.2.1,h.2.2⟩,λh=>⟨h.x,h.y,h.z⟩⟩
theorem InB.Vj{c:Ce}(h:InB c)(k:Nat):InB (gK k c):=by
 obtain⟨h1,h2,h3⟩:=h;unfold gK;split<;>(constructor<;>(first|omega|(dsimp only;omega)))
theorem InB.rot{c:Ce}(h:InB c):∀n,InB (sN n c)
 |0=>h
 |n+1=>by
  obtain⟨h1,h2,h3⟩:=h.rot n;unfold sN ME;exact⟨by dsimp only;omega,h1,h3⟩
theorem InB.Xg{c:Ce}(h:InB c)(t:Nat):InB (kM t c):=(h.Vj _).rot _
theorem gO{a:Int}(h:0<=a/\a<=7):aq .sub (.int .i64 7) (.int .i64 a)=some (.int .i64 (7-a)):=mA (ct (by omega) (by omega))
theorem RT{a:Nat}:aq .rem (.int .i64 a) (.int .i64 4)=some (.int .i64 ((a % 4:Nat):Int)):=by
 have e:(a:Int).tmod 4=((a % 4:Nat):Int):=by rw[Int.tmod_eq_emod_of_nonneg (by omega)];omega
 simp[aq,arith,e]
theorem RS{a:Nat}(h1:a<9223372036854775808):aq .quo (.int .i64 a) (.int .i64 4)=some (.int .i64 ((a / 4:Nat):Int)):=by
 have e:fN .i64 ((a:Int).tdiv 4)=((a / 4:Nat):Int):=by
  rw[Int.tdiv_eq_ediv_of_nonneg (by omega),ct (by omega) (by omega)];omega
 have e2:aq .quo (.int .i64 a) (.int .i64 4)=some (.int .i64 (fN .i64 ((a:Int).tdiv 4))):=rfl;rw[e2,e]
structure rH (T:Nat->Option an):Prop where
 p:aF T
 f263:T 74=some f263
 f317:T 89=some f317
 f318:T 90=some f318
 f319:T 91=some f319
 f320:T 92=some f320
 f321:T 93=some f321
 f322:T 94=some f322
theorem Vk(F:rH T){h:Heap}(hr:Rdy h)(v:Value){c:Ce}(hc:InB c):Pu T 89 [v,ceV c] h (ceV (gK 0 c)):=by
 refine .of F.p F.f317 hr rfl ?_;obtain⟨cx,cy,cz⟩:=c;obtain⟨hx,hy,hz⟩:=hc;dsimp only at hx hy hz;have mx:=gO hx;have my:=gO hy;have mz:=gO hz;have ck:cw 3 (bU 0 (ceL (gK 0 ⟨cx,cy,cz⟩)))=ceL (gK 0 ⟨cx,cy,cz⟩):=rfl;refine Y9 ?_;refine aA ?_ (dF (own:=true) (s:=1) rfl ?_ ck rfl rfl) rfl
 ·rw[Heap.aB (by show h.next<=h.next+1;omega)];exact hr.log
 ·exact YG
theorem Vl(F:rH T){h:Heap}(hr:Rdy h)(v:Value){c:Ce}(hc:InB c):Pu T 90 [v,ceV c] h (ceV (gK 1 c)):=by
 refine .of F.p F.f318 hr rfl ?_;obtain⟨cx,cy,cz⟩:=c;obtain⟨hx,hy,hz⟩:=hc;dsimp only at hx hy hz;have mx:=gO hx;have my:=gO hy;have mz:=gO hz;have ck:cw 3 (bU 0 (ceL (gK 1 ⟨cx,cy,cz⟩)))=ceL (gK 1 ⟨cx,cy,cz⟩):=rfl;refine Y16 ?_;refine aA ?_ (dF (own:=true) (s:=1) rfl ?_ ck rfl rfl) rfl
 ·rw[Heap.aB (by show h.next<=h.next+1;omega)];exact hr.log
 ·exact YG
theorem Vm(F:rH T){h:Heap}(hr:Rdy h)(v:Value){c:Ce}(hc:InB c):Pu T 91 [v,ceV c] h (ceV (gK 2 c)):=by
 refine .of F.p F.f319 hr rfl ?_;obtain⟨cx,cy,cz⟩:=c;obtain⟨hx,hy,hz⟩:=hc;dsimp only at hx hy hz;have mx:=gO hx;have my:=gO hy;have mz:=gO hz;have ck:cw 3 (bU 0 (ceL (gK 2 ⟨cx,cy,cz⟩)))=ceL (gK 2 ⟨cx,cy,cz⟩):=rfl;refine Y17 ?_;refine aA ?_ (dF (own:=true) (s:=1) rfl ?_ ck rfl rfl) rfl
 ·rw[Heap.aB (by show h.next<=h.next+1;omega)];exact hr.log
 ·exact YG
theorem Vn(F:rH T){h:Heap}(hr:Rdy h)(v:Value){c:Ce}(hc:InB c):Pu T 92 [v,ceV c] h (ceV (gK 3 c)):=by
 refine .of F.p F.f320 hr rfl ?_;obtain⟨cx,cy,cz⟩:=c;obtain⟨hx,hy,hz⟩:=hc;dsimp only at hx hy hz;have mx:=gO hx;have my:=gO hy;have mz:=gO hz;have ck:cw 3 (bU 0 (ceL (gK 3 ⟨cx,cy,cz⟩)))=ceL (gK 3 ⟨cx,cy,cz⟩):=rfl;refine Y16 ?_;refine aA ?_ (dF (own:=true) (s:=1) rfl ?_ ck rfl rfl) rfl
 ·rw[Heap.aB (by show h.next<=h.next+1;omega)];exact hr.log
 ·exact YG
theorem Vo(F:rH T){h:Heap}(hr:Rdy h)(v:Value){c:Ce}(hc:InB c):Pu T 93 [v,ceV c] h (ceV (gK 4 c)):=by
 refine .of F.p F.f321 hr rfl ?_;obtain⟨cx,cy,cz⟩:=c;obtain⟨hx,hy,hz⟩:=hc;dsimp only at hx hy hz;have mx:=gO hx;have my:=gO hy;have mz:=gO hz;have ck:cw 3 (bU 0 (ceL (gK 4 ⟨cx,cy,cz⟩)))=ceL (gK 4 ⟨cx,cy,cz⟩):=rfl;refine Y16 ?_;refine aA ?_ (dF (own:=true) (s:=1) rfl ?_ ck rfl rfl) rfl
 ·rw[Heap.aB (by show h.next<=h.next+1;omega)];exact hr.log
 ·exact YG
theorem Vp(F:rH T){h:Heap}(hr:Rdy h)(v:Value){c:Ce}(hc:InB c):Pu T 94 [v,ceV c] h (ceV (gK 5 c)):=by
 refine .of F.p F.f322 hr rfl ?_;obtain⟨cx,cy,cz⟩:=c;obtain⟨hx,hy,hz⟩:=hc;dsimp only at hx hy hz;have mx:=gO hx;have my:=gO hy;have mz:=gO hz;have ck:cw 3 (bU 0 (ceL (gK 5 ⟨cx,cy,cz⟩)))=ceL (gK 5 ⟨cx,cy,cz⟩):=rfl;refine Y16 ?_;refine aA ?_ (dF (own:=true) (s:=1) rfl ?_ ck rfl rfl) rfl
 ·rw[Heap.aB (by show h.next<=h.next+1;omega)];exact hr.log
 ·exact YG
theorem Vq(F:rH T){h:Heap}(hr:Rdy h)(v:Value){c:Ce}(hc:InB c):∀k,k<6->Pu T (89+k) [v,ceV c] h (ceV (gK k c))
 |0,_=>Vk F hr v hc
 |1,_=>Vl F hr v hc
 |2,_=>Vm F hr v hc
 |3,_=>Vn F hr v hc
 |4,_=>Vo F hr v hc
 |5,_=>Vp F hr v hc
 |k+6,h=>by omega
def uH(k:Nat):Value:= .func (.func (89+k)) #[.int .i64 0] #[]
def MC:List Value:=[uH 0,uH 1,uH 2,uH 3,uH 4,uH 5]
theorem MD:∀k,k<6->bH MC (0+k*1)=some (uH k)
 |0,_=>rfl
 |1,_=>rfl
 |2,_=>rfl
 |3,_=>rfl
 |4,_=>rfl
 |5,_=>rfl
 |k+6,h=>by omega
theorem II(F:rH T){h:Heap}(hr:Rdy h){c:Ce}(hc:InB c){t:Nat}(ht:t<24):Pu T 74 [ceV c, .int .i64 (t:Nat)] h (ceV (kM t c)):=by
 refine .of F.p F.f263 hr rfl ?_;have x0:Ext h ((h.push (.cells (cellsOf (ceV c)) true 1)).push (.cells [I.O,I.O,I.O] true 1)):=((Ext.refl h).push _).push _;have g0:((h.push (.cells (cellsOf (ceV c)) true 1)).push (.cells [I.O,I.O,I.O] true 1)).get h.next=some (.cells (ceL c) true 1):=(z4 (Nat.lt_succ_self _)).trans (z3 h _)
 have g1:((h.push (.cells (cellsOf (ceV c)) true 1)).push (.cells [I.O,I.O,I.O] true 1)).get (h.next+1)=some (.cells [I.O,I.O,I.O] true 1):=z3 _ _;have n0:((h.push (.cells (cellsOf (ceV c)) true 1)).push (.cells [I.O,I.O,I.O] true 1)).next=h.next+2:=rfl
 refine Y4 ?_;generalize((h.push (.cells (cellsOf (ceV c)) true 1)).push (.cells [I.O,I.O,I.O] true 1))=H at*;have W:=x0.wf hr.wf;have hL:=x0.log.trans hr.log;refine Y3 ?_;refine cW (E0:=[(1, .int .i64 (t:Nat)),(2, .pointer (some ⟨h.next,0,none⟩)),(4, .pointer (some ⟨h.next+1,0,none⟩)),(6, .pointer (some ⟨H.next,0,none⟩))]) (P:=λh'=>Ext H h'∧h'.next=H.next+1/\h'.get H.next=some (.cells MC true 1)) ?_ ?_
 ·refine Y16 ?_;refine bL ?_;refine y1 ?_;exact⟨rfl,rfl,rfl,ff (by omega) _ _,rfl,fO _ _⟩
 rintro H1 ⟨x1,n1,q1⟩;have ey1':=x0.trans x1;have W1:=ey1'.wf hr.wf;have hL1:=ey1'.log.trans hr.log;have ga:=(x1.old _ (by omega)).trans g0;have gb:=(x1.old _ (by omega)).trans g1;have hk:t / 4<6:=by omega
 have m1:aq .quo (.int .i64 (t:Nat)) (.int .i64 4)=some (.int .i64 ((t / 4:Nat):Int)):=RS (by omega);have m2:aq .rem (.int .i64 (t:Nat)) (.int .i64 4)=some (.int .i64 ((t % 4:Nat):Int)):=RT;have e1:=MD (t / 4) hk;have C:=Vq F (h:={H1 with log:=[]}) (.of W1) (.int .i64 0) hc (t / 4) hk;have hb:=hc.Vj (t / 4);have hr4:t % 4<4:=by omega
 have ck:cw 3 (bU 0 (ceL c))=ceL c:=rfl;have ckl:Nat.beq (cm (ceL c)) 3=true:=rfl;unfold kM;generalize hq:gK (t / 4) c=d at*;generalize t / 4=k at*;generalize t % 4=r at*;unfold uH at e1;clear g0 g1;refine Y8 ?_;refine FW.puD C (by(repeat apply aG rfl);exact bh) ?_;clear C;refine yp rfl rfl rfl (by exact rfl) (by exact rfl) (by exact rfl) (by assumption) (by exact rfl) (by exact rfl) (by omega) (by omega) (by exact bh) ?_;refine Y10 ?_
 refine cM (λm e ds h'=>∃j:Nat,j<=r/\r-j=m/\e=[(2, .pointer (some ⟨h.next,0,none⟩)),(4, .pointer (some ⟨h.next+1,0,none⟩)),(27, .int .i64 (r:Nat)),(28, .int .i64 (j:Nat))]/\ds=[]/\Ext h h'∧h.next+2<=h'.next/\h'.get h.next=some (.cells (ceL (sN j d)) true 1)/\h'.get (h.next+1)=some (.cells [I.O,I.O,I.O] true 1))
  ⟨0,Nat.zero_le _,rfl,rfl,rfl,⟨ey1'.next,(Heap.aB (by omega)).trans ey1'.log,λb hb=>(z5 (by omega)).trans (ey1'.old b hb),λw=>(ey1'.wf w).as (AS.wr h.next _ _ _)⟩,by show h.next+2<=H1.next;omega,by rw[z6,ga];rfl,(z5 (by omega)).trans gb⟩ ?_
 rintro m e ds h' ⟨j,hj,rfl,rfl,rfl,x,hn,gc,gd⟩;have hbj:=hb.rot j;by_cases hlt:j<r
 ·have hro:sN (j+1) d=ME (sN j d):=rfl;generalize sN j d=b at*;obtain⟨bx,by',bz⟩:=b;obtain⟨_,hy,_⟩:=hbj;dsimp only at hy;have my:=gO hy;unfold ME at hro;dsimp only at hro;refine Y19 ?_;refine bL ?_;refine Y7 ?_;refine⟨r-(j+1),by omega,j+1,by omega,rfl,rfl,rfl,⟨x.next,(Heap.aB (by omega)).trans x.log,λb hb=>(z5 (by omega)).trans (x.old b hb),λw=>(x.wf w).as (AS.wr h.next _ _ _)⟩,hn,?_,(z5 (by omega)).trans gd⟩;rw[z6,gc,hro];rfl
 ·obtain rfl:j=r:=by omega
  generalize sN j d=b at*;have ckb:cw 3 (bU 0 (ceL b))=ceL b:=rfl;have ckbl:Nat.beq (cm (ceL b)) 3=true:=rfl;refine Y15 ?_;refine aA ?_ (dF (own:=true) (s:=1) rfl ?_ ckb ckbl rfl) rfl
  ·rw[Heap.aB (by show h.next<=h.next+1;omega)];exact x.log.trans hr.log
  ·exact YG
end Go.A.Pk
end
section
namespace Go.A.Pk
variable {T:Nat->Option an}
def oh(o:List Nat)(c:Ce):List Nat:=o.set c.z.toNat (Nat.lor (o.getD c.z.toNat 0) (2 ^ (8*c.y.toNat+c.x.toNat)))
theorem vk(o:List Nat){z i:Nat}(hi:i<64):oh o (eN z i)=o.set z (Nat.lor (o.getD z 0) (2 ^ i)):=by
 unfold oh eN;dsimp only;rw[show((z:Nat):Int).toNat=z by omega,show 8*((i / 8:Nat):Int).toNat+((i % 8:Nat):Int).toNat=i by omega]
theorem IsS.oh{o:List Nat}(h:IsS o){c:Ce}(hc:inG c=true):IsS (Pk.oh o c):=by
 obtain⟨z,i,hz,hi,rfl⟩:=iF hc;rw[vk o hi];refine⟨by rw[List.length_set];exact h.len,λx hx=> ?_⟩;rcases List.mem_or_eq_of_mem_set hx with h1|h1
 ·exact h.lt x h1
 ·rw[h1];exact KJ (h.jZ z) (xz hi)
def wM(f:Ce->Ce)(l:List Ce):List Nat:=l.foldl (λo c=>oh o (f c)) s0
def mK(f:Ce->Ce)(s:List Nat):List Nat:=wM f (aU s 512)
theorem zw(f:Ce->Ce)(l:List Ce)(c:Ce):wM f (l++[c])=oh (wM f l) (f c):=by unfold wM;rw[List.foldl_append];rfl
theorem Gk{f:Ce->Ce}:∀{l:List Ce},(∀c∈l,inG (f c)=true)->IsS (wM f l):=by
 intro l;have:∀(l:List Ce) (o:List Nat),IsS o->(∀c∈l,inG (f c)=true)->IsS (l.foldl (λo c=>oh o (f c)) o):=by
  intro l;induction l with
  |nil=>intro o ho _;exact ho
  |cons c l ih=>intro o ho hl;exact ih _ (ho.oh (hl c List.mem_cons_self)) λx hx=>hl x (List.mem_cons_of_mem _ hx)
 exact λhl=>this l s0 zP hl
theorem BM{o:List Nat}{z v:Nat}(hz:z<o.length):cU (us o) (0+z*1) (cellsOf (.int .u64 (v:Nat)))=us (o.set z v):=by
 show cU (us o) (0+z*1) [.int .u64 (v:Nat)]=_;rw[Nat.zero_add,Nat.mul_one,eY (by rw[aH];simp;omega)];unfold us;rw[List.map_set,List.set_eq_take_append_cons_drop,if_pos (by simpa using hz)];simp
section
open I
def tj:aR:=I.R [g 7 (.new [O,O,O]),S 3 7 11] [3,4,5,6,7]
def tn:aR:=(.block 1 (Q (I.R [L 12 3,N 13 3 7,g 14 (.call (t 12) [(t 13)]),g 8 (.new [O,O,O]),S 3 8 14] [4,5,6,8])
 (Q (.seq (I.R [N 15 3 8,g 16 (.call (.func 87) [(t 15)]),g 17 (.un .not (t 16))] [4,5,6,8,17])
 (.cond (t 17) (Q (I.R [g 18 (.build (aK 8 (.int .u64 0)) []),S 8 4 18,⟨none, .store 1 (t 5) (.const (.bool false)),none⟩] [])
 .ret) .skip))
 (.draw [A 19 2 8,L 20 19,g 21 (.dA 8 1 (t 6) (t 20)),L 22 21,N 23 3 8,g 24 (.call (.func 88) [(t 23)]),B 25 .or 22 24,g 26 (.dA 8 1 (t 6) (t 20)),S 1 26 25] [0,1,2,3,4,5,6,7,8] [0,1,3,7,0,16,63,127,255] []))))
end
structure BZ (T:Nat->Option an):Prop where
 cp:rG T
 tu:rH T
 f126:T 87=some f126
 f127:T 88=some f127
 f211:T 55=some f211
 f215:T 107=some f215
 f261:T 72=some f261
 f262:T 73=some f262
theorem Hz(F:BZ T){H:Heap}(hr:Rdy H){q l lo N b3 b4 b5 gf:Nat}{cap fv:Value}{o:List Nat}(ho:IsS o){c d:Ce}(hd:inG d=true)(hlo:lo<=q)(hql:q<l)(hlN:l<N)(h3q:b3<q)
 (gl:H.get l=some (.loop [(3, .pointer (some ⟨b3,0,none⟩)),(4, .pointer (some ⟨b4,0,none⟩)),(5, .pointer (some ⟨b5,0,none⟩)),(6, .pointer (some ⟨q,0,none⟩)),(10,fv)] [11] tj tn 0 .normal))
 (g3:H.get b3=some (.cells [.func (.func gf) #[] #[cap]] true 1))
 (hto:∀H':Heap,WF H'→(∀z,z<b3->H'.get z=H.get z)->Pu T gf [ceV c,cap] {H' with log:=[]} (ceV d))
 (go:H.get q=some (.cells (us o) true 1)){S:Heap->Prop}:
 FW T (.yield l) [ceV c] H λr H'=>(∀z∈H'.log,lo<=z/\z<N)/\(r= .ret (.bool true)/\(H'.get q=some (.cells (us (oh o d)) true 1)/\(∀z,z<H.next->z≠q->H'.get z=H.get z)/\H.next<=H'.next)∨r= .ret (.bool false)/\l∈H'.log/\S H'):=by
 have hp:=F.cp.p;have no:q≠l:=by omega
 have ko:=hr.wf.bK go;have kl:=hr.wf.bK gl;have k3:=hr.wf.bK g3;refine FW.NF hp (R:=λH'=>H'.get q=some (.cells (us (oh o d)) true 1)/\(∀z,z<H.next->z≠q->H'.get z=H.get z)/\H.next<=H'.next) gl rfl kl ⟨by omega,hlN⟩ ?_;unfold tj;refine Y3 ?_;refine bL ?_;refine y1 ?_;refine⟨rfl,YG,?_⟩;unfold tn;refine kG ?_;refine WE.uM ?_;intro hA hAe;have A1:∀z,z<H.next->z≠l->H.get z=hA.get z:=λz hz hne=>by rw[hAe];symm;simp(disch:=first|omega|(simp only[z1,z2];omega))only[z5,z4]
 have A3:hA.get H.next=some (.cells (ceL c) true 1):=by rw[hAe];(simp(disch:=first|omega|(simp only[z1,z2];omega))only[z3,z4,z5,z6,z7,z1,z2,gl,g3,go];exact rfl)
 have A2:hA.get l=some (.loop [(3, .pointer (some ⟨b3,0,none⟩)),(4, .pointer (some ⟨b4,0,none⟩)),(5, .pointer (some ⟨b5,0,none⟩)),(6, .pointer (some ⟨q,0,none⟩)),(10,fv)] [11] tj tn 1 .normal):=by rw[hAe];(simp(disch:=first|omega|(simp only[z1,z2];omega))only[z3,z4,z5,z6,z7,z1,z2,gl,g3,go,A3];exact rfl)
 have A5:hA.next=H.next+1:=by rw[hAe];rfl
 have A6:hA.log=[]:=by rw[hAe];simp(disch:=first|omega|(simp only[z1,z2];omega))only[Heap.aB,Heap.sj];exact hr.log
 have A7:WF hA:=by rw[hAe];exact(((hr.wf.push _).as (AS.wr _ _ _ _)).as (AS.wr _ _ _ _))
 clear hAe;have Bo:=(A1 q ko no).symm.trans go;have B3:=(A1 b3 k3 (by omega)).symm.trans g3;have C1:=hto hA A7 λz hz=>(A1 z (by omega) (by omega)).symm;have ck:cw 3 (bU 0 (ceL c))=ceL c:=rfl;have ckl:Nat.beq (cm (ceL c)) 3=true:=rfl;clear go hto;refine cW (E0:=[(4, .pointer (some ⟨b4,0,none⟩)),(5, .pointer (some ⟨b5,0,none⟩)),(6, .pointer (some ⟨q,0,none⟩)),(8, .pointer (some ⟨hA.next,0,none⟩))]) (P:=λh'=>Ext hA h'∧h'.next=hA.next+1/\h'.get hA.next=some (.cells (ceL d) true 1)) ?_ ?_
 ·refine Y4 ?_;refine FW.pu C1 ?_;clear C1;refine Y2 ?_;refine bL ?_;refine y1 ?_;exact⟨rfl,rfl,rfl,ff (by omega) _ _,rfl,fO _ _⟩
 rintro hB ⟨xB,nB,gB⟩;clear C1 A3;have WB:=xB.wf A7;have LB:=xB.log.trans A6;have Bo2:=(xB.old _ (by omega)).trans Bo;have Bl2:=(xB.old _ (by omega)).trans A2;have C2:=Ht hp F.f126 F.f215 (h:={hB with log:=[]}) (.of WB) d;rw[hd]at C2;obtain⟨z,i,hz,hi,rfl⟩:=iF hd;have C3:=Rl hp F.f127 (h:={hB with log:=[]}) (.of WB) (z:=z) hi;have ckd:cw 3 (bU 0 (ceL (eN z i)))=ceL (eN z i):=rfl;have ckdl:Nat.beq (cm (ceL (eN z i))) 3=true:=rfl;have lz:bH (ceL (eN z i)) (0+2)=some (.int .i64 ((z:Nat):Int)):=rfl;have e1:=mR (jY (s:=o) (i:=z) (by rw[ho.len];exact hz));have m1:=RR (a:=o.getD z 0) (b:=2 ^ i) (ho.jZ z) (xz hi);have kw:=BM (o:=o) (z:=z) (v:=Nat.lor (o.getD z 0) (2 ^ i)) (by rw[ho.len];exact hz);rw[←vk o hi]at kw;have kc:(Nat.beq (cm (cellsOf (.int .u64 ((Nat.lor (o.getD z 0) (2 ^ i):Nat):Int)))) 1&&Nat.ble (0+z*1+1) (cm (us o))&&dY (cellsOf (.int .u64 ((Nat.lor (o.getD z 0) (2 ^ i):Nat):Int))))=true:=by
  rw[bS (us o),aH,ho.len,fu (by omega)];rfl
 clear Bo A2 B3 g3;refine Y4 ?_;refine FW.pu C2 ?_;clear C2;refine Y12 ?_;refine FW.puD C3 (by apply aG rfl;apply ah rfl (aa rfl (bY (by exact rfl) (by assumption) (by assumption)) (by exact dg _ _)) rfl;apply ah rfl (aa rfl (oL (by exact rfl) (by exact rfl) (by omega)) (by exact aX _)) rfl;apply ah rfl (aa rfl (bY (by exact rfl) (by assumption) (by exact rfl)) (by exact dg _ _)) rfl;apply ah rfl (aa rfl (cT (by exact rfl)) (by exact aX _)) rfl;exact bh) ?_;clear C3;refine Y2 ?_;refine gI (vs:=us o) (ws:=us (oh o (eN z i))) rfl rfl rfl (by exact rfl) (by exact rfl) (by exact rfl) Bo2 kc kw (by omega) (by(repeat apply aG rfl);exact bh) ?_;refine Y3 ?_;refine⟨⟨_,YG,rfl⟩,λz hz=> ?_, .inl ⟨rfl,λh5 hn h5e h5l=> ?_⟩⟩
 ·have key:z=q:=by
   rcases dw hz with h|hz
   ·exact h
   rw[LB]at hz;cases hz
  subst key;exact⟨hlo,by omega⟩
 ·refine⟨(h5e q ko no).trans (Heap.aI Bo2),λz hz hne=> ?_,hn⟩;by_cases hl:z=l
  ·subst hl;rw[gl];exact h5l
  ·refine(h5e z hz hl).trans ?_;rw[z5 hne,xB.old z (by omega)];exact(A1 z hz hl).symm
theorem jQ{s:List Nat}{n:Nat}{c:Ce}(h:c∈aU s n):inG c=true:=by
 have:=HC h;by_cases hc:inG c=true
 ·exact hc
 ·rw[fT hc]at this;cases this
theorem Gm{f:Ce->Ce}{s:List Nat}(hin:∀c,inG c=true->inG (f c)=true):IsS (mK f s):=Gk λc hc=>hin c (jQ hc)
theorem HA(F:BZ T){h:Heap}(hr:Rdy h)(hg:Tab h)(h2:0<h.next){s:List Nat}(hs:IsS s){gf:Nat}{cap:Value}{f:Ce->Ce}(hin:∀c,inG c=true->inG (f c)=true)
 (hto:∀H':Heap,WF H'→(∀z,z<h.next->H'.get z=h.get z)->∀c,inG c=true->Pu T gf [ceV c,cap] {H' with log:=[]} (ceV (f c))):
 Pu T 72 [sv s, .func (.func gf) #[] #[cap]] h (.tuple #[sv (mK f s), .bool true]):=by
 have hp:=F.cp.p;have hms:=Gm (s:=s) hin;refine .of hp F.f261 hr (by
  have h1:flat (sv (mK f s))=true:=ja _;show iD [sv (mK f s), .bool true]=true;simp only[iD,h1,cond_true];rfl) ?_
 have k8:=bA hs.len;have k9:=bV hs.len;have x0:Ext h (((((h.push (.cells (cellsOf (sv s)) true 1)).push (.cells (cellsOf (.func (.func gf) #[] #[cap])) true 1)).push (.cells (aK 8 (.int .u64 0)) true 1)).push (.cells [.bool false] true 1)).push (.cells (aK 8 (.int .u64 0)) true 1)):=(((((Ext.refl h).push _).push _).push _).push _).push _;have gA:(((((h.push (.cells (cellsOf (sv s)) true 1)).push (.cells (cellsOf (.func (.func gf) #[] #[cap])) true 1)).push (.cells (aK 8 (.int .u64 0)) true 1)).push (.cells [.bool false] true 1)).push (.cells (aK 8 (.int .u64 0)) true 1)).get h.next=some (.cells (us s) true 1):=YG
 have gB:(((((h.push (.cells (cellsOf (sv s)) true 1)).push (.cells (cellsOf (.func (.func gf) #[] #[cap])) true 1)).push (.cells (aK 8 (.int .u64 0)) true 1)).push (.cells [.bool false] true 1)).push (.cells (aK 8 (.int .u64 0)) true 1)).get (h.next+1)=some (.cells [.func (.func gf) #[] #[cap]] true 1):=YG;have gC:(((((h.push (.cells (cellsOf (sv s)) true 1)).push (.cells (cellsOf (.func (.func gf) #[] #[cap])) true 1)).push (.cells (aK 8 (.int .u64 0)) true 1)).push (.cells [.bool false] true 1)).push (.cells (aK 8 (.int .u64 0)) true 1)).get (h.next+2)=some (.cells (us s0) true 1):=YG;have gD:(((((h.push (.cells (cellsOf (sv s)) true 1)).push (.cells (cellsOf (.func (.func gf) #[] #[cap])) true 1)).push (.cells (aK 8 (.int .u64 0)) true 1)).push (.cells [.bool false] true 1)).push (.cells (aK 8 (.int .u64 0)) true 1)).get (h.next+3)=some (.cells [.bool false] true 1):=YG;have gE:(((((h.push (.cells (cellsOf (sv s)) true 1)).push (.cells (cellsOf (.func (.func gf) #[] #[cap])) true 1)).push (.cells (aK 8 (.int .u64 0)) true 1)).push (.cells [.bool false] true 1)).push (.cells (aK 8 (.int .u64 0)) true 1)).get (h.next+4)=some (.cells (us s0) true 1):=YG;have n0:(((((h.push (.cells (cellsOf (sv s)) true 1)).push (.cells (cellsOf (.func (.func gf) #[] #[cap])) true 1)).push (.cells (aK 8 (.int .u64 0)) true 1)).push (.cells [.bool false] true 1)).push (.cells (aK 8 (.int .u64 0)) true 1)).next=h.next+5:=rfl
 refine Y9 ?_;generalize(((((h.push (.cells (cellsOf (sv s)) true 1)).push (.cells (cellsOf (.func (.func gf) #[] #[cap])) true 1)).push (.cells (aK 8 (.int .u64 0)) true 1)).push (.cells [.bool false] true 1)).push (.cells (aK 8 (.int .u64 0)) true 1))=H at*;have W:=x0.wf hr.wf;have hL:=x0.log.trans hr.log;have C:=vQ F.cp (h:={H with log:=[]}) (.of W) hs;refine Y4 ?_;refine FW.al C (λv h' m q=>q) ?_;rintro _ H1 x1 ⟨q,rfl,gq,q2,q3⟩;clear C;have q2:H.next<=q:=q2
 have ey1':=x0.trans x1;have W1:=ey1'.wf hr.wf;have hL1:=ey1'.log.trans hr.log;have n1:=x1.next
 have gB1:=(x1.old _ (by omega)).trans gB;have gC1:=(x1.old _ (by omega)).trans gC;have gD1:=(x1.old _ (by omega)).trans gD;have gE1:=(x1.old _ (by omega)).trans gE;have hg1:Tab H1:=hg.ext ey1' h2;clear gA gB gC gD gE;refine Y2 ?_;refine Ae (lo:=h.next+4) (P:=PXo H1.next (h.next+4) H1 (.loop [(3, .pointer (some ⟨h.next+1,0,none⟩)),(4, .pointer (some ⟨h.next+2,0,none⟩)),(5, .pointer (some ⟨h.next+3,0,none⟩)),(6, .pointer (some ⟨h.next+4,0,none⟩)),(10,fnC q)] [11] tj tn 0 .normal) (λd=>us (wM f d)) (aU s 512)) (S:=λ_=>False) rfl (by rfl) (by rw[F.cp.f265];rfl) (by omega) (by omega) hL1 W1 ?_ (λH p=>⟨_,_,_,_,p.loop⟩) (λH p=>p.elim) ?_ (λ_ _ _ _ _ _ _ p=>p.elim)
 ·have Y:I7 T (h.next+4) (H1.next+1) H1.next ceV (aU s 512) (λd H'=>PXo H1.next (h.next+4) H1 (.loop [(3, .pointer (some ⟨h.next+1,0,none⟩)),(4, .pointer (some ⟨h.next+2,0,none⟩)),(5, .pointer (some ⟨h.next+3,0,none⟩)),(6, .pointer (some ⟨h.next+4,0,none⟩)),(10,fnC q)] [11] tj tn 0 .normal) (λd=>us (wM f d)) d H'∧IsS (wM f d)) (λ_=>False):=by
   refine⟨λdone x Hh hx hrH hN hP=> ?_,λdone Ha Hb p n e=>⟨PXo.eO (by omega) done Ha Hb p.1 n e,p.2⟩,λ_ _ h=>h,λ_ h=>h.elim⟩;obtain⟨hP,hd⟩:=hP;have hxG:=jQ hx
   refine FW.mono' (Hz F hrH (lo:=h.next+4) (N:=H1.next+1) (S:=λ_=>False) hd (d:=f x) (hin x hxG) (Nat.le_refl _) (by omega) (by omega) (by omega) hP.loop ((hP.old _ (by omega) (by omega)).trans gB1)
    (λH' w e=>hto H' w (λz hz=>(e z (by omega)).trans ((hP.old z (by omega) (by omega)).trans (ey1'.old z hz))) x hxG) hP.val) ?_
   rintro r' H' ⟨r1,r2⟩;refine⟨r1,r2.imp (λ⟨e,g,o,_⟩=>⟨e,⟨λz hz hne=>(o z (by omega) hne).trans (hP.old z hz hne),(o _ (by omega) (by omega)).trans hP.loop,?_⟩,?_⟩) id⟩
   ·rw[zw];exact g
   ·rw[zw];exact hd.oh (hin x hxG)
  have G:=zg F.cp (.of (W1.push (.loop [(3, .pointer (some ⟨h.next+1,0,none⟩)),(4, .pointer (some ⟨h.next+2,0,none⟩)),(5, .pointer (some ⟨h.next+3,0,none⟩)),(6, .pointer (some ⟨h.next+4,0,none⟩)),(10,fnC q)] [11] tj tn 0 .normal))) (q0:=q) (l:=H1.next) (N:=H1.next+1) (lo:=h.next+4) hs (Nat.le_refl _) (by show h.next+4<=H1.next+1;omega) (Nat.lt_succ_self _) Y ((z4 (by omega)).trans gq) (λd H' hP=>(hP.1.old 0 (by omega) (by omega)).trans hg1)
   ⟨⟨λz hz _=>z4 hz,z3 _ _,(z4 (by omega)).trans gE1⟩,zP⟩
  exact CW.mono G λr h' ⟨a,v,b,c⟩=>⟨a,v,b,c.imp (λp=>p.1) id⟩
 intro h4 h5 k1 k2 k3 k4 k5 hP;have D:=(k5 (h.next+4) (by omega)).trans hP.val;have D2:=(k5 (h.next+2) (by omega)).trans ((hP.old _ (by omega) (by omega)).trans gC1);have D3:=(k5 (h.next+3) (by omega)).trans ((hP.old _ (by omega) (by omega)).trans gD1);unfold mK at*;generalize wM f (aU s 512)=z at*;have ck:=bV hms.len;have ckl:=bA hms.len;have cko:=dB z;have cks:(us z).length=8:=by rw[aH,hms.len]
 have ck0:=dB s0;have ck0l:(us s0).length=8:=rfl;refine Y4 ?_;refine aD (bZ (by exact rfl) (by exact rfl) (by assumption) (by assumption) (by assumption) (by exact dB _)) ?_;refine aD (jy (by exact rfl) (by exact rfl) (by first|(simp(disch:=first|omega|(simp only[z1,z2];omega))only[z3,z4,z5,z6,z7,z1,z2,gq,gB1,gC1,gD1,gE1,D2,D3,D];exact rfl)|fail) (by exact rfl) (by exact rfl)) ?_;refine y3 ?_;refine tZ ?_;refine aA ?_ (dF (own:=true) (s:=1) (l:=us z) rfl ?_ ck ckl (xU (own:=true) (s:=1) (ws:=[.bool true]) (v:= .bool true) rfl ?_ rfl rfl)) rfl
 ·rw[Heap.aB (by show h.next<=h.next+3;omega),Heap.aB (by show h.next<=h.next+2;omega)];exact k1
 ·simp(disch:=first|omega|(simp only[z1,z2];omega))only[z3,z4,z5,z6,z7,z1,z2,gq,gB1,gC1,gD1,gE1,D2,D3,D]
 ·simp(disch:=first|omega|(simp only[z1,z2];omega))only[z3,z4,z5,z6,z7,z1,z2,gq,gB1,gC1,gD1,gE1,D2,D3,D];exact rfl
theorem PG(F:BZ T){h:Heap}(hr:Rdy h){qt t:Nat}(ht:t<24)(g:h.get qt=some (.cells [.int .i64 (t:Nat)] true 1)){c:Ce}(hc:inG c=true):Pu T 73 [ceV c, .pointer (some ⟨qt,0,none⟩)] h (ceV (kM t c)):=by
 refine .of F.cp.p F.f262 hr rfl ?_;have kq:=hr.wf.bK g;have W:WF ((h.push (.cells (cellsOf (ceV c)) true 1)).push (.cells [I.O,I.O,I.O] true 1)):=(hr.wf.push _).push _;have C:=II F.tu (.of W) (nU.1 hc) ht;have ck:cw 3 (bU 0 (ceL (kM t c)))=ceL (kM t c):=rfl;generalize kM t c=d at*;refine Y8 ?_;refine FW.pu C ?_;refine Y3 ?_;refine aA ?_ (dF (own:=true) (s:=1) rfl ?_ ck rfl rfl) rfl
 ·rw[Heap.aB (by show h.next<=h.next+1;omega)];exact hr.log
 ·exact YG
def fI(s:List Nat)(t:Nat):List Nat:=mK (kM t) s
theorem vo{t:Nat}(c:Ce)(h:inG c=true):inG (kM t c)=true:=nU.2 ((nU.1 h).Xg t)
theorem sV(s:List Nat)(t:Nat):IsS (fI s t):=Gm vo
theorem PI(F:BZ T){h:Heap}(hr:Rdy h)(hg:Tab h)(h2:0<h.next){s:List Nat}(hs:IsS s){t:Nat}(ht:t<24):Pu T 55 [sv s, .int .i64 (t:Nat)] h (sv (fI s t)):=by
 refine .of F.cp.p F.f211 hr (ja _) ?_;have k8:=bA hs.len;have k9:=bV hs.len;have x0:Ext h (((h.push (.cells (cellsOf (sv s)) true 1)).push (.cells (cellsOf (Value.int .i64 (t:Nat))) true 1)).push (.cells (aK 8 (.int .u64 0)) true 1)):=(((Ext.refl h).push _).push _).push _;have gA:(((h.push (.cells (cellsOf (sv s)) true 1)).push (.cells (cellsOf (Value.int .i64 (t:Nat))) true 1)).push (.cells (aK 8 (.int .u64 0)) true 1)).get h.next=some (.cells (us s) true 1):=YG
 have gB:(((h.push (.cells (cellsOf (sv s)) true 1)).push (.cells (cellsOf (Value.int .i64 (t:Nat))) true 1)).push (.cells (aK 8 (.int .u64 0)) true 1)).get (h.next+1)=some (.cells [.int .i64 (t:Nat)] true 1):=YG;have gC:(((h.push (.cells (cellsOf (sv s)) true 1)).push (.cells (cellsOf (Value.int .i64 (t:Nat))) true 1)).push (.cells (aK 8 (.int .u64 0)) true 1)).get (h.next+2)=some (.cells (us s0) true 1):=YG;have n0:(((h.push (.cells (cellsOf (sv s)) true 1)).push (.cells (cellsOf (Value.int .i64 (t:Nat))) true 1)).push (.cells (aK 8 (.int .u64 0)) true 1)).next=h.next+3:=rfl
 refine Y5 ?_;generalize(((h.push (.cells (cellsOf (sv s)) true 1)).push (.cells (cellsOf (Value.int .i64 (t:Nat))) true 1)).push (.cells (aK 8 (.int .u64 0)) true 1))=H at*;have W:=x0.wf hr.wf;have hL:=x0.log.trans hr.log
 have C:=HA F (h:={H with log:=[]}) (.of W) (show Tab H from hg.ext x0 h2) (by show 0<H.next;omega) hs (gf:=73) (cap:= .pointer (some ⟨h.next+1,0,none⟩)) (f:=kM t) vo
  (λH' w e c hc=>PG F (.of w) ht ((e (h.next+1) (by show h.next+1<H.next;omega)).trans gB) hc)
 have hms:=sV s t;unfold fI at*;generalize mK (kM t) s=z at*;have ck:=bV hms.len;have ckl:=bA hms.len;have cko:=dB z;have cks:(us z).length=8:=by rw[aH,hms.len]
 have ck0:=dB s0;have ck0l:(us s0).length=8:=rfl;refine Y4 ?_;refine FW.pu C ?_;clear C;refine Y4 ?_;refine aD (bZ (by exact rfl) (by exact rfl) YG (by assumption) (by assumption) (by exact dB _)) ?_;refine Y3 ?_;refine aD (dh (by exact rfl) YG (by assumption) (by assumption)) ?_;refine aD (bZ (by exact rfl) (by exact rfl) YG (by assumption) (by assumption) (by exact dB _)) ?_;refine Y2 ?_;refine aA ?_ (dF (own:=true) (s:=1) (l:=us z) rfl ?_ ck ckl rfl) rfl
 ·rw[Heap.aB (by show h.next<=h.next+2;omega),Heap.aB (by first|omega|(show h.next<=H.next;omega))];exact hL
 ·exact YG
def shP(p:Nat)(k:Int):Nat:=if 0<=k then Nat.mod (Nat.shiftLeft p k.toNat) 18446744073709551616 else Nat.shiftRight p (-k).toNat
theorem SQ{p:Nat}{k:Int}(hp:p<U64):shP p k<U64:=by
 unfold shP;split
 ·exact Nat.mod_lt _ (by decide)
 ·exact Nat.lt_of_le_of_lt (Nat.shiftRight_le _ _) hp
def kz(s:List Nat)(a:Nat)(z k:Int):Nat->List Nat
 |0=>s0
 |n+1=>(kz s a z k n).set (((a+n:Nat):Int)+z).toNat (shP (s.getD (a+n) 0) k)
theorem ng{s:List Nat}(hs:IsS s)(a:Nat)(z k:Int):∀n,IsS (kz s a z k n)
 |0=>zP
 |n+1=>by
  have ih:=ng hs a z k n;refine⟨by unfold kz;rw[List.length_set];exact ih.len,λx hx=> ?_⟩;unfold kz at hx;rcases List.mem_or_eq_of_mem_set hx with h|h
  ·exact ih.lt x h
  ·rw[h];exact SQ (hs.jZ _)
def kJ(s:List Nat)(b:Bx)(x y z:Int):List Nat:=kz s b.lo.z.toNat z (8*y+x) (b.hi.z-b.lo.z+1).toNat
theorem UU{p n:Nat}(hn:n<64):aq .shl (.int .u64 (p:Nat)) (.int .i64 (n:Nat))=some (.int .u64 ((Nat.mod (Nat.shiftLeft p n) 18446744073709551616:Nat):Int)):=by
 have e1:((n:Nat):Int)=Int.ofNat n:=rfl;have e2:((p:Nat):Int)=Int.ofNat p:=rfl;rw[e1,e2];have:aq .shl (.int .u64 (Int.ofNat p)) (.int .i64 (Int.ofNat n))=some (.int .u64 (.ofNat (Nat.mod (Nat.shiftLeft p (Nat.min n 64)) 18446744073709551616))):=rfl;rw[this,show Nat.min n 64=n from Nat.min_eq_left (by omega)];rfl
def psL(s:List Nat)(b:Bx):List Value:=us s++bxL b
def psV(s:List Nat)(b:Bx):Value:= .agg (psL s b).toArray
theorem Gu{s:List Nat}{b:Bx}(hs:IsS s)(j:Nat):bH (psL s b) (8+j)=bH (bxL b) j:=by
 rw[cD,cD];unfold psL;rw[List.getElem?_append_right (by rw[aH,hs.len];omega),aH,hs.len,Nat.add_sub_cancel_left]
theorem Sy{s:List Nat}{b:Bx}(hs:IsS s){i:Nat}(hi:i<8):bH (psL s b) (0+0+i*1)=some (.int .u64 ((s.getD i 0:Nat):Int)):=by
 rw[cD,show 0+0+i*1=i by omega];unfold psL;rw[List.getElem?_append_left (by rw[aH,hs.len];omega)];unfold us;rw[List.getElem?_map,jY (by rw[hs.len];exact hi)];rfl
structure Qy (T:Nat->Option an):Prop where
 p:aF T
 f212:T 56=some f212
theorem Hy(F:Qy T){h:Heap}(hr:Rdy h){s:List Nat}(hs:IsS s){b:Bx}{x y z:Int}(hx: -7<=x/\x<=7)(hy: -7<=y/\y<=7)(hz: -7<=z/\z<=7)(hlo:0<=b.lo.z/\b.lo.z<=7)(hhi:0<=b.hi.z/\b.hi.z<=7)(hl:0<=b.lo.z+z)(hh:b.hi.z+z<=7):
 Pu T 56 [psV s b, .int .i64 x, .int .i64 y, .int .i64 z] h (sv (kJ s b x y z)):=by
 refine .of F.p F.f212 hr (ja _) ?_;unfold kJ;have hb:bxL b=[.int .i64 b.lo.x, .int .i64 b.lo.y, .int .i64 b.lo.z, .int .i64 b.hi.x, .int .i64 b.hi.y, .int .i64 b.hi.z]:=rfl;have eA:bH (psL s b) (0+8+0+2)=some (.int .i64 b.lo.z):=by rw[show 0+8+0+2=8+2 by omega,Gu hs];rfl
 have eB:bH (psL s b) (0+8+3+2)=some (.int .i64 b.hi.z):=by rw[show 0+8+3+2=8+5 by omega,Gu hs];rfl
 obtain⟨a,ha⟩:=Int.eq_ofNat_of_zero_le hlo.1;obtain⟨c,hc⟩:=Int.eq_ofNat_of_zero_le hhi.1;rw[ha]at eA hlo hl;rw[hc]at eB hhi hh;have eP:=λi hi=>Sy (s:=s) (b:=b) hs (i:=i) hi;have hcells:cellsOf (psV s b)=psL s b:=by show(psL s b).toArray.toList=_;simp
 have x0:Ext h (((h.push (.cells (cellsOf (psV s b)) true 1)).push (.cells (aK 8 (.int .u64 0)) true 1)).push (.cells (aK 8 (.int .u64 0)) true 1)):=(((Ext.refl h).push _).push _).push _;have gA:(((h.push (.cells (cellsOf (psV s b)) true 1)).push (.cells (aK 8 (.int .u64 0)) true 1)).push (.cells (aK 8 (.int .u64 0)) true 1)).get h.next=some (.cells (psL s b) true 1):=by rw[hcells];(simp(disch:=first|omega|(simp only[z1,z2];omega))only[z3,z4,z5,z6,z7,z1,z2];done)
 have gB:(((h.push (.cells (cellsOf (psV s b)) true 1)).push (.cells (aK 8 (.int .u64 0)) true 1)).push (.cells (aK 8 (.int .u64 0)) true 1)).get (h.next+1)=some (.cells (us s0) true 1):=YG;have gC:(((h.push (.cells (cellsOf (psV s b)) true 1)).push (.cells (aK 8 (.int .u64 0)) true 1)).push (.cells (aK 8 (.int .u64 0)) true 1)).get (h.next+2)=some (.cells (us s0) true 1):=YG;have n0:(((h.push (.cells (cellsOf (psV s b)) true 1)).push (.cells (aK 8 (.int .u64 0)) true 1)).push (.cells (aK 8 (.int .u64 0)) true 1)).next=h.next+3:=rfl
 refine Y7 ?_;generalize(((h.push (.cells (cellsOf (psV s b)) true 1)).push (.cells (aK 8 (.int .u64 0)) true 1)).push (.cells (aK 8 (.int .u64 0)) true 1))=H at*;have hL:=x0.log.trans hr.log;rw[ha,hc];have m1:aq .mul (.int .i64 8) (.int .i64 y)=some (.int .i64 (8*y)):=KT (by omega) (by omega);have m2:aq .add (.int .i64 (8*y)) (.int .i64 x)=some (.int .i64 (8*y+x)):=kK (ct (by omega) (by omega));refine Y9 ?_
 refine cM (λm e ds h'=>∃n:Nat,(a+n<=c+1∨n=0)/\8-n=m/\e=[(1, .int .i64 x),(2, .int .i64 y),(3, .int .i64 z),(4, .pointer (some ⟨h.next,0,none⟩)),(8, .pointer (some ⟨h.next+1,0,none⟩)),(9, .pointer (some ⟨h.next+2,0,none⟩)),(10, .int .i64 ((a+n:Nat):Int))]/\ds=[]/\Ext h h'∧h'.get h.next=some (.cells (psL s b) true 1)/\h'.get (h.next+1)=some (.cells (us s0) true 1)/\h'.get (h.next+2)=some (.cells (us (kz s a z (8*y+x) n)) true 1))
  ⟨0, .inr rfl,rfl,rfl,rfl,x0,gA,gB,gC⟩ ?_
 rintro m e ds h' ⟨n,hn,rfl,rfl,rfl,xx,g1,g2,g3⟩;have hso:=ng hs a z (8*y+x) n;by_cases hlt:a+n<=c
 ·have m3:aq .leq (.int .i64 ((a+n:Nat):Int)) (.int .i64 (c:Nat))=some (.bool true):=rf (by omega);obtain⟨w,hw⟩:=Int.eq_ofNat_of_zero_le (show 0<=((a+n:Nat):Int)+z by omega);have hw8:w<8:=by omega
  have m4:aq .add (.int .i64 ((a+n:Nat):Int)) (.int .i64 z)=some (.int .i64 ((w:Nat):Int)):=kK (by rw[ct (by omega) (by omega)];omega);have e1:=eP (a+n) (by omega);have hstep:kz s a z (8*y+x) (n+1)=(kz s a z (8*y+x) n).set w (shP (s.getD (a+n) 0) (8*y+x)):=by
   rw[kz,hw];rfl
  have hnx:=xx.next
  by_cases hk:0<=8*y+x
  ·obtain⟨k,hk2⟩:=Int.eq_ofNat_of_zero_le hk;have hk3:k<64:=by omega
   rw[hk2]at m2 hstep hso g3⊢;have m5:aq .geq (.int .i64 ((k:Nat):Int)) (.int .i64 0)=some (.bool true):=tJ (by omega);have m6:=UU (p:=s.getD (a+n) 0) hk3;have hsh:shP (s.getD (a+n) 0) ((k:Nat):Int)=Nat.mod (Nat.shiftLeft (s.getD (a+n) 0) k) 18446744073709551616:=by
    unfold shP;rw[if_pos (by omega)];rfl
   rw[←hsh]at m6;have kw:=BM (o:=kz s a z ((k:Nat):Int) n) (z:=w) (v:=shP (s.getD (a+n) 0) ((k:Nat):Int)) (by rw[hso.len];exact hw8);rw[←hstep]at kw;have kc:(Nat.beq (cm (cellsOf (.int .u64 ((shP (s.getD (a+n) 0) ((k:Nat):Int):Nat):Int)))) 1&&Nat.ble (0+w*1+1) (cm (us (kz s a z ((k:Nat):Int) n)))&&dY (cellsOf (.int .u64 ((shP (s.getD (a+n) 0) ((k:Nat):Int):Nat):Int))))=true:=by
    rw[bS (us _),aH,hso.len,fu (by omega)];rfl
   have hn8:n<8:=by omega
   refine Y37 ?_;refine aD (jy (by exact rfl) (by exact rfl) g3 kc kw) ?_;refine bL ?_;refine Y8 ?_;exact⟨8-(n+1),by omega,n+1, .inl (by omega),rfl,rfl,rfl,⟨xx.next,(Heap.aB (by omega)).trans xx.log,λb hb=>(z5 (by omega)).trans (xx.old b hb),λw=>(xx.wf w).as (AS.wr h.next _ _ _)⟩,(z5 (by omega)).trans g1,(z5 (by omega)).trans g2,Heap.aI g3⟩
  ·obtain⟨k,hk2⟩:=Int.eq_ofNat_of_zero_le (show 0<= -(8*y+x)by omega);have hk3:k<64:=by omega
   have m5:aq .geq (.int .i64 (8*y+x)) (.int .i64 0)=some (.bool false):=nY (by omega);have m7:yg .neg (.int .i64 (8*y+x))=some (.int .i64 ((k:Nat):Int)):=by
    show some (Value.int .i64 (fN .i64 (0-(8*y+x))))=_;rw[ct (by omega) (by omega)];congr 2;omega
   have m6:aq .shr (.int .u64 ((s.getD (a+n) 0:Nat):Int)) (.int .i64 ((k:Nat):Int))=_:=sw (a:=s.getD (a+n) 0) (n:=k) (by omega);have hsh:shP (s.getD (a+n) 0) (8*y+x)=Nat.shiftRight (s.getD (a+n) 0) k:=by
    unfold shP;rw[if_neg hk,show(-(8*y+x)).toNat=k by omega]
   rw[←hsh]at m6;have kw:=BM (o:=kz s a z (8*y+x) n) (z:=w) (v:=shP (s.getD (a+n) 0) (8*y+x)) (by rw[hso.len];exact hw8);rw[←hstep]at kw;have kc:(Nat.beq (cm (cellsOf (.int .u64 ((shP (s.getD (a+n) 0) (8*y+x):Nat):Int)))) 1&&Nat.ble (0+w*1+1) (cm (us (kz s a z (8*y+x) n)))&&dY (cellsOf (.int .u64 ((shP (s.getD (a+n) 0) (8*y+x):Nat):Int))))=true:=by
    rw[bS (us _),aH,hso.len,fu (by omega)];rfl
   have hn8:n<8:=by omega
   refine Y35 ?_;refine aD (TG (by exact rfl) (by assumption)) ?_;refine Y2 ?_;refine aD (jy (by exact rfl) (by exact rfl) g3 kc kw) ?_;refine bL ?_;refine Y8 ?_;exact⟨8-(n+1),by omega,n+1, .inl (by omega),rfl,rfl,rfl,⟨xx.next,(Heap.aB (by omega)).trans xx.log,λb hb=>(z5 (by omega)).trans (xx.old b hb),λw=>(xx.wf w).as (AS.wr h.next _ _ _)⟩,(z5 (by omega)).trans g1,(z5 (by omega)).trans g2,Heap.aI g3⟩
 ·have m3:aq .leq (.int .i64 ((a+n:Nat):Int)) (.int .i64 (c:Nat))=some (.bool false):=qZ (by omega);rw[show((a:Nat):Int).toNat=a by omega,show(((c:Nat):Int)-((a:Nat):Int)+1).toNat=n by omega];generalize kz s a z (8*y+x) n=o at*;have ck:=bV hso.len;have ckl:=bA hso.len;have cko:=dB o;have cks:(us o).length=8:=by rw[aH,hso.len]
  have ck0l:(us s0).length=8:=rfl;refine Y17 ?_;refine aD (bZ (by exact rfl) (by exact rfl) (by assumption) (by assumption) (by assumption) (by exact dB _)) ?_;refine Y2 ?_;refine aA ?_ (dF (own:=true) (s:=1) (l:=us o) rfl ?_ ck ckl rfl) rfl
  ·rw[Heap.aB (by show h.next<=h.next+1;omega)];exact xx.log.trans hr.log
  ·exact YG
structure Qt (T:Nat->Option an):Prop where
 p:aF T
 f188:T 54=some f188
 f254:T 71=some f254
def ij(s:List Nat):Nat:=(aU s 512).length
theorem rR(F:Qt T){h:Heap}(hr:Rdy h){s:List Nat}(hs:IsS s):Pu T 54 [sv s] h (.int .i64 ((ij s:Nat):Int)):=by
 refine .of F.p F.f188 hr rfl ?_;have k8:=bA hs.len;have k9:=bV hs.len;have W:=hr.wf.push (.cells (cellsOf (sv s)) true 1);have hl5:=lK s 512;unfold ij;refine Y9 ?_;refine aD (dh (by exact rfl) YG (by assumption) (by assumption)) ?_;refine Y3 ?_
 refine cM (λm e ds h'=>∃z:Nat,z<=8/\8-z=m/\e=[(3, .int .i64 (((aU s (z*64)).length:Nat):Int)),(6,sv s),(7, .int .i64 (z:Nat))]/\ds=[]/\h.push (.cells (cellsOf (sv s)) true 1)=h')
  ⟨0,by omega,rfl,rfl,rfl,rfl⟩ ?_
 rintro m e ds h' ⟨z,hz8,rfl,rfl,rfl,rfl⟩;by_cases hz:z<8
 ·have e1:bH (us s).toArray.toList (z*1)=some (.int .u64 ((s.getD z 0:Nat):Int)):=by
   rw[List.toList_toArray,Nat.mul_one,cD];unfold us;rw[List.getElem?_map,jY (by rw[hs.len];exact hz)];rfl
  have C:=OZ F.p F.f254 (.of W) (hs.jZ z);have hplane:=iV s hz;have hle:=lK s (z*64);have hpl:(mM s z).length=(bitsOf (s.getD z 0)).length:=by unfold mM;rw[List.length_map]
  have hb64:(bitsOf (s.getD z 0)).length<=64:=by
   unfold bitsOf;exact Nat.le_trans (List.length_filter_le ..) (by simp)
  have m1:aq .add (.int .i64 (((aU s (z*64)).length:Nat):Int)) (.int .i64 (((bitsOf (s.getD z 0)).length:Nat):Int))=some (.int .i64 (((aU s ((z+1)*64)).length:Nat):Int)):=by
   rw[hplane,List.length_append,hpl];exact kK (by rw[ct (by omega) (by omega)];omega)
  generalize(bitsOf (s.getD z 0)).length=c3 at*;refine Y10 ?_;refine aD (vG (by exact rfl) (by exact rfl) (by omega) (by assumption)) ?_;refine Y6 ?_;refine FW.pu C ?_;clear C;refine Y2 ?_;refine bL ?_;refine Y7 ?_;exact⟨8-(z+1),by omega,z+1,by omega,rfl,rfl,rfl,rfl⟩
 ·obtain rfl:z=8:=by omega
  rw[show 8*64=512 from rfl];generalize(aU s 512).length=c at*;refine Y15 ?_;exact aA hr.log rfl rfl
structure Fi where
 t:Nat
 x:Int
 y:Int
 z:Int
 s:List Nat
def moV(t x y z:Int):Value:= .agg #[.int .i64 t, .int .i64 x, .int .i64 y, .int .i64 z]
def fiV(f:Fi):List Value:=[moV f.t f.x f.y f.z,sv f.s]
def zrN(lo:Int)(n:Nat):List Int:=(List.range n).map λi=>lo+(i:Nat)
theorem NI(lo:Int)(n:Nat):zrN lo (n+1)=zrN lo n++[lo+(n:Nat)]:=by unfold zrN;rw[List.range_succ,List.map_append];rfl
def zr(lo hi:Int):List Int:=zrN lo (hi-lo+1).toNat
def uQ(a p:List Nat)(bp:Bx)(t:Nat)(z y x:Int):List Fi:=if sIn (kJ p bp x y z) a then [⟨t,x,y,z,kJ p bp x y z⟩]else []
def tD(a p:List Nat)(ra bp:Bx)(t:Nat)(z y:Int):List Fi:=(zr (ra.lo.x-bp.lo.x) (ra.hi.x-bp.hi.x)).flatMap (uQ a p bp t z y)
def wo(a p:List Nat)(ra bp:Bx)(t:Nat)(z:Int):List Fi:=(zr (ra.lo.y-bp.lo.y) (ra.hi.y-bp.hi.y)).flatMap (tD a p ra bp t z)
def Hg(a p:List Nat)(ra bp:Bx)(t:Nat):List Fi:=(zr (ra.lo.z-bp.lo.z) (ra.hi.z-bp.hi.z)).flatMap (wo a p ra bp t)
def oT(a b:List Nat)(t:Nat):List Fi:=Hg a (fI b t) (dS a).1 (dS (fI b t)).1 t
def gY(a b:List Nat):List Fi:=if a=s0∨ij a<ij b then []else(List.range 24).flatMap (oT a b)
structure Eb (b:Bx):Prop where
 lo:InB b.lo
 hi:InB b.hi
theorem K5{a b:Int}(ha:0<=a/\a<=7)(hb:0<=b/\b<=7):0<=mi a b/\mi a b<=7:=by unfold mi;split<;>assumption
theorem K8{a b:Int}(ha:0<=a/\a<=7)(hb:0<=b/\b<=7):0<=mx a b/\mx a b<=7:=by unfold mx;split<;>assumption
theorem Eb.up{b:Bx}(h:Eb b){c:Ce}(hc:InB c):Eb (Cr b c):=
 ⟨⟨K5 h.lo.x hc.x,K5 h.lo.y hc.y,K5 h.lo.z hc.z⟩,⟨K8 h.hi.x hc.x,K8 h.hi.y hc.y,K8 h.hi.z hc.z⟩⟩
theorem Rq:∀{l:List Ce},(∀c∈l,InB c)->Eb (bxS l):=by
 intro l;have:∀(l:List Ce) (b:Bx),Eb b->(∀c∈l,InB c)->Eb (l.foldl Cr b):=by
  intro l;induction l with
  |nil=>intro b hb _;exact hb
  |cons c l ih=>intro b hb hl;exact ih _ (hb.up (hl c List.mem_cons_self)) λx hx=>hl x (List.mem_cons_of_mem _ hx)
 exact λhl=>this l bx0 ⟨⟨by decide,by decide,by decide⟩,⟨by decide,by decide,by decide⟩⟩ hl
theorem nN(s:List Nat):Eb (dS s).1:=by
 unfold dS;split
 ·exact⟨⟨by decide,by decide,by decide⟩,⟨by decide,by decide,by decide⟩⟩
 ·exact Rq λc hc=>nU.1 (jQ hc)
structure Qw (T:Nat->Option an):Prop where
 mp:BZ T
 bd:Qs T
 li:Qy T
 co:Qt T
 f35:T 8=some f35
 f121:T 26=some f121
 f209:T 52=some f209
def uL:Bx:=⟨c0,c0⟩
theorem Od{h:Heap}{e:Env}{x:Operand}{s:List Nat}(hs:IsS s)(hx:ev h e x=some (sv s)):iW h e [.int .u64 0, .int .u64 0, .int .u64 0, .int .u64 0, .int .u64 0, .int .u64 0, .int .u64 0, .int .u64 0,I.O,I.O,I.O,I.O,I.O,I.O] [(0,8,x)]=some (psL s uL):=by
 have e1:cellsOf (sv s)=us s:=by show(us s).toArray.toList=_;simp
 have h0:psL s0 uL=[.int .u64 0, .int .u64 0, .int .u64 0, .int .u64 0, .int .u64 0, .int .u64 0, .int .u64 0, .int .u64 0,I.O,I.O,I.O,I.O,I.O,I.O]:=rfl;have e2:cU (psL s0 uL) 0 (us s)=psL s uL:=by
  rw[eY (by rw[aH,hs.len];decide),aH,hs.len,List.take_zero];rfl
 have e3:cm (us s)=8:=by rw[bS,aH,hs.len]
 rw[←h0];have e4:(Nat.beq 8 8&&Nat.ble (0+8) (cm (psL s0 uL)))=true:=rfl;simp only[iW,hx,e1,e2,e3];rfl
theorem Be{s:List Nat}{b:Bx}(hs:IsS s):(psL s b).length=14:=by
 unfold psL;rw[List.length_append,aH,hs.len];rfl
theorem Pd{s:List Nat}{b:Bx}(hs:IsS s):cw 14 (bU 0 (psL s b))=psL s b:=by rw[bI,aT,List.drop_zero,List.take_of_length_le (by rw[Be hs];omega)]
theorem Md{s:List Nat}{b:Bx}(hs:IsS s):Nat.beq (cm (psL s b)) 14=true:=by rw[bS,Be hs];rfl
theorem Me{s:List Nat}{b:Bx}:dY (psL s b)=true:=pJ (dB _) rfl
theorem U8{s:List Nat}{b:Bx}(hs:IsS s):cw 8 (bU (0+0) (psL s b))=us s:=by
 rw[bI,aT,Nat.zero_add,List.drop_zero];unfold psL;rw[List.take_append_of_le_length (by rw[aH,hs.len];omega),List.take_of_length_le (by rw[aH,hs.len];omega)]
theorem Sz{s:List Nat}{b b':Bx}(hs:IsS s):cU (psL s b) (0+8) (cellsOf (bxV b'))=psL s b':=by
 show cU (psL s b) 8 (bxL b')=_;unfold psL;rw[eY (by rw[List.length_append,aH,hs.len];exact Nat.le_refl _),List.take_append_of_le_length (by rw[aH,hs.len];omega),List.take_of_length_le (by rw[aH,hs.len];omega),List.drop_of_length_le (by rw[List.length_append,aH,hs.len];exact Nat.le_refl _)];simp
theorem Sw{s:List Nat}{b:Bx}(hs:IsS s):cw 3 (bU (0+8+0) (psL s b))=ceL b.lo:=by
 rw[bI,aT];unfold psL;rw[show 0+8+0=(us s).length by rw[aH,hs.len],List.drop_left];rfl
theorem Sv{s:List Nat}{b:Bx}(hs:IsS s):cw 3 (bU (0+8+3) (psL s b))=ceL b.hi:=by
 rw[bI,aT];unfold psL;rw[List.drop_append,aH,hs.len,List.drop_of_length_le (by rw[aH,hs.len];omega)];rfl
structure FxK (P:List Fi->Heap->Prop) (lo:Nat) (h0:Heap) (q:Nat) (rm bp:Bx) (p:List Nat) (D:List Fi) (g:Heap):Prop where
 k:Lk lo h0 g
 pd:P D g
 nx:q+2<g.next
 g4:g.get h0.next=some (.cells (bxL rm) true 1)
 g7:g.get q=some (.cells (psL p bp) true 1)
 g8:g.get (q+1)=some (.cells (ceL bp.lo) true 1)
 g9:g.get (q+2)=some (.cells (ceL bp.hi) true 1)
theorem BX{lo hi z:Int}{n:Nat}(h:z=lo+(n:Nat))(hz:z<=hi):z∈zr lo hi:=List.mem_map.2 ⟨n,List.mem_range.2 (by omega),h.symm⟩
theorem yx{α:Type}(lo:Int)(n:Nat)(f:Int->List α){z:Int}(h:z=lo+(n:Nat)):(zrN lo (n+1)).flatMap f=(zrN lo n).flatMap f++f z:=by
 rw[NI,List.flatMap_append,h];simp
theorem Bt{lo hi:Int}{n:Nat}(h1:n=0∨lo+(n:Nat)<=hi+1)(h2:hi<lo+(n:Nat)):n=(hi-lo+1).toNat:=by omega
end Go.A.Pk
end
section
namespace Go.A.Pk
variable {T:Nat->Option an}
structure FxL (P:List Fi->Heap->Prop) (W:Heap->Nat->Prop) (lo:Nat) (h0:Heap) (q0 q:Nat) (rm bp:Bx) (p:List Nat) (D:List Fi) (g:Heap):Prop where
 k:Lk lo h0 g
 pd:P D g
 dm:((∀x,x<h0.next->g.get x=h0.get x)/\P D h0)∨q0∈g.log/\iB g q0
 nx:q+2<g.next
 g4:g.get h0.next=some (.cells (bxL rm) true 1)
 g7:g.get q=some (.cells (psL p bp) true 1)
 g8:g.get (q+1)=some (.cells (ceL bp.lo) true 1)
 g9:g.get (q+2)=some (.cells (ceL bp.hi) true 1)
 w4:¬W g h0.next
 w7:¬W g q
 w8:¬W g (q+1)
 w9:¬W g (q+2)
theorem JL{P:List Fi->Heap->Prop}{h0:Heap}{q0:Nat}{D:List Fi}{g g':Heap}(hq0:q0<h0.next)(hn:h0.next<=g.next)(dm:((∀x,x<h0.next->g.get x=h0.get x)/\P D h0)∨q0∈g.log/\iB g q0)(x:Ext g g'):((∀x,x<h0.next->g'.get x=h0.get x)/\P D h0)∨q0∈g'.log/\iB g' q0:=by
 rcases dm with⟨a,b⟩|⟨a,vs,own,t,b,c⟩
 ·exact .inl ⟨λz hz=>(x.old z (by omega)).trans (a z hz),b⟩
 ·exact .inr ⟨by rw[x.log];exact a,vs,own,t,(x.old _ (by omega)).trans b,c⟩
section
variable {lo N l q0:Nat} {all:List Fi} {P:List Fi->Heap->Prop} {W:Heap->Nat->Prop} {h0:Heap} {q:Nat} {rm bp:Bx} {p:List Nat} {D D':List Fi} {g g':Heap}
theorem FxL.ext(Y:GP T lo N l q0 fiV all P W)(f:FxL P W lo h0 q0 q rm bp p D g)(x:Ext g g')(hlo:lo<=g.next)(hq0:q0<h0.next)(hq:h0.next<q):FxL P W lo h0 q0 q rm bp p D g':=by
 have h1:=x.next
 have h2:=f.nx;have hw:∀z,¬W g z->¬W g' z:=λz hz q=>hz (Y.wst _ _ _ f.pd h1 x.old z q);exact⟨f.k.trans (x.lk hlo),Y.eO _ _ _ f.pd h1 x.old,JL hq0 f.k.next f.dm x,by omega,(x.old _ (by omega)).trans f.g4,(x.old _ (by omega)).trans f.g7,(x.old _ (by omega)).trans f.g8,(x.old _ (by omega)).trans f.g9,hw _ f.w4,hw _ f.w7,hw _ f.w8,hw _ f.w9⟩
theorem FxL.step(f:FxL P W lo h0 q0 q rm bp p D g)(x:Lk lo g g')(hd:q0∈g'.log/\iB g' q0)(hP:P D' g')(hk:∀z,z<g.next->¬W g z->g'.get z=g.get z)(hw:∀z,W g' z->W g z∨g.next<=z)(hq:h0.next<q):FxL P W lo h0 q0 q rm bp p D' g':=by
 have h1:=x.next
 have h2:=f.nx;have hw':∀z,z<g.next->¬W g z->¬W g' z:=λz hz hn q=>(hw z q).elim hn λq=>by omega
 exact⟨f.k.trans x,hP, .inr hd,by omega,(hk _ (by omega) f.w4).trans f.g4,(hk _ (by omega) f.w7).trans f.g7,(hk _ (by omega) f.w8).trans f.g8,(hk _ (by omega) f.w9).trans f.g9,hw' _ (by omega) f.w4,hw' _ (by omega) f.w7,hw' _ (by omega) f.w8,hw' _ (by omega) f.w9⟩
end
theorem Hi{α:Type}{D:List Fi}{L:List α}{n:Nat}(h:D.length<=n){f:Fi}:(D++[f]).length<=n+1:=by rw[List.length_append];exact Nat.succ_le_succ h
theorem JY(F:Qw T){h:Heap}(hr:Rdy h){qa qb l q0 N lo:Nat}{a b:List Nat}(ha:IsS a)(hb:IsS b){P:List Fi->Heap->Prop}{W:Heap->Nat->Prop}(hN:N<=h.next)(hlo:lo<=h.next)(h2N:0<N)
 (Y:GP T lo N l q0 fiV (gY a b) P W)
 (ga:∀d H,P d H->H.get qa=some (.cells (us a) true 1))(gb:∀d H,P d H->H.get qb=some (.cells (us b) true 1))(htab:∀d H,P d H->Tab H)(h0:P [] h):
 Gr T 52 [.func (.yield l) #[] #[], .pointer (some ⟨qa,0,none⟩), .pointer (some ⟨qb,0,none⟩)] h lo λv h'=>v= .tuple #[]/\P (gY a b) h':=by
 have hp:=F.li.p;have ka8:=bA ha.len;have ka9:=bV ha.len;have kb8:=bA hb.len;have kb9:=bV hb.len;have hq0:q0<h.next:=Nat.lt_of_lt_of_le Y.hq hN
 refine Gr.ofK hp F.f209 hlo (λv h1 hA p=>Kv Y hq0 hA p) ?_;have C0:=ze F.bd (h:={h with log:=[]}) (.of hr.wf) (show Tab h from htab _ _ h0) (by show 0<h.next;omega) ha;have gA:=ga _ _ h0;unfold Rm at C0;have hsome:(dS a).2= !decide (a=s0):=by
  unfold dS;by_cases he:a=s0
  ·rw[if_pos he,decide_eq_true he];rfl
  ·rw[if_neg he,decide_eq_false he];rfl
 have hrm:=nN a;have hft:∀t,oT a b t=Hg a (fI b t) (dS a).1 (dS (fI b t)).1 t:=λ_=>rfl;rw[hsome]at C0;generalize(dS a).1=rm at*;refine cW (E0:=[(0, .func (.yield l) #[] #[]),(1, .pointer (some ⟨qa,0,none⟩)),(2, .pointer (some ⟨qb,0,none⟩)),(4, .pointer (some ⟨h.next,0,none⟩)),(5, .bool (!decide (a=s0)))]) (P:=λh'=>Ext h h'∧h'.next=h.next+1/\h'.get h.next=some (.cells (bxL rm) true 1)) ?_ ?_
 ·refine Y3 ?_;refine FW.pu C0 ?_;refine Y6 ?_;refine bL ?_;refine y1 ?_;exact⟨rfl,rfl,rfl,ff (by omega) _ _,rfl,fO _ _⟩
 clear C0;rintro H1 ⟨x1,n1,q1⟩;have W1:=x1.wf hr.wf;have hL1:=x1.log.trans hr.log;have hk1:Lk lo h H1:=⟨x1.next,λhh=>by rw[hL1];exact eF.nil _,λz hz=>x1.old z (by omega),x1.wf⟩;have hP1:P [] H1:=Y.eO _ _ _ h0 x1.next x1.old
 have hdm1:((∀x,x<h.next->H1.get x=h.get x)/\P [] h)∨q0∈H1.log/\iB H1 q0:= .inl ⟨x1.old,h0⟩;have hw1:¬W H1 h.next:=λq=>Nat.lt_irrefl _ (Y.wlt _ _ _ h0 (Y.wst _ _ _ h0 x1.next x1.old _ q))
 have gA1:=ga _ _ hP1;have gB1:=gb _ _ hP1;clear gA;by_cases he:a=s0
 ·have hf:gY a b=[]:=if_pos (.inl he);rw[hf,decide_eq_true he];refine Y18 ?_;exact CC (hk1.log (by rw[hr.log];exact eF.nil _)) rfl ⟨rfl,hP1,hdm1⟩
 rw[decide_eq_false he];have C1:=rR F.co (h:={H1 with log:=[]}) (.of W1) hb;have C2:=rR F.co (h:={H1 with log:=[]}) (.of W1) ha;by_cases hcn:ij a<ij b
 ·have hf:gY a b=[]:=if_pos (.inr hcn);rw[hf];have m1:aq .gtr (.int .i64 ((ij b:Nat):Int)) (.int .i64 ((ij a:Nat):Int))=some (.bool true):=jD (by omega);refine Y9 ?_;refine FW.puD C1 (by apply ah rfl (aa rfl (dh (by exact rfl) (by assumption) (by assumption) (by assumption)) (by exact yd _)) rfl;(repeat apply aG rfl);exact bh) ?_;skip;refine qC ?_;refine FW.puD C2 (by apply aG rfl;exact bh) ?_;refine Y8 ?_;exact CC (hk1.log (by rw[hr.log];exact eF.nil _)) rfl ⟨rfl,hP1,hdm1⟩
 have hf:gY a b=(List.range 24).flatMap (oT a b):=if_neg (λq=>q.elim he hcn);have m1:aq .gtr (.int .i64 ((ij b:Nat):Int)) (.int .i64 ((ij a:Nat):Int))=some (.bool false):=ji (by omega);refine Y9 ?_;refine FW.puD C1 (by apply ah rfl (aa rfl (dh (by exact rfl) (by assumption) (by assumption) (by assumption)) (by exact yd _)) rfl;(repeat apply aG rfl);exact bh) ?_;skip;refine qC ?_;refine FW.puD C2 (by apply aG rfl;exact bh) ?_;clear C1 C2;refine Y12 ?_
 refine cM (λk e ds h'=>∃t:Nat,t<=24/\24-t=k/\e=[(0, .func (.yield l) #[] #[]),(1, .pointer (some ⟨qa,0,none⟩)),(2, .pointer (some ⟨qb,0,none⟩)),(4, .pointer (some ⟨h.next,0,none⟩)),(28, .int .i64 (t:Nat))]/\ds=[]/\Lk lo h h'∧P ((List.range t).flatMap (oT a b)) h'∧h.next<h'.next/\h'.get h.next=some (.cells (bxL rm) true 1)/\(((∀x,x<h.next->h'.get x=h.get x)/\P ((List.range t).flatMap (oT a b)) h)∨q0∈h'.log/\iB h' q0)/\¬W h' h.next/\((List.range t).flatMap (oT a b)).length<=t*4096)
  ⟨0,Nat.zero_le _,rfl,rfl,rfl,hk1,hP1,by omega,q1,hdm1,hw1,Nat.zero_le _⟩ ?_
 clear hP1 gA1 gB1 q1 hk1 W1 hL1 x1 n1 hdm1 hw1;rintro k e ds G ⟨t,ht24,rfl,rfl,rfl,hk,hP,hnx,g4,hdm,hwG,hln⟩;have WG:=hk.wf hr.wf;by_cases ht:t<24
 ·have hps:=sV b t;have hbp:=nN (fI b t);have D1:=PI F.mp (h:={G with log:=[]}) (.of WG) (show Tab G from htab _ _ hP) (by show 0<G.next;omega) hb ht;have gB:=gb _ _ hP;have hT:(List.range (t+1)).flatMap (oT a b)=(List.range t).flatMap (oT a b)++oT a b t:=by rw[List.range_succ,List.flatMap_append];simp
  have hmem:∀f∈oT a b t,f∈gY a b:=λf hf'=>by
   rw[hf];exact List.mem_flatMap.2 ⟨t,List.mem_range.2 ht,hf'⟩
  rw[hft t]at hT hmem;generalize(List.range t).flatMap (oT a b)=D at*;generalize hbb:dS (fI b t)=bb at*;generalize fI b t=p at*;obtain⟨bp,some'⟩:=bb;dsimp only at hbp hT hmem;have kp8:=bA hps.len;have lo14:=Be (b:=uL) hps;have lo14o:=Me (s:=p) (b:=uL);refine Y13 ?_;refine cW (E0:=[(0, .func (.yield l) #[] #[]),(1, .pointer (some ⟨qa,0,none⟩)),(2, .pointer (some ⟨qb,0,none⟩)),(4, .pointer (some ⟨h.next,0,none⟩)),(6, .int .i64 (t:Nat)),(7, .pointer (some ⟨G.next,0,none⟩)),(28, .int .i64 (t:Nat))]) (P:=λh'=>Ext G h'∧h'.next=G.next+1/\h'.get G.next=some (.cells (psL p uL) true 1)) ?_ ?_
  ·refine Y4 ?_;refine FW.pu D1 ?_;skip;refine aD (p8 (Od hps (by exact rfl))) ?_;refine aD (uj) ?_;refine aD (bZ (by exact rfl) (by exact rfl) YG (by assumption) (by exact rfl) (by assumption)) ?_;refine bL ?_;refine y1 ?_;exact⟨rfl,rfl,rfl,ff (by omega) _ _,rfl,fO _ _⟩
  clear D1;rintro G1 ⟨x1,n1,q1⟩;have WG1:=x1.wf WG;have hP1:P D G1:=Y.eO _ _ _ hP x1.next x1.old
  have D2:=ze F.bd (h:={G1 with log:=[]}) (.of WG1) (show Tab G1 from htab _ _ hP1) (by show 0<G1.next;omega) hps;rw[hbb]at D2;unfold Rm at D2;dsimp only at D2;have ks:=U8 (b:=uL) hps;have ku:=Sz (b:=uL) (b':=bp) hps;have kuc:(Nat.beq (cm (cellsOf (bxV bp))) 6&&Nat.ble (0+8+6) (cm (psL p uL))&&dY (cellsOf (bxV bp)))=true:=by
   rw[bS (psL p uL),lo14];rfl
  refine cW (E0:=[(0, .func (.yield l) #[] #[]),(1, .pointer (some ⟨qa,0,none⟩)),(2, .pointer (some ⟨qb,0,none⟩)),(4, .pointer (some ⟨h.next,0,none⟩)),(6, .int .i64 (t:Nat)),(7, .pointer (some ⟨G.next,0,none⟩)),(28, .int .i64 (t:Nat))]) (P:=λh'=>Ext G h'∧h'.next=G.next+1/\h'.get G.next=some (.cells (psL p bp) true 1)) ?_ ?_
  ·refine Y4 ?_;refine FW.pu D2 ?_;refine Y4 ?_;refine aD (jy (by exact rfl) (by exact rfl) q1 kuc ku) ?_;refine bL ?_;refine y1 ?_;exact⟨rfl,rfl,rfl,⟨x1.next,(Heap.aB (by omega)).trans x1.log,λb hb=>(z5 (by omega)).trans (x1.old b hb),λw=>(x1.wf w).as (AS.wr h.next _ _ _)⟩,n1,Heap.aI q1⟩
  clear D2 q1 hP1 WG1 n1 x1;rintro G2 ⟨x2,n2,q2⟩;have kl:=Sw (b:=bp) hps;have kh:=Sv (b:=bp) hps;have cl:Nat.beq (cm (ceL bp.lo)) 3=true:=rfl;have ch:Nat.beq (cm (ceL bp.hi)) 3=true:=rfl;refine cW (E0:=[(0, .func (.yield l) #[] #[]),(1, .pointer (some ⟨qa,0,none⟩)),(2, .pointer (some ⟨qb,0,none⟩)),(4, .pointer (some ⟨h.next,0,none⟩)),(6, .int .i64 (t:Nat)),(7, .pointer (some ⟨G.next,0,none⟩)),(8, .pointer (some ⟨G2.next,0,none⟩)),(9, .pointer (some ⟨G2.next+1,0,none⟩)),(28, .int .i64 (t:Nat))]) (P:=λh'=>Ext G h'∧h'.next=G2.next+2/\h'.get G.next=some (.cells (psL p bp) true 1)/\h'.get G2.next=some (.cells (ceL bp.lo) true 1)/\h'.get (G2.next+1)=some (.cells (ceL bp.hi) true 1)) ?_ ?_
  ·refine Y3 ?_;refine bW rfl rfl rfl (by exact rfl) (by exact rfl) (by exact rfl) (dh (by exact rfl) (by assumption) (by assumption) (by exact rfl)) ?_;refine Y2 ?_;refine bW rfl rfl rfl (by exact rfl) (by exact rfl) (by exact rfl) (dh (by exact rfl) (by assumption) (by assumption) (by exact rfl)) ?_;refine BO rfl rfl rfl (by exact rfl) (by exact rfl) (by exact rfl) uj (by refine e9 (aa rfl (dh (by exact rfl) YG (by assumption) (by exact rfl)) (by refine pS ?_;refine di (iu _ _) ?_;refine di (iu _ _) ?_;exact di (iu _ _) (by assumption))) ?_;refine e9 (aa rfl (cT (by exact rfl)) (by exact aX _)) ?_;refine e9 (aa rfl (cT (by exact rfl)) (by exact aX _)) ?_;refine e9 (aa rfl (dh (by exact rfl) YG (by assumption) (by exact rfl)) (by refine pS ?_;refine di (iu _ _) ?_;refine di (iu _ _) ?_;exact di (iu _ _) (by assumption))) ?_;refine e9 (aa rfl (cT (by exact rfl)) (by exact aX _)) ?_;refine e9 (aa rfl (cT (by exact rfl)) (by exact aX _)) ?_;exact Bw) ?_;refine BO rfl rfl rfl (by exact rfl) (by exact rfl) (by exact rfl) uj (by refine e9 (PA rfl) ?_;refine e9 (aa rfl (dh (by exact rfl) YG (by assumption) (by exact rfl)) (by refine pS ?_;refine di (iu _ _) ?_;refine di (iu _ _) ?_;exact di (iu _ _) (by assumption))) ?_;refine e9 (aa rfl (cT (by exact rfl)) (by exact aX _)) ?_;refine e9 (aa rfl (cT (by exact rfl)) (by exact aX _)) ?_;refine e9 (aa rfl (dh (by exact rfl) YG (by assumption) (by exact rfl)) (by refine pS ?_;refine di (iu _ _) ?_;refine di (iu _ _) ?_;exact di (iu _ _) (by assumption))) ?_;refine e9 (aa rfl (cT (by exact rfl)) (by exact aX _)) ?_;refine e9 (aa rfl (cT (by exact rfl)) (by exact aX _)) ?_;exact Bw) ?_;refine yp rfl rfl rfl (by exact rfl) (by exact rfl) (by exact rfl) YG (by exact rfl) (by exact rfl) (by(simp only[z1,z2];omega)) (by omega) (by(repeat apply aG rfl);apply ah rfl (aa rfl (dh (by exact rfl) YG (by assumption) (by exact rfl)) (by refine pS ?_;refine di (iu _ _) ?_;refine di (iu _ _) ?_;exact di (iu _ _) (by assumption))) rfl;apply ah rfl (aa rfl (cT (by exact rfl)) (by exact aX _)) rfl;apply ah rfl (aa rfl (cT (by exact rfl)) (by exact aX _)) rfl;(repeat apply aG rfl);exact bh) ?_;refine yp rfl rfl rfl (by exact rfl) (by exact rfl) (by exact rfl) YG (by exact rfl) (by exact rfl) (by(simp only[z1,z2];omega)) (by(simp only[z1,z2];omega)) (by(repeat apply aG rfl);exact bh) ?_;refine Y2 ?_;refine⟨rfl,rfl,rfl,⟨by show G.next<=G2.next+2;omega,by rw[Heap.aB (by show h.next<=G2.next+1;omega),Heap.aB (by omega)];exact x2.log,λb hb=>by
    rw[z5 (by show b≠G2.next+1;omega),z5 (by omega),z4 (by show b<G2.next+1;omega),z4 (by omega)];exact x2.old b hb,λw=>((((x2.wf w).push _).push _).as (AS.wr _ _ _ _)).as (AS.wr _ _ _ _)⟩,rfl,?_,?_,?_⟩
   ·exact YG
   ·exact YG
   ·exact YG
  rintro G3 ⟨x3,n3,q3,q8,q9⟩;rw[n2]at n3 q8 q9⊢;have hk3:Lk lo h G3:=hk.trans (x3.lk (by have:=hk.next;omega));have hP3:P D G3:=Y.eO _ _ _ hP x3.next x3.old
  have hw3:∀z,W G3 z->W G z:=Y.wst _ _ _ hP x3.next x3.old
  have hw4:∀z,W G z->z<G.next:=λz=>Y.wlt _ _ z hP
  have FX:FxL P W lo h q0 G.next rm bp p D G3:=⟨hk3,hP3,JL hq0 hk.next hdm x3,by omega,(x3.old _ hnx).trans g4,q3,q8,q9,λq=>hwG (hw3 _ q),λq=>absurd (hw4 _ (hw3 _ q)) (by omega),λq=>absurd (hw4 _ (hw3 _ q)) (by omega),λq=>absurd (hw4 _ (hw3 _ q)) (by omega)⟩
  have hqN:N<=G.next:=by have:=hk.next;omega
  have hqh:h.next<G.next:=hnx
  clear q2 x2 n2 q3 q8 q9 hk3 hP3 x3 n3 g4 hnx hP hk gB hw3 hw4 hwG hdm ks ku kuc kp8 lo14 lo14o kl kh cl ch WG;generalize G.next=q at*
  have hx1:=hrm.lo.x;have hx2:=hrm.hi.x;have hy1:=hrm.lo.y;have hy2:=hrm.hi.y;have hz1:=hrm.lo.z;have hz2:=hrm.hi.z;have px1:=hbp.lo.x;have px2:=hbp.hi.x;have py1:=hbp.lo.y;have py2:=hbp.hi.y;have pz1:=hbp.lo.z;have pz2:=hbp.hi.z;have sz1:aq .sub (.int .i64 rm.lo.z) (.int .i64 bp.lo.z)=some (.int .i64 (rm.lo.z-bp.lo.z)):=mA (ct (by omega) (by omega));have sz2:aq .sub (.int .i64 rm.hi.z) (.int .i64 bp.hi.z)=some (.int .i64 (rm.hi.z-bp.hi.z)):=mA (ct (by omega) (by omega));have sy1:aq .sub (.int .i64 rm.lo.y) (.int .i64 bp.lo.y)=some (.int .i64 (rm.lo.y-bp.lo.y)):=mA (ct (by omega) (by omega));have sy2:aq .sub (.int .i64 rm.hi.y) (.int .i64 bp.hi.y)=some (.int .i64 (rm.hi.y-bp.hi.y)):=mA (ct (by omega) (by omega));have sx1:aq .sub (.int .i64 rm.lo.x) (.int .i64 bp.lo.x)=some (.int .i64 (rm.lo.x-bp.lo.x)):=mA (ct (by omega) (by omega));have sx2:aq .sub (.int .i64 rm.hi.x) (.int .i64 bp.hi.x)=some (.int .i64 (rm.hi.x-bp.hi.x)):=mA (ct (by omega) (by omega));have q4:=FX.g4;have q8:=FX.g8;refine Y10 ?_
  refine cM (λk e ds h'=>∃(n:Nat) (z:Int),z=rm.lo.z-bp.lo.z+(n:Nat)/\(n=0∨z<=rm.hi.z-bp.hi.z+1)/\16-n=k/\e=[(0, .func (.yield l) #[] #[]),(1, .pointer (some ⟨qa,0,none⟩)),(2, .pointer (some ⟨qb,0,none⟩)),(4, .pointer (some ⟨h.next,0,none⟩)),(6, .int .i64 (t:Nat)),(7, .pointer (some ⟨q,0,none⟩)),(8, .pointer (some ⟨q+1,0,none⟩)),(9, .pointer (some ⟨q+1+1,0,none⟩)),(10, .int .i64 z),(28, .int .i64 (t:Nat))]/\ds=[]/\FxL P W lo h q0 q rm bp p (D++(zrN (rm.lo.z-bp.lo.z) n).flatMap (wo a p rm bp t)) h'∧(D++(zrN (rm.lo.z-bp.lo.z) n).flatMap (wo a p rm bp t)).length<=t*4096+n*256)
   ⟨0,_,by simp, .inl rfl,rfl,rfl,rfl,by rw[show zrN (rm.lo.z-bp.lo.z) 0=[]from rfl,List.flatMap_nil,List.append_nil];exact FX,by rw[show zrN (rm.lo.z-bp.lo.z) 0=[]from rfl,List.flatMap_nil,List.append_nil];exact Nat.le_trans hln (by omega)⟩ ?_
  clear FX q4 q8;rintro k e ds G ⟨n,z,hz,hn,rfl,rfl,rfl,FX,hlz⟩;have hn16:n<16:=by omega
  by_cases hle:z<=rm.hi.z-bp.hi.z
  ·have lz:aq .leq (.int .i64 z) (.int .i64 (rm.hi.z-bp.hi.z))=some (.bool true):=rf hle;have az:aq .add (.int .i64 z) (.int .i64 1)=some (.int .i64 (z+1)):=kK (ct (by omega) (by omega));have mz:=BX hz hle;have fz:=yx (rm.lo.z-bp.lo.z) n (wo a p rm bp t) hz;have hfy:wo a p rm bp t z=(zr (rm.lo.y-bp.lo.y) (rm.hi.y-bp.hi.y)).flatMap (tD a p rm bp t z):=rfl;have q4:=FX.g4;have q8:=FX.g8;have q9:=FX.g9;generalize hDz:D++(zrN (rm.lo.z-bp.lo.z) n).flatMap (wo a p rm bp t)=Dz at*;refine Y26 ?_
   refine cM (λk e ds h'=>∃(j:Nat) (y:Int),y=rm.lo.y-bp.lo.y+(j:Nat)/\(j=0∨y<=rm.hi.y-bp.hi.y+1)/\16-j=k/\e=[(0, .func (.yield l) #[] #[]),(1, .pointer (some ⟨qa,0,none⟩)),(2, .pointer (some ⟨qb,0,none⟩)),(4, .pointer (some ⟨h.next,0,none⟩)),(6, .int .i64 (t:Nat)),(7, .pointer (some ⟨q,0,none⟩)),(8, .pointer (some ⟨q+1,0,none⟩)),(9, .pointer (some ⟨q+1+1,0,none⟩)),(10, .int .i64 z),(11, .int .i64 y),(28, .int .i64 (t:Nat))]/\ds=[]/\FxL P W lo h q0 q rm bp p (Dz++(zrN (rm.lo.y-bp.lo.y) j).flatMap (tD a p rm bp t z)) h'∧(Dz++(zrN (rm.lo.y-bp.lo.y) j).flatMap (tD a p rm bp t z)).length<=t*4096+n*256+j*16)
    ⟨0,_,by simp, .inl rfl,rfl,rfl,rfl,by rw[show zrN (rm.lo.y-bp.lo.y) 0=[]from rfl,List.flatMap_nil,List.append_nil];exact FX,by rw[show zrN (rm.lo.y-bp.lo.y) 0=[]from rfl,List.flatMap_nil,List.append_nil];exact Nat.le_trans hlz (by omega)⟩ ?_
   clear FX q4 q8 q9;rintro k e ds G ⟨j,y,hy,hj,rfl,rfl,rfl,FX,hly⟩;have hj16:j<16:=by omega
   have q4:=FX.g4;have q8:=FX.g8;have q9:=FX.g9;by_cases hley:y<=rm.hi.y-bp.hi.y
   ·have ly:aq .leq (.int .i64 y) (.int .i64 (rm.hi.y-bp.hi.y))=some (.bool true):=rf hley;have ay:aq .add (.int .i64 y) (.int .i64 1)=some (.int .i64 (y+1)):=kK (ct (by omega) (by omega));have my:=BX hy hley;have fy:=yx (rm.lo.y-bp.lo.y) j (tD a p rm bp t z) hy;have hfx:tD a p rm bp t z y=(zr (rm.lo.x-bp.lo.x) (rm.hi.x-bp.hi.x)).flatMap (uQ a p bp t z y):=rfl;generalize hDy:Dz++(zrN (rm.lo.y-bp.lo.y) j).flatMap (tD a p rm bp t z)=Dy at*;refine Y26 ?_
    refine cM (λk e ds h'=>∃(i:Nat) (x:Int),x=rm.lo.x-bp.lo.x+(i:Nat)/\(i=0∨x<=rm.hi.x-bp.hi.x+1)/\16-i=k/\e=[(0, .func (.yield l) #[] #[]),(1, .pointer (some ⟨qa,0,none⟩)),(2, .pointer (some ⟨qb,0,none⟩)),(4, .pointer (some ⟨h.next,0,none⟩)),(6, .int .i64 (t:Nat)),(7, .pointer (some ⟨q,0,none⟩)),(8, .pointer (some ⟨q+1,0,none⟩)),(9, .pointer (some ⟨q+1+1,0,none⟩)),(10, .int .i64 z),(11, .int .i64 y),(12, .int .i64 x),(28, .int .i64 (t:Nat))]/\ds=[]/\FxL P W lo h q0 q rm bp p (Dy++(zrN (rm.lo.x-bp.lo.x) i).flatMap (uQ a p bp t z y)) h'∧(Dy++(zrN (rm.lo.x-bp.lo.x) i).flatMap (uQ a p bp t z y)).length<=t*4096+n*256+j*16+i)
     ⟨0,_,by simp, .inl rfl,rfl,rfl,rfl,by rw[show zrN (rm.lo.x-bp.lo.x) 0=[]from rfl,List.flatMap_nil,List.append_nil];exact FX,by rw[show zrN (rm.lo.x-bp.lo.x) 0=[]from rfl,List.flatMap_nil,List.append_nil];exact Nat.le_trans hly (by omega)⟩ ?_
    clear FX q4 q8 q9;rintro k e ds G ⟨i,x,hx,hi,rfl,rfl,rfl,FX,hlx⟩;have hi16:i<16:=by omega
    have q4:=FX.g4;have q9:=FX.g9;by_cases hlex:x<=rm.hi.x-bp.hi.x
    ·have lx:aq .leq (.int .i64 x) (.int .i64 (rm.hi.x-bp.hi.x))=some (.bool true):=rf hlex;have ax:aq .add (.int .i64 x) (.int .i64 1)=some (.int .i64 (x+1)):=kK (ct (by omega) (by omega));have mx':=BX hx hlex;have fx:=yx (rm.lo.x-bp.lo.x) i (uQ a p bp t z y) hx;have WG:=FX.k.wf hr.wf;have hnG:=FX.k.next
     have hnq:=FX.nx;have q7:=FX.g7;have ka:=Pd (b:=bp) hps;have kl:=Md (b:=bp) hps;have C3:=Hy F.li (h:={G with log:=[]}) (.of WG) hps (b:=bp) (x:=x) (y:=y) (z:=z) (by omega) (by omega) (by omega) pz1 pz2 (by omega) (by omega);have hls:IsS (kJ p bp x y z):=ng hps _ _ _ _;have htry:uQ a p bp t z y x=if sIn (kJ p bp x y z) a then [⟨t,x,y,z,kJ p bp x y z⟩]else []:=rfl
     have hmm:sIn (kJ p bp x y z) a=true->(⟨t,x,y,z,kJ p bp x y z⟩:Fi)∈gY a b:=λhin=>by
      refine hmem _ (List.mem_flatMap.2 ⟨z,mz,List.mem_flatMap.2 ⟨y,my,List.mem_flatMap.2 ⟨x,mx',?_⟩⟩⟩);rw[htry,if_pos hin];exact List.mem_singleton.2 rfl
     generalize hDx:Dy++(zrN (rm.lo.x-bp.lo.x) i).flatMap (uQ a p bp t z y)=Dx at*;generalize kJ p bp x y z=ls at*;have kls:=bV hls.len;have kll:=bA hls.len;have klo:=dB ls;have klen:(us ls).length=8:=by rw[aH,hls.len]
     refine Y16 ?_;refine cW (E0:=[(0, .func (.yield l) #[] #[]),(1, .pointer (some ⟨qa,0,none⟩)),(2, .pointer (some ⟨qb,0,none⟩)),(4, .pointer (some ⟨h.next,0,none⟩)),(6, .int .i64 (t:Nat)),(7, .pointer (some ⟨q,0,none⟩)),(8, .pointer (some ⟨q+1,0,none⟩)),(9, .pointer (some ⟨q+1+1,0,none⟩)),(10, .int .i64 z),(11, .int .i64 y),(12, .int .i64 x),(13, .pointer (some ⟨G.next,0,none⟩)),(28, .int .i64 (t:Nat))]) (P:=λh'=>Ext G h'∧h'.next=G.next+1/\h'.get G.next=some (.cells (us ls) true 1)) ?_ ?_
     ·refine Y6 ?_;refine FW.pu C3 ?_;refine aD (uj) ?_;refine aD (bZ (by exact rfl) (by exact rfl) YG (by assumption) (by exact rfl) (by exact dB _)) ?_;refine bL ?_;refine y1 ?_;exact⟨rfl,rfl,rfl,ff (by omega) _ _,rfl,fO _ _⟩
     clear C3 q4 q9 q7;rintro G' ⟨x',n',g13⟩;have FX':=FX.ext Y x' (by omega) hq0 hqh;have hP':=FX'.pd;have WG':=x'.wf WG;have gA:=ga _ _ hP';have C4:=CU hp F.f35 F.f121 (h:={G' with log:=[]}) (.of WG') hls ha;refine Y4 ?_;refine FW.pu C4 ?_;clear C4;cases hin:sIn ls a with
     |false=>
      rw[hin,if_neg (by simp)]at htry;refine Y21 ?_;refine⟨16-(i+1),by omega,i+1,x+1,by omega, .inr (by omega),rfl,rfl,rfl,?_,?_⟩
      ·rw[fx,htry,List.append_nil,hDx];exact FX'
      ·rw[fx,htry,List.append_nil,hDx];omega
     |true=>
      rw[hin,if_pos rfl]at htry;refine Y16 ?_;refine kZ (fn:= .yield l) (args:=fiV ⟨t,x,y,z,ls⟩) (by rfl) ?_;refine Y.call hp (hmm hin) (by omega) WG' (by omega) (by omega) hq0 hP' ?_;intro h2 hk2 hd2 hP2 hkp hwr;refine Y13 ?_;refine⟨16-(i+1),by omega,i+1,x+1,by omega, .inr (by omega),rfl,rfl,rfl,?_,?_⟩
      ·rw[fx,htry,←List.append_assoc,hDx];exact FX'.step hk2 hd2 hP2 hkp hwr hqh
      ·rw[fx,htry,←List.append_assoc,hDx];have:=Hi (L:=([]:List Nat)) hlx (f:=⟨t,x,y,z,ls⟩);omega
    ·have lx:aq .leq (.int .i64 x) (.int .i64 (rm.hi.x-bp.hi.x))=some (.bool false):=qZ (by omega);have hie:=Bt (lo:=rm.lo.x-bp.lo.x) (hi:=rm.hi.x-bp.hi.x) (n:=i) (by omega) (by omega);have e:(zrN (rm.lo.x-bp.lo.x) i).flatMap (uQ a p bp t z y)=tD a p rm bp t z y:=by rw[hie];rfl
     rw[e]at FX hlx;refine Y23 ?_;refine⟨16-(j+1),by omega,j+1,y+1,by omega, .inr (by omega),rfl,rfl,rfl,?_,?_⟩
     ·rw[fy,←List.append_assoc,hDy];exact FX
     ·rw[fy,←List.append_assoc,hDy];omega
   ·have ly:aq .leq (.int .i64 y) (.int .i64 (rm.hi.y-bp.hi.y))=some (.bool false):=qZ (by omega);have hje:=Bt (lo:=rm.lo.y-bp.lo.y) (hi:=rm.hi.y-bp.hi.y) (n:=j) (by omega) (by omega);refine Y23 ?_;refine⟨16-(n+1),by omega,n+1,z+1,by omega, .inr (by omega),rfl,rfl,rfl,?_⟩;rw[fz,←List.append_assoc];have e:(zrN (rm.lo.y-bp.lo.y) j).flatMap (tD a p rm bp t z)=wo a p rm bp t z:=by rw[hje];rfl
    rw[e]at FX hly;rw[hDz];exact⟨FX,by omega⟩
  ·have lz:aq .leq (.int .i64 z) (.int .i64 (rm.hi.z-bp.hi.z))=some (.bool false):=qZ (by omega);have hne:=Bt (lo:=rm.lo.z-bp.lo.z) (hi:=rm.hi.z-bp.hi.z) (n:=n) (by omega) (by omega);have q4:=FX.g4;have q9:=FX.g9;refine Y22 ?_;rw[hne]at FX hlz;have FXT:FxL P W lo h q0 q rm bp p ((List.range (t+1)).flatMap (oT a b)) G:=by rw[hT];exact FX
   have hlT:((List.range (t+1)).flatMap (oT a b)).length<=(t+1)*4096:=by
    rw[hT];exact Nat.le_trans hlz (by omega)
   exact⟨24-(t+1),by omega,t+1,by omega,rfl,rfl,rfl,FXT.k,FXT.pd,by have:=FXT.nx;omega,FXT.g4,FXT.dm,FXT.w4,hlT⟩
 ·obtain rfl:t=24:=by omega
  rw[←hf]at hP hdm;refine Y9 ?_;exact vY (hk.log (by rw[hr.log];exact eF.nil _)) rfl ⟨rfl,hP,hdm⟩
def Au(a b:Nat):Int:=if a<b then -1 else if b<a then 1 else 0
def cmpL:List Nat->List Nat->Int
 |a::l,b::m=>if a<b then -1 else if b<a then 1 else cmpL l m
 |_,_=>0
theorem tw:∀l:List Nat,cmpL l l=0
 |[]=>rfl
 |a::l=>by
  unfold cmpL;rw[if_neg (Nat.lt_irrefl a),if_neg (Nat.lt_irrefl a)];exact tw l
theorem FV:∀{l m:List Nat} {j x y:Nat},l.take j=m.take j->l[j]? =some x->m[j]? =some y->x≠y->cmpL l m=Au x y
 |[],_,j,x,y,_,h,_,_=>by simp at h
 |_::_,[],j,x,y,_,_,h,_=>by simp at h
 |a::l,b::m,0,x,y,_,h1,h2,h=>by
  simp at h1 h2;subst h1;subst h2;unfold cmpL Au;by_cases q:a<b
  ·rw[if_pos q,if_pos q]
  ·rw[if_neg q,if_neg q,if_pos (by omega),if_pos (by omega)]
 |a::l,b::m,j+1,x,y,ht,h1,h2,h=>by
  simp only[List.take_succ_cons,List.cons.injEq]at ht;obtain⟨rfl,ht⟩:=ht;unfold cmpL;rw[if_neg (Nat.lt_irrefl a),if_neg (Nat.lt_irrefl a)];exact FV ht (by simpa using h1) (by simpa using h2) h
structure yK (T:Nat->Option an):Prop where
 p:aF T
 f191:T 59=some f191
 f256:T 77=some f256
 f315:T 105=some f315
theorem Ls(F:yK T){h:Heap}(hr:Rdy h)(x:Nat):Pu T 105 [.int .u64 (x:Nat)] h (.bool false):=by
 refine .of F.p F.f315 hr rfl ?_;have m1:aq .neq (.int .u64 (x:Nat)) (.int .u64 (x:Nat))=some (.bool false):=by rw[KU];simp
 refine Y10 ?_;exact aA hr.log rfl rfl
theorem Rs(F:yK T){h:Heap}(hr:Rdy h)(a b:Nat):Pu T 77 [.int .u64 (a:Nat), .int .u64 (b:Nat)] h (.int .i64 (Au a b)):=by
 refine .of F.p F.f256 hr rfl ?_;have C1:=Ls F (h:={h with log:=[]}) (.of hr.wf) a;have C2:=Ls F (h:={h with log:=[]}) (.of hr.wf) b;have hL:=hr.log;unfold Au;by_cases h1:a<b
 ·rw[if_pos h1];have m1:aq .lss (.int .u64 (a:Nat)) (.int .u64 (b:Nat))=some (.bool true):=ei (by omega);refine Y6 ?_;refine FW.pu C1 ?_;refine Y5 ?_;refine FW.pu C2 ?_;refine Y28 ?_;exact aA hL rfl rfl
 ·rw[if_neg h1];have m1:aq .lss (.int .u64 (a:Nat)) (.int .u64 (b:Nat))=some (.bool false):=eH (by omega);by_cases h2:b<a
  ·rw[if_pos h2];have m2:aq .gtr (.int .u64 (a:Nat)) (.int .u64 (b:Nat))=some (.bool true):=jD (by omega);refine Y6 ?_;refine FW.pu C1 ?_;refine Y5 ?_;refine FW.pu C2 ?_;refine Y37 ?_;exact aA hL rfl rfl
  ·rw[if_neg h2];have m2:aq .gtr (.int .u64 (a:Nat)) (.int .u64 (b:Nat))=some (.bool false):=ji (by omega);refine Y6 ?_;refine FW.pu C1 ?_;refine Y5 ?_;refine FW.pu C2 ?_;refine Y38 ?_;exact aA hL rfl rfl
theorem vT(F:yK T){h:Heap}(hr:Rdy h){p q c c2:Nat}{a b:List Nat}(ha:IsS a)(hb:IsS b)(ga:h.get p=some (.cells (us a) true 1))(gb:h.get q=some (.cells (us b) true 1)):
 Pu T 59 [.slice (some ⟨p,0,none⟩) 8 c, .slice (some ⟨q,0,none⟩) 8 c2] h (.int .i64 (cmpL a b)):=by
 refine .of F.p F.f191 hr rfl ?_;have hL:=hr.log;refine Y10 ?_
 refine cM (λm e ds h'=>∃j:Nat,j<=8/\8-j=m/\e=[(0, .slice (some ⟨p,0,none⟩) 8 c),(1, .slice (some ⟨q,0,none⟩) 8 c2),(9, .slice (some ⟨p,0,none⟩) 8 c),(10, .int .i64 8),(11, .int .i64 (j:Nat))]/\ds=[]/\h=h'∧a.take j=b.take j)
  ⟨0,Nat.zero_le _,rfl,rfl,rfl,rfl,rfl⟩ ?_
 rintro m e ds h' ⟨j,hj,rfl,rfl,rfl,rfl,heq⟩;by_cases hlt:j<8
 ·obtain⟨x,hx⟩:∃x,a[j]? =some x:=⟨a[j]'(by rw[ha.len];exact hlt),List.getElem?_eq_getElem _⟩;obtain⟨y,hy⟩:∃x,b[j]? =some x:=⟨b[j]'(by rw[hb.len];exact hlt),List.getElem?_eq_getElem _⟩;have e1:=mR hx;have e2:=mR hy;have C:=Rs F (h:={h with log:=[]}) (.of hr.wf) x y;have m1:aq .lss (.int .i64 (j:Nat)) (.int .i64 8)=some (.bool true):=ei (by omega);have m2:aq .geq (.int .i64 (j:Nat)) (.int .i64 8)=some (.bool false):=nY (by omega);by_cases hxy:x=y
  ·have e3:Au x y=0:=by subst hxy;unfold Au;rw[if_neg (Nat.lt_irrefl x),if_neg (Nat.lt_irrefl x)]
   rw[e3]at C;have m3:aq .neq (.int .i64 0) (.int .i64 0)=some (.bool false):=rfl;refine Y37 ?_;refine FW.pu C ?_;refine Y14 ?_;refine⟨8-(j+1),by omega,j+1,by omega,rfl,rfl,rfl,rfl,?_⟩;rw[List.take_add_one,List.take_add_one,heq,hx,hy,hxy]
  ·have e3:Au x y≠0:=by
    unfold Au;split
    ·decide
    ·rw[if_pos (by omega)];decide
   have e4:=FV heq hx hy hxy;have m3:aq .neq (.int .i64 (Au x y)) (.int .i64 0)=some (.bool true):=jE e3;rw[e4];refine Y37 ?_;refine FW.pu C ?_;refine Y17 ?_;exact aA hL rfl rfl
 ·obtain rfl:j=8:=by omega
  have hab:a=b:=by
   rw[List.take_of_length_le (by rw[ha.len];omega),List.take_of_length_le (by rw[hb.len];omega)]at heq;exact heq
  rw[hab,tw];have m1:aq .lss (.int .i64 ((8:Nat):Int)) (.int .i64 8)=some (.bool false):=rfl;refine Y25 ?_;exact aA hL rfl rfl
theorem Oy(F:yK T)(hf:T 30=some f168){h:Heap}(hr:Rdy h){a b:List Nat}(ha:IsS a)(hb:IsS b):Pu T 30 [sv a,sv b] h (.int .i64 (cmpL a b)):=by
 refine .of F.p hf hr rfl ?_;have x0:Ext h ((h.push (.cells (cellsOf (sv a)) true 1)).push (.cells (cellsOf (sv b)) true 1)):=((Ext.refl h).push _).push _;have g0:((h.push (.cells (cellsOf (sv a)) true 1)).push (.cells (cellsOf (sv b)) true 1)).get h.next=some (.cells (us a) true 1):=YG
 have g1:((h.push (.cells (cellsOf (sv a)) true 1)).push (.cells (cellsOf (sv b)) true 1)).get (h.next+1)=some (.cells (us b) true 1):=YG;refine Y5 ?_;generalize((h.push (.cells (cellsOf (sv a)) true 1)).push (.cells (cellsOf (sv b)) true 1))=H at*;have W:=x0.wf hr.wf;have hL:=x0.log.trans hr.log;have C:=λc c2=>vT F (h:={H with log:=[]}) (.of W) (c:=c) (c2:=c2) ha hb g0 g1;refine Y2 ?_;refine bW rfl rfl rfl (by exact rfl) (by exact rfl) (by exact rfl) (jP (i:=0) (j:=8) (by exact rfl) (by exact rfl) (by exact rfl) (by omega) (by omega) (by omega) (by omega)) ?_;refine bW rfl rfl rfl (by exact rfl) (by exact rfl) (by exact rfl) (jP (i:=0) (j:=8) (by exact rfl) (by exact rfl) (by exact rfl) (by omega) (by omega) (by omega) (by omega)) ?_;skip;refine qC ?_;refine FW.puD (C _ _) (by(repeat apply aG rfl);exact bh) ?_;refine Y5 ?_;exact aA hL rfl rfl
theorem Oz(F:yK T)(hf:T 82=some f190){h:Heap}(hr:Rdy h){a b:List Nat}(ha:IsS a)(hb:IsS b):Pu T 82 [sv a,sv b] h (.int .i64 (cmpL a b)):=by
 refine .of F.p hf hr rfl ?_;have x0:Ext h ((h.push (.cells (cellsOf (sv a)) true 1)).push (.cells (cellsOf (sv b)) true 1)):=((Ext.refl h).push _).push _;have g0:((h.push (.cells (cellsOf (sv a)) true 1)).push (.cells (cellsOf (sv b)) true 1)).get h.next=some (.cells (us a) true 1):=YG
 have g1:((h.push (.cells (cellsOf (sv a)) true 1)).push (.cells (cellsOf (sv b)) true 1)).get (h.next+1)=some (.cells (us b) true 1):=YG;refine Y5 ?_;generalize((h.push (.cells (cellsOf (sv a)) true 1)).push (.cells (cellsOf (sv b)) true 1))=H at*;have W:=x0.wf hr.wf;have hL:=x0.log.trans hr.log;have C:=λc c2=>vT F (h:={H with log:=[]}) (.of W) (c:=c) (c2:=c2) ha hb g0 g1;refine Y2 ?_;refine bW rfl rfl rfl (by exact rfl) (by exact rfl) (by exact rfl) (jP (i:=0) (j:=8) (by exact rfl) (by exact rfl) (by exact rfl) (by omega) (by omega) (by omega) (by omega)) ?_;refine bW rfl rfl rfl (by exact rfl) (by exact rfl) (by exact rfl) (jP (i:=0) (j:=8) (by exact rfl) (by exact rfl) (by exact rfl) (by omega) (by omega) (by omega) (by omega)) ?_;skip;refine qC ?_;refine FW.puD (C _ _) (by(repeat apply aG rfl);exact bh) ?_;refine Y5 ?_;exact aA hL rfl rfl
end Go.A.Pk
end
section
namespace Go.A.Pk
variable {T:Nat->Option an}
def wm(a b:List Nat):Bool:=decide (b=s0)|| !(gY a b).isEmpty
def fnF(p q:Nat):Value:= .func (.func 52) #[] #[.pointer (some ⟨p,0,none⟩), .pointer (some ⟨q,0,none⟩)]
structure Qu (T:Nat->Option an):Prop where
 ft:Qw T
 f34:T 41=some f34
 f120:T 28=some f120
theorem Oi(F:Qu T){h:Heap}(hr:Rdy h){a b:List Nat}(ha:IsS a)(hb:IsS b):
 Al T 28 [sv a,sv b] h λv h'=>∃p q,v=fnF p q/\h'.get p=some (.cells (us a) true 1)/\h'.get q=some (.cells (us b) true 1)/\p<h'.next/\q<h'.next/\h.next<=p/\h.next<=q:=by
 refine .of F.ft.li.p F.f120 hr ?_ ?_
 ·rintro v h1 hv ⟨p,q,rfl,_⟩;cases hv
 refine Y10 ?_;exact cF hr.log rfl ⟨h.next,h.next+1,rfl,YG,YG,by show h.next<h.next+2;omega,by show h.next+1<h.next+2;omega,Nat.le_refl _,Nat.le_succ _⟩
section
open I
end
theorem Oh{a b:List Nat}(hb:¬b=s0):wm a b= !(gY a b).isEmpty:=by unfold wm;rw[decide_eq_false hb];rfl
end Go.A.Pk
end
