/- Walks of functions, plain laws, the table. -/
import Derived.Test.YtalmahakphchfaaGreatDoorSU0
import Derived.Test.YtalmahakphchfaaGreatDoorSD
import Derived.Test.YtalmahakphchfaaGreatDoorSV
import Derived.Test.YtalmahakphchfaaGreatDoorSF
set_option linter.all false
section
set_option maxRecDepth 100000
namespace Go.A.Pk
variable {T:Nat→Option af}
def ints(l:List Int):List Value:=l.map fun x=> .int .i64 x
theorem dX(l:List Int):(ints l).length=l.length:=by simp[ints]
theorem td(a b:List Int):ints (a++b)=ints a++ints b:=by simp[ints]
theorem uU:∀l:List Int,dG (ints l)=true
 |[]=>rfl
 |x::l=>uU l
def ceN(n:Nat):Ce:=⟨(n % 8:Nat),(n / 8 % 8:Nat),(n / 64:Nat)⟩
def ceS(l:List Ce):List Value:=l.flatMap ceL
def b9(s:List Nat)(n:Nat):List Ce:=((List.range n).map ceN).filter (jg s)
theorem vJ(s:List Nat)(n:Nat):b9 s (n+1)=b9 s n++(if jg s (ceN n)then [ceN n]else []):=by
 unfold b9
 rw[List.range_succ,List.map_append,List.filter_append]
 congr 1
 simp only[List.map_cons,List.map_nil,List.filter_cons,List.filter_nil]
theorem oQ(s:List Nat)(n:Nat):(b9 s n).length≤n:=by
 unfold b9
 exact Nat.le_trans (List.length_filter_le ..) (by simp)
end Go.A.Pk
end
section
set_option maxRecDepth 100000
namespace Go.A.Pk
def pe(s:List Nat)(z:Nat):List Ce:=(bitsOf (s.getD z 0)).map (iE z)
theorem vI{z i:Nat}(hi:i<64):ceN (z*64+i)=iE z i:=by
 unfold ceN iE
 rw[show(z*64+i) % 8=i % 8 by omega,show(z*64+i) / 8 % 8=i / 8 by omega,show(z*64+i) / 64=z by omega]
theorem kU(s:List Nat){z:Nat}(hz:z<8):b9 s ((z+1)*64)=b9 s (z*64)++pe s z:=by
 unfold b9 pe bitsOf
 rw[show(z+1)*64=z*64+64 by omega,List.range_add,List.map_append,List.filter_append]
 congr 1
 rw[List.map_map,List.filter_map]
 have e1:(List.range 64).filter (jg s ∘ (ceN ∘ fun x=>z*64+x))=(List.range 64).filter (Nat.testBit (s.getD z 0)):=by
  apply List.filter_congr
  intro i hi
  have hi:=List.mem_range.1 hi
  show jg s (ceN (z*64+i))=_
  rw[vI hi,jF hz hi]
 rw[e1]
 apply List.map_congr_left
 intro i hi
 have hi:=List.mem_range.1 (List.mem_filter.1 hi).1
 exact vI hi
theorem yp{f:Nat→Nat→Nat}{a b:List Nat}(ha:IsS a)(hb:IsS b){z:Nat}(hz:z<8):(List.zipWith f a b).getD z 0=f (a.getD z 0) (b.getD z 0):=by
 have e1:=kK (s:=a) (i:=z) (by rw[ha.len];exact hz)
 have e2:=kK (s:=b) (i:=z) (by rw[hb.len];exact hz)
 rw[List.getD_eq_getElem?_getD,List.getElem?_zipWith,e1,e2];rfl
theorem jd{s:List Nat}{c:Ce}(hc:¬inG c=true):jg s c=false:=by
 unfold jg
 rw[Bool.not_eq_true]at hc
 rw[hc];rfl
theorem vj{a b:List Nat}(ha:IsS a)(hb:IsS b)(c:Ce):jg (mI a b) c=(jg a c||jg b c):=by
 by_cases hc:inG c=true
 ·obtain⟨z,i,hz,hi,rfl⟩:=lu hc
  rw[jF hz hi,jF hz hi,jF hz hi]
  unfold mI uz
  rw[yp ha hb hz]
  exact Nat.testBit_or ..
 ·rw[jd hc,jd hc,jd hc];rfl
theorem wX(c:Ce):jg s0 c=false:=by
 by_cases hc:inG c=true
 ·obtain⟨z,i,hz,hi,rfl⟩:=lu hc
  rw[jF hz hi]
  have:∀z:Fin 8,s0.getD z.val 0=0:=by decide
  rw[this ⟨z,hz⟩]
  exact Nat.zero_testBit i
 ·exact jd hc
theorem CN{s:List Nat}{n:Nat}{c:Ce}(h:c∈b9 s n):jg s c=true:=(List.mem_filter.1 h).2
structure Dou where
 c:Ce
 ids:List Int
 is:Bool
 e:Int
def c0:Ce:=⟨0,0,0⟩
end Go.A.Pk
end
section
set_option maxRecDepth 100000
namespace Go.A.Pk
variable {T:Nat→Option af}
section
open I
end
theorem WE.Im{base:Nat}{rnd:Option Nat}{c:aU}{Q:XQ}{e:Env}{ds:Dfs}{h:Heap}(hK:∀hA,hA=h→WE T base rnd c Q e ds hA):WE T base rnd c Q e ds h:=hK h rfl
theorem uP(s:List Nat){n:Nat}:∀m,∃r,b9 s (n+m)=b9 s n++r
 |0=>⟨[],by simp⟩
 |m+1=>by
  obtain⟨r,e⟩:=uP s (n:=n) m
  exact⟨r++(if jg s (ceN (n+m))then [ceN (n+m)]else []),by rw[←Nat.add_assoc,vJ,e,List.append_assoc]⟩
structure Bt (T:Nat→Option af):Prop where
 p:bI T
 f123:T 40=some f123
 f213:T 74=some f213
 f214:T 75=some f214
 f264:T 119=some f264
 f265:T 120=some f265
 f266:T 121=some f266
structure PCe (l q:Nat) (H0:Heap) (L:bK) (done:List Ce) (H:Heap):Prop where
 old:∀z,z<q→H.get z=H0.get z
 loop:H.get l=some L
 nx:l<H.next
 val:∃v,H.get q=some (.cells [v] true 1)∧Own (l+1) H 3 v done.length (ceS done)
def fnC(q0:Nat):Value:= .func (.func 120) #[] #[.pointer (some ⟨q0,0,none⟩)]
theorem xU(F:Bt T){h:Heap}(hr:Rdy h){s:List Nat}(hs:IsS s):
 Al T 75 [sv s] h fun v h'=>∃q,v=fnC q∧h'.get q=some (.cells (us s) true 1)∧h.next≤q∧q<h'.next:=by
 refine .of F.p F.f214 hr ?_ ?_
 ·rintro v h1 hv ⟨q,rfl,_⟩
  cases hv
 refine y4 ?_;refine yB ?_;refine yM ?_;refine y3 ?_;refine y4 ?_;refine ah (gL (by exact rfl) (by exact rfl)) ?_
 refine yM ?_;refine y3 ?_;refine aM ?_
 exact iV hr.log rfl ⟨h.next,rfl,z3 _ _,Nat.le_refl _,Nat.lt_succ_self _⟩
set_option maxHeartbeats 8000000 in
theorem uO(F:Bt T){h:Heap}(hr:Rdy h){q0 l N lo:Nat}{s:List Nat}(hs:IsS s){P:List Ce→Heap→Prop}{S:Heap→Prop}(hN:N≤h.next)(hlo:lo≤h.next)(hlN:l<N)(Y:DX T lo N l ceV (b9 s 512) P S)
 (g0:h.get q0=some (.cells (us s) true 1))(htab:∀d H,P d H→Tab H)(h0:P [] h):
 GrX T 120 [.func (.yield l) #[] #[], .pointer (some ⟨q0,0,none⟩)] h lo (P (b9 s 512)) S:=by
 have hlb:l<h.next:=by omega
 have hp:=F.p
 have k8:=bU hs.len
 have k9:=dh hs.len
 refine GrX.of (l:=l) hp F.f265 hlo hlb (fun h1 h2 hn ha q=>Y.eZ _ _ _ q (Nat.le_trans hN hn) fun x hx=>ha x (by omega)) Y.vm ?_
 refine y4 ?_;refine yV ?_;refine yM ?_;refine y3 ?_;refine aO ?_
 refine dL (fun k e ds h'=>∃z:Nat,z≤8∧8-z=k∧e=[(0, .func (.yield l) #[] #[]),(6,sv s),(7, .int .i64 (z:Nat))]∧ds=[]∧Lk lo h h'∧P (b9 s (z*64)) h')
  ⟨0,by omega,rfl,rfl,rfl, .refl _ _,h0⟩ ?_
 rintro k e ds h' ⟨z,hz8,rfl,rfl,rfl,hk,hP⟩
 by_cases hz:z<8
 ·have e1:bD (us s).toArray.toList (z*1)=some (.int .u64 ((s.getD z 0:Nat):Int)):=by
   rw[List.toList_toArray,Nat.mul_one,cG]
   unfold us
   rw[List.getElem?_map,kK (by rw[hs.len];exact hz)];rfl
  have hx0:=hs.lZ z
  obtain⟨rest,hrest⟩:∃r,b9 s 512=b9 s (z*64)++pe s z++r:=by
   obtain⟨r,e⟩:=uP s (n:=(z+1)*64) (512-(z+1)*64)
   rw[show(z+1)*64+(512-(z+1)*64)=512 by omega,kU s hz]at e
   exact⟨r,e⟩
  have hplane:=kU s hz
  have hpl:pe s z=(bitsOf (s.getD z 0)).map (iE z):=rfl
  generalize hx:s.getD z 0=x0 at*
  generalize pe s z=pl at*
  refine y4 ?_;refine yt ?_;refine y3 ?_;refine an ?_;refine yY ?_;refine bA ?_;refine bH ?_;refine an ?_;refine aO ?_;refine y4 ?_;refine yM ?_;refine ah (D8 (by exact rfl) (by exact rfl) (by omega) (by assumption)) ?_;refine yM ?_;refine yM ?_;refine y3 ?_;refine aO ?_
  refine dL (fun k e ds h''=>∃(x:Nat) (d:List Ce),x<U64∧d++(bitsOf x).map (iE z)=pl∧(bitsOf x).length=k∧e=[(0, .func (.yield l) #[] #[]),(3, .int .i64 (z:Nat)),(4, .int .u64 (x:Nat)),(6,sv s),(7, .int .i64 (z:Nat))]∧ds=[]∧Lk lo h h''∧P (b9 s (z*64)++d) h'')
   ⟨x0,[],hx0,by rw[hpl];rfl,rfl,rfl,rfl,hk,by rw[List.append_nil];exact hP⟩ ?_
  clear hP hk h'
  rintro k e ds h' ⟨x,d,hxl,hd,rfl,rfl,rfl,hk,hP⟩
  by_cases hx:x=0
  ·subst hx
   rw[xQ]at hd
   have hd:d=pl:=by simpa using hd
   subst hd
   rw[←hplane]at hP
   refine an ?_;refine y4 ?_;refine yM ?_;refine yf ?_;refine y3 ?_;refine yX ?_;refine dz ?_;refine ek ?_
   refine ek ?_;refine iY ?_;refine fF ?_;refine bH ?_;refine aq ?_;refine iI ?_;refine yM ?_;refine y3 ?_
   exact⟨8-(z+1),by omega,z+1,by omega,rfl,rfl,rfl,hk,hP⟩
  ·obtain⟨b,m,hform⟩:=y9 x hx
   have hb64:=(v8 hform hxl).1
   have hstep:=xP hform hxl
   have m1:aA .neq (.int .u64 (x:Nat)) (.int .u64 0)=some (.bool true):=Ap (by omega)
   have C:=OE F.p F.f266 (h:={h' with log:=[]}) (.of (hk.wf hr.wf)) (show Tab h' from htab _ _ hP) hxl hform
   have m2:aA .rem (.int .i64 (b:Nat)) (.int .i64 8)=some (.int .i64 ((b % 8:Nat):Int)):=Lh
   have m3:aA .quo (.int .i64 (b:Nat)) (.int .i64 8)=some (.int .i64 ((b / 8:Nat):Int)):=Lf (by omega)
   have m4:aA .sub (.int .u64 (x:Nat)) (.int .u64 1)=some (.int .u64 ((x-1:Nat):Int)):=nr (by rw[show(x:Int)-1=((x-1:Nat):Int)by omega];exact rC (by unfold U64 at hxl;omega))
   have m5:=pY (a:=x) (b:=x-1) hxl (Nat.lt_of_le_of_lt (Nat.sub_le x 1) hxl)
   rw[hstep]at hd⊢
   have hlt:Nat.land x (x-1)<U64:=BR hxl
   generalize Nat.land x (x-1)=x' at*
   rw[List.map_cons]at hd
   have hsp:b9 s 512=(b9 s (z*64)++d)++iE z b::((bitsOf x').map (iE z)++rest):=by
    rw[hrest,←hd];simp
   refine an ?_;refine y4 ?_;refine yM ?_;refine yW ?_;refine y3 ?_;refine yY ?_;refine bA ?_;refine bH ?_
   refine an ?_;refine aO ?_;refine y4 ?_;refine yM ?_
   refine yC ?_
   refine FW.pu C ?_
   clear C
   refine yM ?_;refine y3 ?_;refine y4 ?_;refine yM ?_;refine yM ?_;refine yW ?_
   refine yM ?_;refine yW ?_;refine yM ?_;refine ah (dS (by exact rfl)) ?_
   refine xD (fn:= .yield l) (args:=[ceV (iE z b)]) (by rfl) ?_
   refine Y.call hp (by rw[hsp];simp) (hk.wf hr.wf) (Nat.le_trans hlo hk.next) (Nat.le_trans hN hk.next) hlb hP ?_ ?_
   rotate_left
   ·intro h9 hk9 hm9 hS9
    refine yA ?_;refine y3 ?_;refine yY ?_;refine aM ?_;refine jL ?_;refine dZ ?_;refine dZ ?_;refine jL ?_;refine jL ?_;refine dZ ?_;refine dZ ?_;refine jL ?_
    exact x9 ((hk.trans hk9).log (by rw[hr.log];exact fH.nil _)) rfl hm9 hS9
   intro h2 hk2 _ hP2
   refine yA ?_;refine y3 ?_;refine yX ?_;refine bA ?_;refine fF ?_;refine bH ?_;refine aq ?_;refine yM ?_;refine yM ?_
   refine yW ?_;refine yW ?_;refine yM ?_;refine y3 ?_
   exact⟨(bitsOf x').length,by simp,x',d++[iE z b],hlt,by rw[←hd];simp,rfl,rfl,rfl,hk.trans hk2,by rw[←List.append_assoc];exact hP2⟩
 ·obtain rfl:z=8:=by omega
  refine y4 ?_;refine yf ?_;refine y3 ?_;refine an ?_;refine yX ?_;refine dz ?_;refine ek ?_;refine ek ?_;refine iY ?_
  exact x8 (hk.log (by rw[hr.log];exact fH.nil _)) rfl hP
end Go.A.Pk
end
section
set_option maxRecDepth 100000
namespace Go.A.Pk
variable {T:Nat→Option af}
structure Bx where
 lo:Ce
 hi:Ce
 deriving DecidableEq
def bxL(b:Bx):List Value:=ceL b.lo++ceL b.hi
def bxV(b:Bx):Value:= .agg (bxL b).toArray
def xR(b:Bx)(c:Ce):Bx:=⟨⟨mi b.lo.x c.x,mi b.lo.y c.y,mi b.lo.z c.z⟩,⟨mx b.hi.x c.x,mx b.hi.y c.y,mx b.hi.z c.z⟩⟩
def bx0:Bx:=⟨⟨7,7,7⟩,⟨0,0,0⟩⟩
def bxS(l:List Ce):Bx:=l.foldl xR bx0
theorem EB(l:List Ce)(c:Ce):bxS (l++[c])=xR (bxS l) c:=by unfold bxS;rw[List.foldl_append];rfl
section
open I
def sP:aU:=I.R [g 5 (.new [O,O,O]),S 3 5 16] [4,5]
def sS:aU:=(.block 1 (Q (I.R [A 17 0 4,A 18 3 4,M 6 17,M 7 18] [5,6,7]) (Q (.draw [M 19 6,M 20 6,M 21 6,M 22 6,g 23 (.bh (t 22)),A 24 0 23,L 25 24,A 26 0 5,L 27 26,g 28 (.ew false [(t 25),(t 27)]),M 29 6,g 30 (.bh (t 29)),A 31 1 30,L 32 31,A 33 1 5,L 34 33,g 35 (.ew false [(t 32),(t 34)]),M 36 6,g 37 (.bh (t 36)),A 38 2 37,L 39 38,A 40 2 5,L 41 40,g 42 (.ew false [(t 39),(t 41)]),g 43 (.bh (t 19)),A 44 0 43,S 1 44 28,g 45 (.bh (t 20)),A 46 1 45,S 1 46 35,g 47 (.bh (t 21)),A 48 2 47,S 1 48 42] [0,1,2,3,4,5,6,7,8,9,10,11,12,13,14,15,16,17,18,19,20,21,22,23,24,25,26,27,28,29,30,31,32] [0,0,0,0,8,24,56,0,128,504,0,1024,3072,7168,0,16384,64512,0,131072,393216,917504,0,2097152,8257536,1982457,18759673,52314105,119537659,253755387,522190843,1073741823,2147483647,4294967295] [5,7])
 (.draw [M 49 7,M 50 7,M 51 7,M 52 7,g 53 (.bh (t 52)),A 54 0 53,L 55 54,A 56 0 5,L 57 56,g 58 (.ew true [(t 55),(t 57)]),M 59 7,g 60 (.bh (t 59)),A 61 1 60,L 62 61,A 63 1 5,L 64 63,g 65 (.ew true [(t 62),(t 64)]),M 66 7,g 67 (.bh (t 66)),A 68 2 67,L 69 68,A 70 2 5,L 71 70,g 72 (.ew true [(t 69),(t 71)]),g 73 (.bh (t 49)),A 74 0 73,S 1 74 58,g 75 (.bh (t 50)),A 76 1 75,S 1 76 65,g 77 (.bh (t 51)),A 78 2 77,S 1 78 72] [0,1,2,3,4,5,6,7,8,9,10,11,12,13,14,15,16,17,18,19,20,21,22,23,24,25,26,27,28,29,30,31,32] [0,0,0,0,8,24,56,0,128,504,0,1024,3072,7168,0,16384,64512,0,131072,393216,917504,0,2097152,8257536,1982457,18759673,52314105,119537659,253755387,522190843,1073741823,2147483647,4294967295] []))))
end
set_option maxHeartbeats 16000000 in
theorem EC(hp:bI T){H:Heap}(hr:Rdy H){q l lo N:Nat}{fv fv2:Value}{b:Bx}{c:Ce}(hlo:lo≤q)(hql:q<l)(hlN:l<N)
 (gl:H.get l=some (.loop [(2,fv2),(4, .pointer (some ⟨q,0,none⟩)),(15,fv)] [16] sP sS 0 .normal))
 (go:H.get q=some (.cells (bxL b) true 1)){S:Heap→Prop}:
 FW T (.yield l) [ceV c] H fun r H'=>(∀z∈H'.log,lo≤z∧z<N)∧(r= .ret (.bool true)∧(H'.get q=some (.cells (bxL (xR b c)) true 1)∧(∀z,z<H.next→z≠q→H'.get z=H.get z)∧H.next≤H'.next)∨r= .ret (.bool false)∧l∈H'.log∧S H'):=by
 have no:q≠l:=by omega
 have ko:=hr.wf.gF go
 have kl:=hr.wf.gF gl
 refine FW.HR hp (R:=fun H'=>H'.get q=some (.cells (bxL (xR b c)) true 1)∧(∀z,z<H.next→z≠q→H'.get z=H.get z)∧H.next≤H'.next) gl rfl kl ⟨by omega,hlN⟩ ?_
 unfold sP
 refine aq ?_;refine ah (cZ) ?_;refine yS ?_;refine ct ?_
 refine y1 ?_
 refine⟨rfl,by(simp(disch:=first|omega|(simp only[z1,z2];omega))only[z3,z4,z5,z6,z7,z1,z2,gl,go];exact rfl),?_⟩
 unfold sS
 refine aO ?_
 refine WE.Im ?_
 intro hA hAe
 have A1:∀z,z<H.next→z≠l→H.get z=hA.get z:=fun z hz hne=>by rw[hAe];symm;simp(disch:=first|omega|(simp only[z1,z2];omega))only[z5,z4]
 have A3:hA.get H.next=some (.cells (ceL c) true 1):=by rw[hAe];(simp(disch:=first|omega|(simp only[z1,z2];omega))only[z3,z4,z5,z6,z7,z1,z2,gl,go];exact rfl)
 have A2:hA.get l=some (.loop [(2,fv2),(4, .pointer (some ⟨q,0,none⟩)),(15,fv)] [16] sP sS 1 .normal):=by rw[hAe];(simp(disch:=first|omega|(simp only[z1,z2];omega))only[z3,z4,z5,z6,z7,z1,z2,gl,go,A3];exact rfl)
 have A5:hA.next=H.next+1:=by rw[hAe];rfl
 have A6:hA.log=[]:=by rw[hAe];simp(disch:=first|omega|(simp only[z1,z2];omega))only[Heap.aL,Heap.tn];exact hr.log
 have A7:WF hA:=by rw[hAe];exact(((hr.wf.push _).as (AS.wr _ _ _ _)).as (AS.wr _ _ _ _))
 clear hAe
 have Bo:=(A1 q ko no).symm.trans go
 obtain⟨⟨x1,y1',z1'⟩,⟨x2,y2',z2'⟩⟩:=b
 obtain⟨cx,cy,cz⟩:=c
 unfold bxL ceL at Bo
 dsimp only[List.cons_append,List.nil_append]at Bo
 unfold ceL at A3
 dsimp only at A3
 clear go
 refine y4 ?_;refine yF ?_;refine yF ?_;refine yM ?_;refine yM ?_;refine y3 ?_;refine an ?_;refine dn ?_
 refine qM ?_;refine qM ?_;refine qM ?_;refine qM ?_
 refine aF rfl rfl rfl (by exact rfl) (by exact rfl) (by exact rfl) (bP (by exact rfl)) ?_;refine qF ?_;refine qL ?_
 refine qF ?_;refine qL ?_;refine aF rfl rfl rfl (by exact rfl) (by exact rfl) (by exact rfl) (qu (by exact rfl) (by exact rfl)) ?_
 refine qM ?_;refine aF rfl rfl rfl (by exact rfl) (by exact rfl) (by exact rfl) (bP (by exact rfl)) ?_;refine qF ?_
 refine qL ?_;refine qF ?_;refine qL ?_
 refine aF rfl rfl rfl (by exact rfl) (by exact rfl) (by exact rfl) (qu (by exact rfl) (by exact rfl)) ?_;refine qM ?_;refine aF rfl rfl rfl (by exact rfl) (by exact rfl) (by exact rfl) (bP (by exact rfl)) ?_
 refine qF ?_;refine qL ?_;refine qF ?_
 refine qL ?_;refine aF rfl rfl rfl (by exact rfl) (by exact rfl) (by exact rfl) (qu (by exact rfl) (by exact rfl)) ?_;refine aF rfl rfl rfl (by exact rfl) (by exact rfl) (by exact rfl) (bP (by exact rfl)) ?_
 refine qF ?_
 refine ec (vs:=[.int .i64 x1, .int .i64 y1', .int .i64 z1', .int .i64 x2, .int .i64 y2', .int .i64 z2']) (ws:=[.int .i64 (mi x1 cx), .int .i64 y1', .int .i64 z1', .int .i64 x2, .int .i64 y2', .int .i64 z2']) rfl rfl rfl (by exact rfl) (by exact rfl) (by exact rfl) (Bo) (by exact rfl) (by exact rfl) (by show q<hA.next;omega) (by(repeat apply aT rfl);apply aN rfl (aI rfl (qu (by exact rfl) (by exact rfl)) (by exact eN _ _)) rfl;apply aN rfl (aI rfl (dD (by exact rfl) (by(simp(disch:=first|omega|(simp only[z1,z2];omega))only[z3,z4,z5,z6,z7,z1,z2,gl,A2,Bo,A3];exact rfl)) (by exact rfl)) (by exact eN _ _)) rfl;apply aN rfl (aI rfl (dV (by exact rfl)) (by exact dB _)) rfl;(repeat apply aT rfl);apply aN rfl (aI rfl (qu (by exact rfl) (by exact rfl)) (by exact eN _ _)) rfl;apply aN rfl (aI rfl (dD (by exact rfl) (by(simp(disch:=first|omega|(simp only[z1,z2];omega))only[z3,z4,z5,z6,z7,z1,z2,gl,A2,Bo,A3];exact rfl)) (by exact rfl)) (by exact eN _ _)) rfl;apply aN rfl (aI rfl (dV (by exact rfl)) (by exact dB _)) rfl;(repeat apply aT rfl);apply aN rfl (aI rfl (iu (by exact rfl)) (by exact dB _)) rfl;apply aN rfl (aI rfl (iu (by exact rfl)) (by exact dB _)) rfl;apply aT rfl;exact cO) ?_
 refine aF rfl rfl rfl (by exact rfl) (by exact rfl) (by exact rfl) (bP (by exact rfl)) ?_;refine qF ?_
 refine ec (vs:=[.int .i64 (mi x1 cx), .int .i64 y1', .int .i64 z1', .int .i64 x2, .int .i64 y2', .int .i64 z2']) (ws:=[.int .i64 (mi x1 cx), .int .i64 (mi y1' cy), .int .i64 z1', .int .i64 x2, .int .i64 y2', .int .i64 z2']) rfl rfl rfl (by exact rfl) (by exact rfl) (by exact rfl) (Heap.aJ (Bo)) (by exact rfl) (by exact rfl) (by show q<hA.next;omega) (by(repeat apply aT rfl);apply aN rfl (aI rfl (qu (by exact rfl) (by exact rfl)) (by exact eN _ _)) rfl;apply aN rfl (aI rfl (dD (by exact rfl) (by(simp(disch:=first|omega|(simp only[z1,z2];omega))only[z3,z4,z5,z6,z7,z1,z2,gl,A2,Bo,A3];exact rfl)) (by exact rfl)) (by exact eN _ _)) rfl;apply aN rfl (aI rfl (dV (by exact rfl)) (by exact dB _)) rfl;(repeat apply aT rfl);apply aN rfl (aI rfl (iu (by exact rfl)) (by exact dB _)) rfl;apply aT rfl;exact cO) ?_
 refine aF rfl rfl rfl (by exact rfl) (by exact rfl) (by exact rfl) (bP (by exact rfl)) ?_;refine qF ?_
 refine ec (vs:=[.int .i64 (mi x1 cx), .int .i64 (mi y1' cy), .int .i64 z1', .int .i64 x2, .int .i64 y2', .int .i64 z2']) (ws:=[.int .i64 (mi x1 cx), .int .i64 (mi y1' cy), .int .i64 (mi z1' cz), .int .i64 x2, .int .i64 y2', .int .i64 z2']) rfl rfl rfl (by exact rfl) (by exact rfl) (by exact rfl) (Heap.aJ (Heap.aJ (Bo))) (by exact rfl) (by exact rfl) (by show q<hA.next;omega) (by(repeat apply aT rfl);exact cO) ?_
 refine dH ?_;refine y1 ?_;refine bH ?_;refine dn ?_;refine qM ?_;refine qM ?_
 refine qM ?_;refine qM ?_;refine aF rfl rfl rfl (by exact rfl) (by exact rfl) (by exact rfl) (bP (by exact rfl)) ?_
 refine qF ?_
 refine qL ?_
 refine qF ?_
 refine qL ?_
 refine aF rfl rfl rfl (by exact rfl) (by exact rfl) (by exact rfl) (uE (by exact rfl) (by exact rfl)) ?_;refine qM ?_;refine aF rfl rfl rfl (by exact rfl) (by exact rfl) (by exact rfl) (bP (by exact rfl)) ?_
 refine qF ?_
 refine qL ?_
 refine qF ?_
 refine qL ?_
 refine aF rfl rfl rfl (by exact rfl) (by exact rfl) (by exact rfl) (uE (by exact rfl) (by exact rfl)) ?_;refine qM ?_;refine aF rfl rfl rfl (by exact rfl) (by exact rfl) (by exact rfl) (bP (by exact rfl)) ?_
 refine qF ?_
 refine qL ?_
 refine qF ?_
 refine qL ?_
 refine aF rfl rfl rfl (by exact rfl) (by exact rfl) (by exact rfl) (uE (by exact rfl) (by exact rfl)) ?_;refine aF rfl rfl rfl (by exact rfl) (by exact rfl) (by exact rfl) (bP (by exact rfl)) ?_;refine qF ?_
 refine ec (vs:=[.int .i64 (mi x1 cx), .int .i64 (mi y1' cy), .int .i64 (mi z1' cz), .int .i64 x2, .int .i64 y2', .int .i64 z2']) (ws:=[.int .i64 (mi x1 cx), .int .i64 (mi y1' cy), .int .i64 (mi z1' cz), .int .i64 (mx x2 cx), .int .i64 y2', .int .i64 z2']) rfl rfl rfl (by exact rfl) (by exact rfl) (by exact rfl) (Heap.aJ (Heap.aJ (Heap.aJ (Bo)))) (by exact rfl) (by exact rfl) (by show q<hA.next;omega) (by(repeat apply aT rfl);apply aN rfl (aI rfl (uE (by exact rfl) (by exact rfl)) (by exact eN _ _)) rfl;apply aN rfl (aI rfl (dD (by exact rfl) (by(simp(disch:=first|omega|(simp only[z1,z2];omega))only[z3,z4,z5,z6,z7,z1,z2,gl,A2,Bo,A3];exact rfl)) (by exact rfl)) (by exact eN _ _)) rfl;apply aN rfl (aI rfl (dV (by exact rfl)) (by exact dB _)) rfl;(repeat apply aT rfl);apply aN rfl (aI rfl (uE (by exact rfl) (by exact rfl)) (by exact eN _ _)) rfl;apply aN rfl (aI rfl (dD (by exact rfl) (by(simp(disch:=first|omega|(simp only[z1,z2];omega))only[z3,z4,z5,z6,z7,z1,z2,gl,A2,Bo,A3];exact rfl)) (by exact rfl)) (by exact eN _ _)) rfl;apply aN rfl (aI rfl (dV (by exact rfl)) (by exact dB _)) rfl;(repeat apply aT rfl);apply aN rfl (aI rfl (iu (by exact rfl)) (by exact dB _)) rfl;apply aN rfl (aI rfl (iu (by exact rfl)) (by exact dB _)) rfl;apply aT rfl;exact cO) ?_
 refine aF rfl rfl rfl (by exact rfl) (by exact rfl) (by exact rfl) (bP (by exact rfl)) ?_;refine qF ?_
 refine ec (vs:=[.int .i64 (mi x1 cx), .int .i64 (mi y1' cy), .int .i64 (mi z1' cz), .int .i64 (mx x2 cx), .int .i64 y2', .int .i64 z2']) (ws:=[.int .i64 (mi x1 cx), .int .i64 (mi y1' cy), .int .i64 (mi z1' cz), .int .i64 (mx x2 cx), .int .i64 (mx y2' cy), .int .i64 z2']) rfl rfl rfl (by exact rfl) (by exact rfl) (by exact rfl) (Heap.aJ (Heap.aJ (Heap.aJ (Heap.aJ (Bo))))) (by exact rfl) (by exact rfl) (by show q<hA.next;omega) (by(repeat apply aT rfl);apply aN rfl (aI rfl (uE (by exact rfl) (by exact rfl)) (by exact eN _ _)) rfl;apply aN rfl (aI rfl (dD (by exact rfl) (by(simp(disch:=first|omega|(simp only[z1,z2];omega))only[z3,z4,z5,z6,z7,z1,z2,gl,A2,Bo,A3];exact rfl)) (by exact rfl)) (by exact eN _ _)) rfl;apply aN rfl (aI rfl (dV (by exact rfl)) (by exact dB _)) rfl;(repeat apply aT rfl);apply aN rfl (aI rfl (iu (by exact rfl)) (by exact dB _)) rfl;apply aT rfl;exact cO) ?_
 refine aF rfl rfl rfl (by exact rfl) (by exact rfl) (by exact rfl) (bP (by exact rfl)) ?_;refine qF ?_
 refine ec (vs:=[.int .i64 (mi x1 cx), .int .i64 (mi y1' cy), .int .i64 (mi z1' cz), .int .i64 (mx x2 cx), .int .i64 (mx y2' cy), .int .i64 z2']) (ws:=[.int .i64 (mi x1 cx), .int .i64 (mi y1' cy), .int .i64 (mi z1' cz), .int .i64 (mx x2 cx), .int .i64 (mx y2' cy), .int .i64 (mx z2' cz)]) rfl rfl rfl (by exact rfl) (by exact rfl) (by exact rfl) (Heap.aJ (Heap.aJ (Heap.aJ (Heap.aJ (Heap.aJ (Bo)))))) (by exact rfl) (by exact rfl) (by show q<hA.next;omega) (by(repeat apply aT rfl);exact cO) ?_
 refine dH ?_;refine y1 ?_;refine fF ?_
 refine⟨⟨_,by(simp(disch:=first|omega|(simp only[z1,z2];omega))only[z3,z4,z5,z6,z7,z1,z2,gl,A2,Bo,A3];exact rfl),rfl⟩,fun z hz=> ?_, .inl ⟨rfl,fun h5 hn h5e h5l=> ?_⟩⟩
 ·have key:z=q:=by
   rcases dJ hz with h|hz
   ·exact h
   rcases dJ hz with h|hz
   ·exact h
   rcases dJ hz with h|hz
   ·exact h
   rcases dJ hz with h|hz
   ·exact h
   rcases dJ hz with h|hz
   ·exact h
   rcases dJ hz with h|hz
   ·exact h
   rw[A6]at hz;cases hz
  subst key
  exact⟨hlo,by omega⟩
 ·refine⟨(h5e q ko no).trans (Heap.aJ (Heap.aJ (Heap.aJ (Heap.aJ (Heap.aJ (Heap.aJ (Bo))))))),fun z hz hne=> ?_,hn⟩
  by_cases hl:z=l
  ·subst hl
   rw[gl];exact h5l
  ·refine(h5e z hz hl).trans ?_
   refine Eq.trans ?_ (A1 z hz hl).symm
   simp only[z5 hne]
structure PXo (l q:Nat) (H0:Heap) (L:bK) (f:List Ce→List Value) (done:List Ce) (H:Heap):Prop where
 old:∀z,z<l→z≠q→H.get z=H0.get z
 loop:H.get l=some L
 val:H.get q=some (.cells (f done) true 1)
theorem PXo.eZ{l q:Nat}{H0:Heap}{L:bK}{f:List Ce→List Value}(hq:q<l)(done:List Ce)(H H':Heap)(p:PXo l q H0 L f done H)(_:l+1≤H'.next)(h:∀x,x<l+1→H'.get x=H.get x):PXo l q H0 L f done H':=
 ⟨fun z hz hne=>(h z (by omega)).trans (p.old z hz hne),(h l (by omega)).trans p.loop,(h q (by omega)).trans p.val⟩
def j6(s:List Nat):Bx×Bool:=if s=s0 then(⟨c0,c0⟩,false)else(bxS (b9 s 512),true)
def KM(p:Bx×Bool):Value:= .tuple #[bxV p.1, .bool p.2]
structure JW (T:Nat→Option af):Prop where
 cp:Bt T
 f210:T 124=some f210
set_option maxHeartbeats 16000000 in
theorem uM(F:JW T){h:Heap}(hr:Rdy h)(hg:Tab h)(h2:0<h.next){s:List Nat}(hs:IsS s):Pu T 124 [sv s] h (KM (j6 s)):=by
 have hp:=F.cp.p
 refine .of hp F.f210 hr rfl ?_
 have k8:=bU hs.len
 have k9:=dh hs.len
 have x0:Ext h ((h.push (.cells (cellsOf (sv s)) true 1)).push (.cells [I.O,I.O,I.O,I.O,I.O,I.O] true 1)):=((Ext.refl h).push _).push _
 have g0:((h.push (.cells (cellsOf (sv s)) true 1)).push (.cells [I.O,I.O,I.O,I.O,I.O,I.O] true 1)).get h.next=some (.cells (us s) true 1):=(z4 (Nat.lt_succ_self _)).trans (z3 h _)
 have g1:((h.push (.cells (cellsOf (sv s)) true 1)).push (.cells [I.O,I.O,I.O,I.O,I.O,I.O] true 1)).get (h.next+1)=some (.cells [I.O,I.O,I.O,I.O,I.O,I.O] true 1):=z3 _ _
 have n0:((h.push (.cells (cellsOf (sv s)) true 1)).push (.cells [I.O,I.O,I.O,I.O,I.O,I.O] true 1)).next=h.next+2:=rfl
 refine y4 ?_;refine yB ?_;refine ah (cZ) ?_;refine yM ?_;refine y3 ?_
 generalize((h.push (.cells (cellsOf (sv s)) true 1)).push (.cells [I.O,I.O,I.O,I.O,I.O,I.O] true 1))=H at*
 have W:=x0.wf hr.wf
 have hL:=x0.log.trans hr.log
 unfold j6
 by_cases he:s=s0
 ·rw[if_pos he]
  have ck0:bT 6 (bS 0 (bxL ⟨c0,c0⟩))=bxL ⟨c0,c0⟩:=rfl
  refine an ?_;refine y4 ?_;refine yV ?_;refine ah (dS (by exact rfl)) ?_
  refine ah (pM (b:=s0) (by exact rfl) (by exact rfl) hs.len rfl) ?_
  rw[decide_eq_true he]
  refine y3 ?_;refine yY ?_;refine y4 ?_;refine ah (dS (by exact rfl)) ?_;refine yS ?_;refine yM ?_
  refine y3 ?_;refine aM ?_;refine dZ ?_
  refine aD ?_ (cW (own:=true) (s:=1) (l:=bxL ⟨c0,c0⟩) rfl ?_ ck0 rfl rfl) rfl
  ·rw[Heap.aL (by show h.next≤h.next+1;omega)];exact hL
  ·(simp(disch:=first|omega|(simp only[z1,z2];omega))only[z3,z4,z5,z6,z7,z1,z2,g0,g1];exact rfl)
 ·rw[if_neg he]
  have x1:=ff (h:=H) (base:=h.next) (by omega) (.cells [I.O,I.O,I.O,I.O,I.O,I.O] true 1) (.cells (bxL bx0) true 1)
  have q1:=fE (h:=H) (base:=h.next) [I.O,I.O,I.O,I.O,I.O,I.O] (bxL bx0)
  refine an ?_;refine y4 ?_;refine yV ?_;refine ah (dS (by exact rfl)) ?_
  refine ah (pM (b:=s0) (by exact rfl) (by exact rfl) hs.len rfl) ?_
  rw[decide_eq_false he]
  refine y3 ?_;refine yX ?_;refine bA ?_;refine bH ?_
  refine cH (E0:=[(1, .pointer (some ⟨h.next,0,none⟩)),(2, .pointer (some ⟨h.next+1,0,none⟩)),(4, .pointer (some ⟨H.next,0,none⟩))]) (P:=fun h'=>Ext H h'∧h'.next=H.next+1∧h'.get H.next=some (.cells (bxL bx0) true 1)) ?_ ?_
  ·refine aq ?_;refine ah (dS (by exact rfl)) ?_;refine ah (dS (by exact rfl)) ?_;refine ah (cZ) ?_
   refine yS ?_;refine ct ?_
   refine y1 ?_
   exact⟨rfl,rfl,rfl,ff (by omega) _ _,rfl,fE _ _⟩
  rintro H1 ⟨x1,n1,q1⟩
  have ey1':=x0.trans x1
  have W1:=ey1'.wf hr.wf
  have hL1:=ey1'.log.trans hr.log
  have ga:=(x1.old _ (by omega)).trans g0
  have gb:=(x1.old _ (by omega)).trans g1
  have C:=xU F.cp (h:={H1 with log:=[]}) (.of W1) hs
  clear g0 g1
  refine an ?_;refine y4 ?_;refine yV ?_
  refine yC ?_
  refine FW.al C (fun v h' m q=>q) ?_
  rintro _ H2 x2 ⟨q,rfl,gq,q2,q3⟩
  clear C
  have q2:H1.next≤q:=q2
  have ey2':=ey1'.trans x2
  have W2:=ey2'.wf hr.wf
  have hL2:=ey2'.log.trans hr.log
  have n2:=x2.next
  have gb2:=(x2.old _ (by omega)).trans gb
  have q12:=(x2.old _ (by omega)).trans q1
  have hg2:Tab H2:=hg.ext ey2' h2
  clear ga gb q1
  refine y3 ?_;refine aO ?_
  refine vz (lo:=H.next) (P:=PXo H2.next H.next H2 (.loop [(2, .pointer (some ⟨h.next+1,0,none⟩)),(4, .pointer (some ⟨H.next,0,none⟩)),(15,fnC q)] [16] sP sS 0 .normal) (fun d=>bxL (bxS d)) (b9 s 512)) (S:=fun _=>False) rfl (by rfl) (by rw[F.cp.f265];rfl) (by omega) (by omega) hL2 W2 ?_ (fun H p=>⟨_,_,_,_,p.loop⟩) (fun H p=>p.elim) ?_ (fun _ _ _ _ _ _ _ p=>p.elim)
  ·have Y:DX T H.next (H2.next+1) H2.next ceV (b9 s 512) (PXo H2.next H.next H2 (.loop [(2, .pointer (some ⟨h.next+1,0,none⟩)),(4, .pointer (some ⟨H.next,0,none⟩)),(15,fnC q)] [16] sP sS 0 .normal) (fun d=>bxL (bxS d))) (fun _=>False):=by
    refine⟨fun done x Hh hx hrH hN hP=> ?_,PXo.eZ (by omega),fun _ _ h=>h,fun _ h=>h.elim⟩
    refine FW.mono' (EC hp hrH (lo:=H.next) (N:=H2.next+1) (S:=fun _=>False) (Nat.le_refl _) (by omega) (by omega) hP.loop hP.val) ?_
    rintro r' H' ⟨r1,r2⟩
    refine⟨r1,r2.imp (fun⟨e,g,o,_⟩=>⟨e,fun z hz hne=>(o z (by omega) hne).trans (hP.old z hz hne),(o _ (by omega) (by omega)).trans hP.loop,?_⟩) id⟩
    rw[EB];exact g
   exact uO F.cp (.of (W2.push _)) (q0:=q) (l:=H2.next) (N:=H2.next+1) (lo:=H.next) hs (Nat.le_refl _) (by show H.next≤H2.next+1;omega) (Nat.lt_succ_self _) Y ((z4 (by omega)).trans gq) (fun d H' hP=>(hP.old 0 (by omega) (by omega)).trans hg2)
    ⟨fun z hz _=>z4 hz,z3 _ _,(z4 (by omega)).trans q12⟩
  intro h4 h5 k1 k2 k3 k4 k5 hP
  have D:=(k5 H.next (by omega)).trans hP.val
  have D2:=(k5 (h.next+1) (by omega)).trans ((hP.old _ (by omega) (by omega)).trans gb2)
  generalize bxS (b9 s 512)=b at*
  have ck:bT 6 (bS 0 (bxL b))=bxL b:=rfl
  have ckl:Nat.beq (bO (bxL b)) 6=true:=rfl
  refine fF ?_;refine bH ?_;refine y4 ?_;refine yN ?_;refine yS ?_;refine yM ?_;refine y3 ?_;refine aM ?_
  refine aD ?_ (cW (own:=true) (s:=1) (l:=bxL b) rfl ?_ ck ckl rfl) rfl
  ·rw[Heap.aL (by show h.next≤h.next+1;omega)];exact k1
  ·(simp(disch:=first|omega|(simp only[z1,z2];omega))only[z3,z4,z5,z6,z7,z1,z2,q1,gq,gb2,q12,D2,D];exact rfl)
def gQ:Nat→Ce→Ce
 |0,c=>c
 |1,c=>⟨c.x,7-c.z,c.y⟩
 |2,c=>⟨c.x,7-c.y,7-c.z⟩
 |3,c=>⟨c.x,c.z,7-c.y⟩
 |4,c=>⟨c.z,c.y,7-c.x⟩
 |_,c=>⟨7-c.z,c.y,c.x⟩
def Jk(c:Ce):Ce:=⟨7-c.y,c.x,c.z⟩
def wU:Nat→Ce→Ce
 |0,c=>c
 |n+1,c=>Jk (wU n c)
def nP(t:Nat)(c:Ce):Ce:=wU (t % 4) (gQ (t / 4) c)
structure InB (c:Ce):Prop where
 x:0≤c.x∧c.x≤7
 y:0≤c.y∧c.y≤7
 z:0≤c.z∧c.z≤7
theorem sC{c:Ce}:inG c=true↔InB c:=by
 unfold inG
 rw[decide_eq_true_eq]
 exact⟨fun h=>⟨h.1,h.2.1,h.2.2⟩,fun h=>⟨h.x,h.y,h.z⟩⟩
theorem InB.Ol{c:Ce}(h:InB c)(k:Nat):InB (gQ k c):=by
 obtain⟨h1,h2,h3⟩:=h
 unfold gQ
 split<;>(constructor<;>(first|omega|(dsimp only;omega)))
theorem InB.rot{c:Ce}(h:InB c):∀n,InB (wU n c)
 |0=>h
 |n+1=>by
  obtain⟨h1,h2,h3⟩:=h.rot n
  unfold wU Jk
  exact⟨by dsimp only;omega,h1,h3⟩
theorem InB.QN{c:Ce}(h:InB c)(t:Nat):InB (nP t c):=(h.Ol _).rot _
theorem fR{a:Int}(h:0≤a∧a≤7):aA .sub (.int .i64 7) (.int .i64 a)=some (.int .i64 (7-a)):=nr (cN (by omega) (by omega))
theorem Lg{a:Nat}:aA .rem (.int .i64 a) (.int .i64 4)=some (.int .i64 ((a % 4:Nat):Int)):=by
 have e:(a:Int).tmod 4=((a % 4:Nat):Int):=by rw[Int.tmod_eq_emod_of_nonneg (by omega)];omega
 simp[aA,arith,e]
theorem Le{a:Nat}(h1:a<9223372036854775808):aA .quo (.int .i64 a) (.int .i64 4)=some (.int .i64 ((a / 4:Nat):Int)):=by
 have e:fI .i64 ((a:Int).tdiv 4)=((a / 4:Nat):Int):=by
  rw[Int.tdiv_eq_ediv_of_nonneg (by omega),cN (by omega) (by omega)];omega
 have e2:aA .quo (.int .i64 a) (.int .i64 4)=some (.int .i64 (fI .i64 ((a:Int).tdiv 4))):=rfl
 rw[e2,e]
structure pJ (T:Nat→Option af):Prop where
 p:bI T
 f263:T 145=some f263
 f317:T 164=some f317
 f318:T 165=some f318
 f319:T 166=some f319
 f320:T 167=some f320
 f321:T 168=some f321
 f322:T 169=some f322
theorem Om(F:pJ T){h:Heap}(hr:Rdy h)(v:Value){c:Ce}(hc:InB c):Pu T 164 [v,ceV c] h (ceV (gQ 0 c)):=by
 refine .of F.p F.f317 hr rfl ?_
 obtain⟨cx,cy,cz⟩:=c
 obtain⟨hx,hy,hz⟩:=hc
 dsimp only at hx hy hz
 have mx:=fR hx
 have my:=fR hy
 have mz:=fR hz
 have ck:bT 3 (bS 0 (ceL (gQ 0 ⟨cx,cy,cz⟩)))=ceL (gQ 0 ⟨cx,cy,cz⟩):=rfl
 refine y4 ?_;refine yB ?_;refine ah (cZ) ?_;refine y3 ?_;refine y4 ?_
 refine yN ?_
 refine yS ?_;refine y3 ?_;refine aM ?_
 refine aD ?_ (cW (own:=true) (s:=1) rfl ?_ ck rfl rfl) rfl
 ·rw[Heap.aL (by show h.next≤h.next+1;omega)];exact hr.log
 ·(simp(disch:=first|omega|(simp only[z1,z2];omega)|(simp only[z1,z2];done)|fail)only[Go.A.z8,z4,z5,z9,z7,z1,z2];exact rfl)
theorem On(F:pJ T){h:Heap}(hr:Rdy h)(v:Value){c:Ce}(hc:InB c):Pu T 165 [v,ceV c] h (ceV (gQ 1 c)):=by
 refine .of F.p F.f318 hr rfl ?_
 obtain⟨cx,cy,cz⟩:=c
 obtain⟨hx,hy,hz⟩:=hc
 dsimp only at hx hy hz
 have mx:=fR hx
 have my:=fR hy
 have mz:=fR hz
 have ck:bT 3 (bS 0 (ceL (gQ 1 ⟨cx,cy,cz⟩)))=ceL (gQ 1 ⟨cx,cy,cz⟩):=rfl
 refine y4 ?_;refine yB ?_;refine ah (cZ) ?_;refine y3 ?_;refine y4 ?_;refine yF ?_
 refine yL ?_;refine yF ?_
 refine yL ?_;refine yW ?_
 refine yF ?_;refine yL ?_;refine ah (dS (by exact rfl)) ?_
 refine yS ?_;refine y3 ?_;refine aM ?_
 refine aD ?_ (cW (own:=true) (s:=1) rfl ?_ ck rfl rfl) rfl
 ·rw[Heap.aL (by show h.next≤h.next+1;omega)];exact hr.log
 ·(simp(disch:=first|omega|(simp only[z1,z2];omega)|(simp only[z1,z2];done)|fail)only[Go.A.z8,z4,z5,z9,z7,z1,z2];exact rfl)
theorem Oo(F:pJ T){h:Heap}(hr:Rdy h)(v:Value){c:Ce}(hc:InB c):Pu T 166 [v,ceV c] h (ceV (gQ 2 c)):=by
 refine .of F.p F.f319 hr rfl ?_
 obtain⟨cx,cy,cz⟩:=c
 obtain⟨hx,hy,hz⟩:=hc
 dsimp only at hx hy hz
 have mx:=fR hx
 have my:=fR hy
 have mz:=fR hz
 have ck:bT 3 (bS 0 (ceL (gQ 2 ⟨cx,cy,cz⟩)))=ceL (gQ 2 ⟨cx,cy,cz⟩):=rfl
 refine y4 ?_;refine yB ?_;refine ah (cZ) ?_;refine y3 ?_;refine y4 ?_;refine yF ?_
 refine yL ?_;refine yF ?_
 refine yL ?_;refine yW ?_
 refine yF ?_;refine yL ?_
 refine yW ?_;refine ah (dS (by exact rfl)) ?_
 refine yS ?_;refine y3 ?_;refine aM ?_
 refine aD ?_ (cW (own:=true) (s:=1) rfl ?_ ck rfl rfl) rfl
 ·rw[Heap.aL (by show h.next≤h.next+1;omega)];exact hr.log
 ·(simp(disch:=first|omega|(simp only[z1,z2];omega)|(simp only[z1,z2];done)|fail)only[Go.A.z8,z4,z5,z9,z7,z1,z2];exact rfl)
theorem Oq(F:pJ T){h:Heap}(hr:Rdy h)(v:Value){c:Ce}(hc:InB c):Pu T 167 [v,ceV c] h (ceV (gQ 3 c)):=by
 refine .of F.p F.f320 hr rfl ?_
 obtain⟨cx,cy,cz⟩:=c
 obtain⟨hx,hy,hz⟩:=hc
 dsimp only at hx hy hz
 have mx:=fR hx
 have my:=fR hy
 have mz:=fR hz
 have ck:bT 3 (bS 0 (ceL (gQ 3 ⟨cx,cy,cz⟩)))=ceL (gQ 3 ⟨cx,cy,cz⟩):=rfl
 refine y4 ?_;refine yB ?_;refine ah (cZ) ?_;refine y3 ?_;refine y4 ?_;refine yF ?_
 refine yL ?_;refine yF ?_
 refine yL ?_;refine yF ?_
 refine yL ?_;refine yW ?_
 refine ah (dS (by exact rfl)) ?_
 refine yS ?_;refine y3 ?_;refine aM ?_
 refine aD ?_ (cW (own:=true) (s:=1) rfl ?_ ck rfl rfl) rfl
 ·rw[Heap.aL (by show h.next≤h.next+1;omega)];exact hr.log
 ·(simp(disch:=first|omega|(simp only[z1,z2];omega)|(simp only[z1,z2];done)|fail)only[Go.A.z8,z4,z5,z9,z7,z1,z2];exact rfl)
theorem Ot(F:pJ T){h:Heap}(hr:Rdy h)(v:Value){c:Ce}(hc:InB c):Pu T 168 [v,ceV c] h (ceV (gQ 4 c)):=by
 refine .of F.p F.f321 hr rfl ?_
 obtain⟨cx,cy,cz⟩:=c
 obtain⟨hx,hy,hz⟩:=hc
 dsimp only at hx hy hz
 have mx:=fR hx
 have my:=fR hy
 have mz:=fR hz
 have ck:bT 3 (bS 0 (ceL (gQ 4 ⟨cx,cy,cz⟩)))=ceL (gQ 4 ⟨cx,cy,cz⟩):=rfl
 refine y4 ?_;refine yB ?_;refine ah (cZ) ?_;refine y3 ?_;refine y4 ?_;refine yF ?_
 refine yL ?_;refine yF ?_
 refine yL ?_;refine yF ?_
 refine yL ?_;refine yW ?_
 refine ah (dS (by exact rfl)) ?_
 refine yS ?_;refine y3 ?_;refine aM ?_
 refine aD ?_ (cW (own:=true) (s:=1) rfl ?_ ck rfl rfl) rfl
 ·rw[Heap.aL (by show h.next≤h.next+1;omega)];exact hr.log
 ·(simp(disch:=first|omega|(simp only[z1,z2];omega)|(simp only[z1,z2];done)|fail)only[Go.A.z8,z4,z5,z9,z7,z1,z2];exact rfl)
theorem Ou(F:pJ T){h:Heap}(hr:Rdy h)(v:Value){c:Ce}(hc:InB c):Pu T 169 [v,ceV c] h (ceV (gQ 5 c)):=by
 refine .of F.p F.f322 hr rfl ?_
 obtain⟨cx,cy,cz⟩:=c
 obtain⟨hx,hy,hz⟩:=hc
 dsimp only at hx hy hz
 have mx:=fR hx
 have my:=fR hy
 have mz:=fR hz
 have ck:bT 3 (bS 0 (ceL (gQ 5 ⟨cx,cy,cz⟩)))=ceL (gQ 5 ⟨cx,cy,cz⟩):=rfl
 refine y4 ?_;refine yB ?_;refine ah (cZ) ?_;refine y3 ?_;refine y4 ?_;refine yF ?_
 refine yL ?_;refine yW ?_
 refine yF ?_;refine yL ?_;refine yF ?_
 refine yL ?_;refine ah (dS (by exact rfl)) ?_
 refine yS ?_;refine y3 ?_;refine aM ?_
 refine aD ?_ (cW (own:=true) (s:=1) rfl ?_ ck rfl rfl) rfl
 ·rw[Heap.aL (by show h.next≤h.next+1;omega)];exact hr.log
 ·(simp(disch:=first|omega|(simp only[z1,z2];omega)|(simp only[z1,z2];done)|fail)only[Go.A.z8,z4,z5,z9,z7,z1,z2];exact rfl)
theorem Ov(F:pJ T){h:Heap}(hr:Rdy h)(v:Value){c:Ce}(hc:InB c):∀k,k<6→Pu T (164+k) [v,ceV c] h (ceV (gQ k c))
 |0,_=>Om F hr v hc
 |1,_=>On F hr v hc
 |2,_=>Oo F hr v hc
 |3,_=>Oq F hr v hc
 |4,_=>Ot F hr v hc
 |5,_=>Ou F hr v hc
 |k+6,h=>by omega
def rV(k:Nat):Value:= .func (.func (164+k)) #[.int .i64 0] #[]
def GV:List Value:=[rV 0,rV 1,rV 2,rV 3,rV 4,rV 5]
theorem GW:∀k,k<6→bD GV (0+k*1)=some (rV k)
 |0,_=>rfl
 |1,_=>rfl
 |2,_=>rfl
 |3,_=>rfl
 |4,_=>rfl
 |5,_=>rfl
 |k+6,h=>by omega
set_option maxHeartbeats 8000000 in
theorem DI(F:pJ T){h:Heap}(hr:Rdy h){c:Ce}(hc:InB c){t:Nat}(ht:t<24):Pu T 145 [ceV c, .int .i64 (t:Nat)] h (ceV (nP t c)):=by
 refine .of F.p F.f263 hr rfl ?_
 have x0:Ext h ((h.push (.cells (cellsOf (ceV c)) true 1)).push (.cells [I.O,I.O,I.O] true 1)):=((Ext.refl h).push _).push _
 have g0:((h.push (.cells (cellsOf (ceV c)) true 1)).push (.cells [I.O,I.O,I.O] true 1)).get h.next=some (.cells (ceL c) true 1):=(z4 (Nat.lt_succ_self _)).trans (z3 h _)
 have g1:((h.push (.cells (cellsOf (ceV c)) true 1)).push (.cells [I.O,I.O,I.O] true 1)).get (h.next+1)=some (.cells [I.O,I.O,I.O] true 1):=z3 _ _
 have n0:((h.push (.cells (cellsOf (ceV c)) true 1)).push (.cells [I.O,I.O,I.O] true 1)).next=h.next+2:=rfl
 refine y4 ?_;refine yB ?_;refine ah (cZ) ?_;refine y3 ?_
 generalize((h.push (.cells (cellsOf (ceV c)) true 1)).push (.cells [I.O,I.O,I.O] true 1))=H at*
 have W:=x0.wf hr.wf
 have hL:=x0.log.trans hr.log
 refine y4 ?_;refine yM ?_;refine y3 ?_
 refine cH (E0:=[(1, .int .i64 (t:Nat)),(2, .pointer (some ⟨h.next,0,none⟩)),(4, .pointer (some ⟨h.next+1,0,none⟩)),(6, .pointer (some ⟨H.next,0,none⟩))]) (P:=fun h'=>Ext H h'∧h'.next=H.next+1∧h'.get H.next=some (.cells GV true 1)) ?_ ?_
 ·refine aq ?_;refine yM ?_;refine ah (gL (by exact rfl) (by exact rfl)) ?_;refine yM ?_;refine ah (gL (by exact rfl) (by exact rfl)) ?_;refine yM ?_;refine ah (gL (by exact rfl) (by exact rfl)) ?_;refine yM ?_
  refine ah (gL (by exact rfl) (by exact rfl)) ?_;refine yM ?_;refine ah (gL (by exact rfl) (by exact rfl)) ?_;refine yM ?_;refine ah (gL (by exact rfl) (by exact rfl)) ?_;refine ah (dS (by exact rfl)) ?_;refine ah (cZ) ?_
  refine yS ?_;refine ct ?_
  refine y1 ?_
  exact⟨rfl,rfl,rfl,ff (by omega) _ _,rfl,fE _ _⟩
 rintro H1 ⟨x1,n1,q1⟩
 have ey1':=x0.trans x1
 have W1:=ey1'.wf hr.wf
 have hL1:=ey1'.log.trans hr.log
 have ga:=(x1.old _ (by omega)).trans g0
 have gb:=(x1.old _ (by omega)).trans g1
 have hk:t / 4<6:=by omega
 have m1:aA .quo (.int .i64 (t:Nat)) (.int .i64 4)=some (.int .i64 ((t / 4:Nat):Int)):=Le (by omega)
 have m2:aA .rem (.int .i64 (t:Nat)) (.int .i64 4)=some (.int .i64 ((t % 4:Nat):Int)):=Lg
 have e1:=GW (t / 4) hk
 have C:=Ov F (h:={H1 with log:=[]}) (.of W1) (.int .i64 0) hc (t / 4) hk
 have hb:=hc.Ol (t / 4)
 have hr4:t % 4<4:=by omega
 have ck:bT 3 (bS 0 (ceL c))=ceL c:=rfl
 have ckl:Nat.beq (bO (ceL c)) 3=true:=rfl
 unfold nP
 generalize hq:gQ (t / 4) c=d at*
 generalize t / 4=k at*
 generalize t % 4=r at*
 unfold rV at e1
 clear g0 g1
 refine an ?_;refine dn ?_;refine qM ?_;refine qW ?_
 refine qJ ?_;refine qK ?_
 refine qN ?_
 refine qC ?_
 refine FW.puD C (by(repeat apply aT rfl);exact cO) ?_
 clear C
 refine nQ rfl rfl rfl (by exact rfl) (by exact rfl) (by exact rfl) (by assumption) (by exact rfl) (by exact rfl) (by omega) (by omega) (by exact cO) ?_;refine dH ?_;refine y1 ?_;refine bH ?_;refine an ?_;refine y4 ?_;refine yM ?_
 refine yW ?_;refine yM ?_;refine y3 ?_;refine aO ?_
 refine dL (fun m e ds h'=>∃j:Nat,j≤r∧r-j=m∧e=[(2, .pointer (some ⟨h.next,0,none⟩)),(4, .pointer (some ⟨h.next+1,0,none⟩)),(27, .int .i64 (r:Nat)),(28, .int .i64 (j:Nat))]∧ds=[]∧Ext h h'∧h.next+2≤h'.next∧h'.get h.next=some (.cells (ceL (wU j d)) true 1)∧h'.get (h.next+1)=some (.cells [I.O,I.O,I.O] true 1))
  ⟨0,Nat.zero_le _,rfl,rfl,rfl,⟨ey1'.next,(Heap.aL (by omega)).trans ey1'.log,fun b hb=>(z5 (by omega)).trans (ey1'.old b hb),fun w=>(ey1'.wf w).as (AS.wr h.next _ _ _)⟩,by show h.next+2≤H1.next;omega,by rw[z6,ga];rfl,(z5 (by omega)).trans gb⟩ ?_
 rintro m e ds h' ⟨j,hj,rfl,rfl,rfl,x,hn,gc,gd⟩
 have hbj:=hb.rot j
 by_cases hlt:j<r
 ·have hro:wU (j+1) d=Jk (wU j d):=rfl
  generalize wU j d=b at*
  obtain⟨bx,by',bz⟩:=b
  obtain⟨_,hy,_⟩:=hbj
  dsimp only at hy
  have my:=fR hy
  unfold Jk at hro
  dsimp only at hro
  refine y4 ?_;refine yt ?_;refine y3 ?_;refine an ?_;refine yY ?_;refine bA ?_;refine bH ?_;refine an ?_;refine aO ?_
  refine aq ?_;refine yF ?_;refine yL ?_;refine yW ?_;refine yF ?_;refine yL ?_;refine yF ?_
  refine yL ?_;refine ah (dS (by exact rfl)) ?_;refine yS ?_;refine ct ?_;refine y1 ?_;refine fF ?_;refine bH ?_;refine aq ?_
  refine iI ?_;refine yM ?_;refine y3 ?_
  refine⟨r-(j+1),by omega,j+1,by omega,rfl,rfl,rfl,⟨x.next,(Heap.aL (by omega)).trans x.log,fun b hb=>(z5 (by omega)).trans (x.old b hb),fun w=>(x.wf w).as (AS.wr h.next _ _ _)⟩,hn,?_,(z5 (by omega)).trans gd⟩
  rw[z6,gc,hro];rfl
 ·obtain rfl:j=r:=by omega
  generalize wU j d=b at*
  have ckb:bT 3 (bS 0 (ceL b))=ceL b:=rfl
  have ckbl:Nat.beq (bO (ceL b)) 3=true:=rfl
  refine y4 ?_;refine yf ?_;refine y3 ?_;refine an ?_;refine yX ?_;refine dz ?_;refine ek ?_;refine ek ?_;refine iY ?_;refine bH ?_
  refine y4 ?_;refine yN ?_;refine yS ?_;refine y3 ?_;refine aM ?_
  refine aD ?_ (cW (own:=true) (s:=1) rfl ?_ ckb ckbl rfl) rfl
  ·rw[Heap.aL (by show h.next≤h.next+1;omega)];exact x.log.trans hr.log
  ·(simp(disch:=first|omega|(simp only[z1,z2];omega))only[z3,z4,z5,z6,z7,z1,z2,q1,ga,gb,gd,gc];exact rfl)
end Go.A.Pk
end
section
set_option maxRecDepth 100000
namespace Go.A.Pk
variable {T:Nat→Option af}
def se(o:List Nat)(c:Ce):List Nat:=o.set c.z.toNat (Nat.lor (o.getD c.z.toNat 0) (2 ^ (8*c.y.toNat+c.x.toNat)))
theorem B8(o:List Nat){z i:Nat}(hi:i<64):se o (iE z i)=o.set z (Nat.lor (o.getD z 0) (2 ^ i)):=by
 unfold se iE
 dsimp only
 rw[show((z:Nat):Int).toNat=z by omega,show 8*((i / 8:Nat):Int).toNat+((i % 8:Nat):Int).toNat=i by omega]
theorem IsS.se{o:List Nat}(h:IsS o){c:Ce}(hc:inG c=true):IsS (Pk.se o c):=by
 obtain⟨z,i,hz,hi,rfl⟩:=lu hc
 rw[B8 o hi]
 refine⟨by rw[List.length_set];exact h.len,fun x hx=> ?_⟩
 rcases List.mem_or_eq_of_mem_set hx with h1|h1
 ·exact h.lt x h1
 ·rw[h1];exact Fm (h.lZ z) (zn hi)
def wh(f:Ce→Ce)(l:List Ce):List Nat:=l.foldl (fun o c=>se o (f c)) s0
def ux(f:Ce→Ce)(s:List Nat):List Nat:=wh f (b9 s 512)
theorem uW(f:Ce→Ce)(l:List Ce)(c:Ce):wh f (l++[c])=se (wh f l) (f c):=by unfold wh;rw[List.foldl_append];rfl
theorem Iq{f:Ce→Ce}:∀{l:List Ce},(∀c∈l,inG (f c)=true)→IsS (wh f l):=by
 intro l
 have:∀(l:List Ce) (o:List Nat),IsS o→(∀c∈l,inG (f c)=true)→IsS (l.foldl (fun o c=>se o (f c)) o):=by
  intro l
  induction l with
  |nil=>intro o ho _;exact ho
  |cons c l ih=>intro o ho hl;exact ih _ (ho.se (hl c List.mem_cons_self)) fun x hx=>hl x (List.mem_cons_of_mem _ hx)
 exact fun hl=>this l s0 lK hl
theorem Bg{o:List Nat}{z v:Nat}(hz:z<o.length):cg (us o) (0+z*1) (cellsOf (.int .u64 (v:Nat)))=us (o.set z v):=by
 show cg (us o) (0+z*1) [.int .u64 (v:Nat)]=_
 rw[Nat.zero_add,Nat.mul_one,gu (by rw[aG];simp;omega)]
 unfold us
 rw[List.map_set,List.set_eq_take_append_cons_drop,if_pos (by simpa using hz)]
 simp
section
open I
def qv:aU:=I.R [g 7 (.new [O,O,O]),S 3 7 11] [3,4,5,6,7]
def qx:aU:=(.block 1 (Q (I.R [L 12 3,N 13 3 7,g 14 (.call (t 12) [(t 13)]),g 8 (.new [O,O,O]),S 3 8 14] [4,5,6,8])
 (Q (.seq (I.R [N 15 3 8,g 16 (.call (.func 76) [(t 15)]),g 17 (.un .not (t 16))] [4,5,6,8,17])
 (.cond (t 17) (Q (I.R [g 18 (.build (aW 8 (.int .u64 0)) []),S 8 4 18,⟨none, .store 1 (t 5) (.const (.bool false)),none⟩] [])
 .ret) .skip))
 (.draw [A 19 2 8,L 20 19,g 21 (.bE 8 1 (t 6) (t 20)),L 22 21,N 23 3 8,g 24 (.call (.func 77) [(t 23)]),B 25 .or 22 24,g 26 (.bE 8 1 (t 6) (t 20)),S 1 26 25] [0,1,2,3,4,5,6,7,8] [0,1,3,7,0,16,63,127,255] []))))
end
structure xH (T:Nat→Option af):Prop where
 cp:Bt T
 tu:pJ T
 f126:T 76=some f126
 f127:T 77=some f127
 f211:T 125=some f211
 f215:T 122=some f215
 f261:T 143=some f261
 f262:T 144=some f262
set_option maxHeartbeats 16000000 in
theorem CJ(F:xH T){H:Heap}(hr:Rdy H){q l lo N b3 b4 b5 gf:Nat}{cap fv:Value}{o:List Nat}(ho:IsS o){c d:Ce}(hd:inG d=true)(hlo:lo≤q)(hql:q<l)(hlN:l<N)(h3q:b3<q)
 (gl:H.get l=some (.loop [(3, .pointer (some ⟨b3,0,none⟩)),(4, .pointer (some ⟨b4,0,none⟩)),(5, .pointer (some ⟨b5,0,none⟩)),(6, .pointer (some ⟨q,0,none⟩)),(10,fv)] [11] qv qx 0 .normal))
 (g3:H.get b3=some (.cells [.func (.func gf) #[] #[cap]] true 1))
 (hto:∀H':Heap,WF H'→(∀z,z<b3→H'.get z=H.get z)→Pu T gf [ceV c,cap] {H' with log:=[]} (ceV d))
 (go:H.get q=some (.cells (us o) true 1)){S:Heap→Prop}:
 FW T (.yield l) [ceV c] H fun r H'=>(∀z∈H'.log,lo≤z∧z<N)∧(r= .ret (.bool true)∧(H'.get q=some (.cells (us (se o d)) true 1)∧(∀z,z<H.next→z≠q→H'.get z=H.get z)∧H.next≤H'.next)∨r= .ret (.bool false)∧l∈H'.log∧S H'):=by
 have hp:=F.cp.p
 have no:q≠l:=by omega
 have ko:=hr.wf.gF go
 have kl:=hr.wf.gF gl
 have k3:=hr.wf.gF g3
 refine FW.HR hp (R:=fun H'=>H'.get q=some (.cells (us (se o d)) true 1)∧(∀z,z<H.next→z≠q→H'.get z=H.get z)∧H.next≤H'.next) gl rfl kl ⟨by omega,hlN⟩ ?_
 unfold qv
 refine aq ?_;refine ah (cZ) ?_;refine yS ?_;refine ct ?_
 refine y1 ?_
 refine⟨rfl,by(simp(disch:=first|omega|(simp only[z1,z2];omega))only[z3,z4,z5,z6,z7,z1,z2,gl,g3,go];exact rfl),?_⟩
 unfold qx
 refine aO ?_
 refine WE.Im ?_
 intro hA hAe
 have A1:∀z,z<H.next→z≠l→H.get z=hA.get z:=fun z hz hne=>by rw[hAe];symm;simp(disch:=first|omega|(simp only[z1,z2];omega))only[z5,z4]
 have A3:hA.get H.next=some (.cells (ceL c) true 1):=by rw[hAe];(simp(disch:=first|omega|(simp only[z1,z2];omega))only[z3,z4,z5,z6,z7,z1,z2,gl,g3,go];exact rfl)
 have A2:hA.get l=some (.loop [(3, .pointer (some ⟨b3,0,none⟩)),(4, .pointer (some ⟨b4,0,none⟩)),(5, .pointer (some ⟨b5,0,none⟩)),(6, .pointer (some ⟨q,0,none⟩)),(10,fv)] [11] qv qx 1 .normal):=by rw[hAe];(simp(disch:=first|omega|(simp only[z1,z2];omega))only[z3,z4,z5,z6,z7,z1,z2,gl,g3,go,A3];exact rfl)
 have A5:hA.next=H.next+1:=by rw[hAe];rfl
 have A6:hA.log=[]:=by rw[hAe];simp(disch:=first|omega|(simp only[z1,z2];omega))only[Heap.aL,Heap.tn];exact hr.log
 have A7:WF hA:=by rw[hAe];exact(((hr.wf.push _).as (AS.wr _ _ _ _)).as (AS.wr _ _ _ _))
 clear hAe
 have Bo:=(A1 q ko no).symm.trans go
 have B3:=(A1 b3 k3 (by omega)).symm.trans g3
 have C1:=hto hA A7 fun z hz=>(A1 z (by omega) (by omega)).symm
 have ck:bT 3 (bS 0 (ceL c))=ceL c:=rfl
 have ckl:Nat.beq (bO (ceL c)) 3=true:=rfl
 clear go hto
 refine cH (E0:=[(4, .pointer (some ⟨b4,0,none⟩)),(5, .pointer (some ⟨b5,0,none⟩)),(6, .pointer (some ⟨q,0,none⟩)),(8, .pointer (some ⟨hA.next,0,none⟩))]) (P:=fun h'=>Ext hA h'∧h'.next=hA.next+1∧h'.get hA.next=some (.cells (ceL d) true 1)) ?_ ?_
 ·refine aq ?_;refine yL ?_;refine yN ?_
  refine yC ?_
  refine FW.pu C1 ?_
  clear C1
  refine ah (cZ) ?_;refine yS ?_;refine ct ?_
  refine y1 ?_
  exact⟨rfl,rfl,rfl,ff (by omega) _ _,rfl,fE _ _⟩
 rintro hB ⟨xB,nB,gB⟩
 clear C1 A3
 have WB:=xB.wf A7
 have LB:=xB.log.trans A6
 have Bo2:=(xB.old _ (by omega)).trans Bo
 have Bl2:=(xB.old _ (by omega)).trans A2
 have C2:=CG hp F.f126 F.f215 (h:={hB with log:=[]}) (.of WB) d
 rw[hd]at C2
 obtain⟨z,i,hz,hi,rfl⟩:=lu hd
 have C3:=KK hp F.f127 (h:={hB with log:=[]}) (.of WB) (z:=z) hi
 have ckd:bT 3 (bS 0 (ceL (iE z i)))=ceL (iE z i):=rfl
 have ckdl:Nat.beq (bO (ceL (iE z i))) 3=true:=rfl
 have lz:bD (ceL (iE z i)) (0+2)=some (.int .i64 ((z:Nat):Int)):=rfl
 have e1:=pE (kK (s:=o) (i:=z) (by rw[ho.len];exact hz))
 have m1:=NY (a:=o.getD z 0) (b:=2 ^ i) (ho.lZ z) (zn hi)
 have kw:=Bg (o:=o) (z:=z) (v:=Nat.lor (o.getD z 0) (2 ^ i)) (by rw[ho.len];exact hz)
 rw[←B8 o hi]at kw
 have kc:(Nat.beq (bO (cellsOf (.int .u64 ((Nat.lor (o.getD z 0) (2 ^ i):Nat):Int)))) 1&&Nat.ble (0+z*1+1) (bO (us o))&&dG (cellsOf (.int .u64 ((Nat.lor (o.getD z 0) (2 ^ i):Nat):Int))))=true:=by
  rw[bN (us o),aG,ho.len,gJ (by omega)];rfl
 clear Bo A2 B3 g3
 refine an ?_;refine y4 ?_;refine yN ?_
 refine yC ?_
 refine FW.pu C2 ?_
 clear C2
 refine yA ?_;refine y3 ?_;refine yX ?_;refine bA ?_;refine bH ?_;refine dn ?_;refine qF ?_
 refine qL ?_;refine qJ ?_;refine qK ?_
 refine qN ?_
 refine qC ?_
 refine FW.puD C3 (by apply aT rfl;apply aN rfl (aI rfl (dD (by exact rfl) (by assumption) (by assumption)) (by exact eN _ _)) rfl;apply aN rfl (aI rfl (fk (by exact rfl) (by exact rfl) (by omega)) (by exact dB _)) rfl;apply aN rfl (aI rfl (dD (by exact rfl) (by assumption) (by exact rfl)) (by exact eN _ _)) rfl;apply aN rfl (aI rfl (dV (by exact rfl)) (by exact dB _)) rfl;exact cO) ?_
 clear C3
 refine qW ?_;refine qJ ?_
 refine ec (vs:=us o) (ws:=us (se o (iE z i))) rfl rfl rfl (by exact rfl) (by exact rfl) (by exact rfl) Bo2 kc kw (by omega) (by(repeat apply aT rfl);exact cO) ?_
 refine dH ?_;refine y1 ?_;refine fF ?_
 refine⟨⟨_,by(simp(disch:=first|omega|(simp only[z1,z2];omega))only[z3,z4,z5,z6,z7,z1,z2,gl,Bo2,Bl2,gB];exact rfl),rfl⟩,fun z hz=> ?_, .inl ⟨rfl,fun h5 hn h5e h5l=> ?_⟩⟩
 ·have key:z=q:=by
   rcases dJ hz with h|hz
   ·exact h
   rw[LB]at hz;cases hz
  subst key
  exact⟨hlo,by omega⟩
 ·refine⟨(h5e q ko no).trans (Heap.aJ Bo2),fun z hz hne=> ?_,hn⟩
  by_cases hl:z=l
  ·subst hl
   rw[gl];exact h5l
  ·refine(h5e z hz hl).trans ?_
   rw[z5 hne,xB.old z (by omega)]
   exact(A1 z hz hl).symm
theorem qz{s:List Nat}{n:Nat}{c:Ce}(h:c∈b9 s n):inG c=true:=by
 have:=CN h
 by_cases hc:inG c=true
 ·exact hc
 ·rw[jd hc]at this;cases this
theorem BV{f:Ce→Ce}{s:List Nat}(hin:∀c,inG c=true→inG (f c)=true):IsS (ux f s):=Iq fun c hc=>hin c (qz hc)
set_option maxHeartbeats 16000000 in
theorem CK(F:xH T){h:Heap}(hr:Rdy h)(hg:Tab h)(h2:0<h.next){s:List Nat}(hs:IsS s){gf:Nat}{cap:Value}{f:Ce→Ce}(hin:∀c,inG c=true→inG (f c)=true)
 (hto:∀H':Heap,WF H'→(∀z,z<h.next→H'.get z=h.get z)→∀c,inG c=true→Pu T gf [ceV c,cap] {H' with log:=[]} (ceV (f c))):
 Pu T 143 [sv s, .func (.func gf) #[] #[cap]] h (.tuple #[sv (ux f s), .bool true]):=by
 have hp:=F.cp.p
 have hms:=BV (s:=s) hin
 refine .of hp F.f261 hr (by
  have h1:flat (sv (ux f s))=true:=iA _
  show jj [sv (ux f s), .bool true]=true
  simp only[jj,h1,cond_true];rfl) ?_
 have k8:=bU hs.len
 have k9:=dh hs.len
 have x0:Ext h (((((h.push (.cells (cellsOf (sv s)) true 1)).push (.cells (cellsOf (.func (.func gf) #[] #[cap])) true 1)).push (.cells (aW 8 (.int .u64 0)) true 1)).push (.cells [.bool false] true 1)).push (.cells (aW 8 (.int .u64 0)) true 1)):=(((((Ext.refl h).push _).push _).push _).push _).push _
 have gA:(((((h.push (.cells (cellsOf (sv s)) true 1)).push (.cells (cellsOf (.func (.func gf) #[] #[cap])) true 1)).push (.cells (aW 8 (.int .u64 0)) true 1)).push (.cells [.bool false] true 1)).push (.cells (aW 8 (.int .u64 0)) true 1)).get h.next=some (.cells (us s) true 1):=by(simp(disch:=first|omega|(simp only[z1,z2];omega))only[z3,z4,z5,z6,z7,z1,z2];exact rfl)
 have gB:(((((h.push (.cells (cellsOf (sv s)) true 1)).push (.cells (cellsOf (.func (.func gf) #[] #[cap])) true 1)).push (.cells (aW 8 (.int .u64 0)) true 1)).push (.cells [.bool false] true 1)).push (.cells (aW 8 (.int .u64 0)) true 1)).get (h.next+1)=some (.cells [.func (.func gf) #[] #[cap]] true 1):=by(simp(disch:=first|omega|(simp only[z1,z2];omega)|(simp only[z1,z2];done)|fail)only[Go.A.z8,z4,z5,z9,z7,z1,z2,gA];exact rfl)
 have gC:(((((h.push (.cells (cellsOf (sv s)) true 1)).push (.cells (cellsOf (.func (.func gf) #[] #[cap])) true 1)).push (.cells (aW 8 (.int .u64 0)) true 1)).push (.cells [.bool false] true 1)).push (.cells (aW 8 (.int .u64 0)) true 1)).get (h.next+2)=some (.cells (us s0) true 1):=by(simp(disch:=first|omega|(simp only[z1,z2];omega)|(simp only[z1,z2];done)|fail)only[Go.A.z8,z4,z5,z9,z7,z1,z2,gA,gB];exact rfl)
 have gD:(((((h.push (.cells (cellsOf (sv s)) true 1)).push (.cells (cellsOf (.func (.func gf) #[] #[cap])) true 1)).push (.cells (aW 8 (.int .u64 0)) true 1)).push (.cells [.bool false] true 1)).push (.cells (aW 8 (.int .u64 0)) true 1)).get (h.next+3)=some (.cells [.bool false] true 1):=by(simp(disch:=first|omega|(simp only[z1,z2];omega)|(simp only[z1,z2];done)|fail)only[Go.A.z8,z4,z5,z9,z7,z1,z2,gA,gB,gC];done)
 have gE:(((((h.push (.cells (cellsOf (sv s)) true 1)).push (.cells (cellsOf (.func (.func gf) #[] #[cap])) true 1)).push (.cells (aW 8 (.int .u64 0)) true 1)).push (.cells [.bool false] true 1)).push (.cells (aW 8 (.int .u64 0)) true 1)).get (h.next+4)=some (.cells (us s0) true 1):=by(simp(disch:=first|omega|(simp only[z1,z2];omega)|(simp only[z1,z2];done)|fail)only[Go.A.z8,z4,z5,z9,z7,z1,z2,gA,gB,gC,gD];exact rfl)
 have n0:(((((h.push (.cells (cellsOf (sv s)) true 1)).push (.cells (cellsOf (.func (.func gf) #[] #[cap])) true 1)).push (.cells (aW 8 (.int .u64 0)) true 1)).push (.cells [.bool false] true 1)).push (.cells (aW 8 (.int .u64 0)) true 1)).next=h.next+5:=rfl
 refine y4 ?_;refine yB ?_;refine yB ?_;refine ah (cZ) ?_;refine ah (cZ) ?_;refine y3 ?_;refine y4 ?_;refine ah (cZ) ?_
 refine y3 ?_
 generalize(((((h.push (.cells (cellsOf (sv s)) true 1)).push (.cells (cellsOf (.func (.func gf) #[] #[cap])) true 1)).push (.cells (aW 8 (.int .u64 0)) true 1)).push (.cells [.bool false] true 1)).push (.cells (aW 8 (.int .u64 0)) true 1))=H at*
 have W:=x0.wf hr.wf
 have hL:=x0.log.trans hr.log
 have C:=xU F.cp (h:={H with log:=[]}) (.of W) hs
 refine an ?_;refine y4 ?_;refine yV ?_
 refine yC ?_
 refine FW.al C (fun v h' m q=>q) ?_
 rintro _ H1 x1 ⟨q,rfl,gq,q2,q3⟩
 clear C
 have q2:H.next≤q:=q2
 have ey1':=x0.trans x1
 have W1:=ey1'.wf hr.wf
 have hL1:=ey1'.log.trans hr.log
 have n1:=x1.next
 have gB1:=(x1.old _ (by omega)).trans gB
 have gC1:=(x1.old _ (by omega)).trans gC
 have gD1:=(x1.old _ (by omega)).trans gD
 have gE1:=(x1.old _ (by omega)).trans gE
 have hg1:Tab H1:=hg.ext ey1' h2
 clear gA gB gC gD gE
 refine y3 ?_;refine aO ?_
 refine vz (lo:=h.next+4) (P:=PXo H1.next (h.next+4) H1 (.loop [(3, .pointer (some ⟨h.next+1,0,none⟩)),(4, .pointer (some ⟨h.next+2,0,none⟩)),(5, .pointer (some ⟨h.next+3,0,none⟩)),(6, .pointer (some ⟨h.next+4,0,none⟩)),(10,fnC q)] [11] qv qx 0 .normal) (fun d=>us (wh f d)) (b9 s 512)) (S:=fun _=>False) rfl (by rfl) (by rw[F.cp.f265];rfl) (by omega) (by omega) hL1 W1 ?_ (fun H p=>⟨_,_,_,_,p.loop⟩) (fun H p=>p.elim) ?_ (fun _ _ _ _ _ _ _ p=>p.elim)
 ·have Y:DX T (h.next+4) (H1.next+1) H1.next ceV (b9 s 512) (fun d H'=>PXo H1.next (h.next+4) H1 (.loop [(3, .pointer (some ⟨h.next+1,0,none⟩)),(4, .pointer (some ⟨h.next+2,0,none⟩)),(5, .pointer (some ⟨h.next+3,0,none⟩)),(6, .pointer (some ⟨h.next+4,0,none⟩)),(10,fnC q)] [11] qv qx 0 .normal) (fun d=>us (wh f d)) d H'∧IsS (wh f d)) (fun _=>False):=by
   refine⟨fun done x Hh hx hrH hN hP=> ?_,fun done Ha Hb p n e=>⟨PXo.eZ (by omega) done Ha Hb p.1 n e,p.2⟩,fun _ _ h=>h,fun _ h=>h.elim⟩
   obtain⟨hP,hd⟩:=hP
   have hxG:=qz hx
   refine FW.mono' (CJ F hrH (lo:=h.next+4) (N:=H1.next+1) (S:=fun _=>False) hd (d:=f x) (hin x hxG) (Nat.le_refl _) (by omega) (by omega) (by omega) hP.loop ((hP.old _ (by omega) (by omega)).trans gB1)
    (fun H' w e=>hto H' w (fun z hz=>(e z (by omega)).trans ((hP.old z (by omega) (by omega)).trans (ey1'.old z hz))) x hxG) hP.val) ?_
   rintro r' H' ⟨r1,r2⟩
   refine⟨r1,r2.imp (fun⟨e,g,o,_⟩=>⟨e,⟨fun z hz hne=>(o z (by omega) hne).trans (hP.old z hz hne),(o _ (by omega) (by omega)).trans hP.loop,?_⟩,?_⟩) id⟩
   ·rw[uW];exact g
   ·rw[uW];exact hd.se (hin x hxG)
  have G:=uO F.cp (.of (W1.push (.loop [(3, .pointer (some ⟨h.next+1,0,none⟩)),(4, .pointer (some ⟨h.next+2,0,none⟩)),(5, .pointer (some ⟨h.next+3,0,none⟩)),(6, .pointer (some ⟨h.next+4,0,none⟩)),(10,fnC q)] [11] qv qx 0 .normal))) (q0:=q) (l:=H1.next) (N:=H1.next+1) (lo:=h.next+4) hs (Nat.le_refl _) (by show h.next+4≤H1.next+1;omega) (Nat.lt_succ_self _) Y ((z4 (by omega)).trans gq) (fun d H' hP=>(hP.1.old 0 (by omega) (by omega)).trans hg1)
   ⟨⟨fun z hz _=>z4 hz,z3 _ _,(z4 (by omega)).trans gE1⟩,lK⟩
  exact CW.mono G fun r h' ⟨a,v,b,c⟩=>⟨a,v,b,c.imp (fun p=>p.1) id⟩
 intro h4 h5 k1 k2 k3 k4 k5 hP
 have D:=(k5 (h.next+4) (by omega)).trans hP.val
 have D2:=(k5 (h.next+2) (by omega)).trans ((hP.old _ (by omega) (by omega)).trans gC1)
 have D3:=(k5 (h.next+3) (by omega)).trans ((hP.old _ (by omega) (by omega)).trans gD1)
 unfold ux at*
 generalize wh f (b9 s 512)=z at*
 have ck:=dh hms.len
 have ckl:=bU hms.len
 have cko:=cF z
 have cks:(us z).length=8:=by rw[aG,hms.len]
 have ck0:=cF s0
 have ck0l:(us s0).length=8:=rfl
 refine fF ?_;refine bH ?_;refine y4 ?_;refine yV ?_;refine ah (bQ (by exact rfl) (by exact rfl) (by assumption) (by assumption) (by assumption) (by exact cF _)) ?_
 refine ah (gV (by exact rfl) (by exact rfl) (by first|(simp(disch:=first|omega|(simp only[z1,z2];omega))only[z3,z4,z5,z6,z7,z1,z2,gq,gB1,gC1,gD1,gE1,D2,D3,D];exact rfl)|fail) (by exact rfl) (by exact rfl)) ?_;refine y3 ?_;refine aM ?_
 refine aD ?_ (cW (own:=true) (s:=1) (l:=us z) rfl ?_ ck ckl (GP (own:=true) (s:=1) (ws:=[.bool true]) (v:= .bool true) rfl ?_ rfl rfl)) rfl
 ·rw[Heap.aL (by show h.next≤h.next+3;omega),Heap.aL (by show h.next≤h.next+2;omega)];exact k1
 ·(simp(disch:=first|omega|(simp only[z1,z2];omega))only[z3,z4,z5,z6,z7,z1,z2,gq,gB1,gC1,gD1,gE1,D2,D3,D];done)
 ·(simp(disch:=first|omega|(simp only[z1,z2];omega))only[z3,z4,z5,z6,z7,z1,z2,gq,gB1,gC1,gD1,gE1,D2,D3,D];exact rfl)
theorem Jq(F:xH T){h:Heap}(hr:Rdy h){qt t:Nat}(ht:t<24)(g:h.get qt=some (.cells [.int .i64 (t:Nat)] true 1)){c:Ce}(hc:inG c=true):Pu T 144 [ceV c, .pointer (some ⟨qt,0,none⟩)] h (ceV (nP t c)):=by
 refine .of F.cp.p F.f262 hr rfl ?_
 have kq:=hr.wf.gF g
 have W:WF ((h.push (.cells (cellsOf (ceV c)) true 1)).push (.cells [I.O,I.O,I.O] true 1)):=(hr.wf.push _).push _
 have C:=DI F.tu (.of W) (sC.1 hc) ht
 have ck:bT 3 (bS 0 (ceL (nP t c)))=ceL (nP t c):=rfl
 generalize nP t c=d at*
 refine y4 ?_;refine yB ?_;refine ah (cZ) ?_;refine y3 ?_;refine y4 ?_
 refine yN ?_
 refine yL ?_
 refine yC ?_
 refine FW.pu C ?_
 refine yS ?_;refine y3 ?_;refine aM ?_
 refine aD ?_ (cW (own:=true) (s:=1) rfl ?_ ck rfl rfl) rfl
 ·rw[Heap.aL (by show h.next≤h.next+1;omega)];exact hr.log
 ·(simp(disch:=first|omega|(simp only[z1,z2];omega)|(simp only[z1,z2];done)|fail)only[Go.A.z8,z4,z5,z9,z7,z1,z2,g];exact rfl)
def kG(s:List Nat)(t:Nat):List Nat:=ux (nP t) s
theorem Ch{t:Nat}(c:Ce)(h:inG c=true):inG (nP t c)=true:=sC.2 ((sC.1 h).QN t)
theorem ug(s:List Nat)(t:Nat):IsS (kG s t):=BV Ch
set_option maxHeartbeats 16000000 in
theorem Jr(F:xH T){h:Heap}(hr:Rdy h)(hg:Tab h)(h2:0<h.next){s:List Nat}(hs:IsS s){t:Nat}(ht:t<24):Pu T 125 [sv s, .int .i64 (t:Nat)] h (sv (kG s t)):=by
 refine .of F.cp.p F.f211 hr (iA _) ?_
 have k8:=bU hs.len
 have k9:=dh hs.len
 have x0:Ext h (((h.push (.cells (cellsOf (sv s)) true 1)).push (.cells (cellsOf (Value.int .i64 (t:Nat))) true 1)).push (.cells (aW 8 (.int .u64 0)) true 1)):=(((Ext.refl h).push _).push _).push _
 have gA:(((h.push (.cells (cellsOf (sv s)) true 1)).push (.cells (cellsOf (Value.int .i64 (t:Nat))) true 1)).push (.cells (aW 8 (.int .u64 0)) true 1)).get h.next=some (.cells (us s) true 1):=by(simp(disch:=first|omega|(simp only[z1,z2];omega))only[z3,z4,z5,z6,z7,z1,z2];exact rfl)
 have gB:(((h.push (.cells (cellsOf (sv s)) true 1)).push (.cells (cellsOf (Value.int .i64 (t:Nat))) true 1)).push (.cells (aW 8 (.int .u64 0)) true 1)).get (h.next+1)=some (.cells [.int .i64 (t:Nat)] true 1):=by(simp(disch:=first|omega|(simp only[z1,z2];omega)|(simp only[z1,z2];done)|fail)only[Go.A.z8,z4,z5,z9,z7,z1,z2,gA];exact rfl)
 have gC:(((h.push (.cells (cellsOf (sv s)) true 1)).push (.cells (cellsOf (Value.int .i64 (t:Nat))) true 1)).push (.cells (aW 8 (.int .u64 0)) true 1)).get (h.next+2)=some (.cells (us s0) true 1):=by(simp(disch:=first|omega|(simp only[z1,z2];omega)|(simp only[z1,z2];done)|fail)only[Go.A.z8,z4,z5,z9,z7,z1,z2,gA,gB];exact rfl)
 have n0:(((h.push (.cells (cellsOf (sv s)) true 1)).push (.cells (cellsOf (Value.int .i64 (t:Nat))) true 1)).push (.cells (aW 8 (.int .u64 0)) true 1)).next=h.next+3:=rfl
 refine y4 ?_;refine yB ?_;refine yB ?_;refine ah (cZ) ?_;refine y3 ?_
 generalize(((h.push (.cells (cellsOf (sv s)) true 1)).push (.cells (cellsOf (Value.int .i64 (t:Nat))) true 1)).push (.cells (aW 8 (.int .u64 0)) true 1))=H at*
 have W:=x0.wf hr.wf
 have hL:=x0.log.trans hr.log
 have C:=CK F (h:={H with log:=[]}) (.of W) (show Tab H from hg.ext x0 h2) (by show 0<H.next;omega) hs (gf:=144) (cap:= .pointer (some ⟨h.next+1,0,none⟩)) (f:=nP t) Ch
  (fun H' w e c hc=>Jq F (.of w) ht ((e (h.next+1) (by show h.next+1<H.next;omega)).trans gB) hc)
 have hms:=ug s t
 unfold kG at*
 generalize ux (nP t) s=z at*
 have ck:=dh hms.len
 have ckl:=bU hms.len
 have cko:=cF z
 have cks:(us z).length=8:=by rw[aG,hms.len]
 have ck0:=cF s0
 have ck0l:(us s0).length=8:=rfl
 refine y4 ?_;refine yV ?_;refine ah (gL (by exact rfl) (by exact rfl)) ?_
 refine yC ?_
 refine FW.pu C ?_
 clear C
 refine yM ?_;refine yE ?_;refine yE ?_;refine ah (cZ) ?_
 refine ah (bQ (by exact rfl) (by exact rfl) (by(simp(disch:=first|omega|(simp only[z1,z2];omega))only[z3,z4,z5,z6,z7,z1,z2,gA,gB,gC];exact rfl)) (by assumption) (by assumption) (by exact cF _)) ?_;refine yM ?_
 refine y3 ?_;refine y4 ?_
 refine ah (dK (by exact rfl) (by(simp(disch:=first|omega|(simp only[z1,z2];omega))only[z3,z4,z5,z6,z7,z1,z2,gA,gB,gC];exact rfl)) (by assumption) (by assumption)) ?_
 refine ah (bQ (by exact rfl) (by exact rfl) (by(simp(disch:=first|omega|(simp only[z1,z2];omega))only[z3,z4,z5,z6,z7,z1,z2,gA,gB,gC];exact rfl)) (by assumption) (by assumption) (by exact cF _)) ?_;refine y3 ?_;refine aM ?_
 refine aD ?_ (cW (own:=true) (s:=1) (l:=us z) rfl ?_ ck ckl rfl) rfl
 ·rw[Heap.aL (by show h.next≤h.next+2;omega),Heap.aL (by first|omega|(show h.next≤H.next;omega))];exact hL
 ·(simp(disch:=first|omega|(simp only[z1,z2];omega))only[z3,z4,z5,z6,z7,z1,z2,gA,gB,gC];done)
def shP(p:Nat)(k:Int):Nat:=if 0≤k then Nat.mod (Nat.shiftLeft p k.toNat) 18446744073709551616 else Nat.shiftRight p (-k).toNat
theorem Mg{p:Nat}{k:Int}(hp:p<U64):shP p k<U64:=by
 unfold shP
 split
 ·exact Nat.mod_lt _ (by decide)
 ·exact Nat.lt_of_le_of_lt (Nat.shiftRight_le _ _) hp
def kL(s:List Nat)(a:Nat)(z k:Int):Nat→List Nat
 |0=>s0
 |n+1=>(kL s a z k n).set (((a+n:Nat):Int)+z).toNat (shP (s.getD (a+n) 0) k)
theorem pW{s:List Nat}(hs:IsS s)(a:Nat)(z k:Int):∀n,IsS (kL s a z k n)
 |0=>lK
 |n+1=>by
  have ih:=pW hs a z k n
  refine⟨by unfold kL;rw[List.length_set];exact ih.len,fun x hx=> ?_⟩
  unfold kL at hx
  rcases List.mem_or_eq_of_mem_set hx with h|h
  ·exact ih.lt x h
  ·rw[h];exact Mg (hs.lZ _)
def ni(s:List Nat)(b:Bx)(x y z:Int):List Nat:=kL s b.lo.z.toNat z (8*y+x) (b.hi.z-b.lo.z+1).toNat
theorem NZ{p n:Nat}(hn:n<64):aA .shl (.int .u64 (p:Nat)) (.int .i64 (n:Nat))=some (.int .u64 ((Nat.mod (Nat.shiftLeft p n) 18446744073709551616:Nat):Int)):=by
 have e1:((n:Nat):Int)=Int.ofNat n:=rfl
 have e2:((p:Nat):Int)=Int.ofNat p:=rfl
 rw[e1,e2]
 have:aA .shl (.int .u64 (Int.ofNat p)) (.int .i64 (Int.ofNat n))=some (.int .u64 (.ofNat (Nat.mod (Nat.shiftLeft p (Nat.min n 64)) 18446744073709551616))):=rfl
 rw[this,show Nat.min n 64=n from Nat.min_eq_left (by omega)]
 rfl
def psL(s:List Nat)(b:Bx):List Value:=us s++bxL b
def psV(s:List Nat)(b:Bx):Value:= .agg (psL s b).toArray
theorem B5{s:List Nat}{b:Bx}(hs:IsS s)(j:Nat):bD (psL s b) (8+j)=bD (bxL b) j:=by
 rw[cG,cG]
 unfold psL
 rw[List.getElem?_append_right (by rw[aG,hs.len];omega),aG,hs.len,Nat.add_sub_cancel_left]
theorem LY{s:List Nat}{b:Bx}(hs:IsS s){i:Nat}(hi:i<8):bD (psL s b) (0+0+i*1)=some (.int .u64 ((s.getD i 0:Nat):Int)):=by
 rw[cG,show 0+0+i*1=i by omega]
 unfold psL
 rw[List.getElem?_append_left (by rw[aG,hs.len];omega)]
 unfold us
 rw[List.getElem?_map,kK (by rw[hs.len];exact hi)];rfl
structure J6 (T:Nat→Option af):Prop where
 p:bI T
 f212:T 126=some f212
set_option maxHeartbeats 16000000 in
theorem CI(F:J6 T){h:Heap}(hr:Rdy h){s:List Nat}(hs:IsS s){b:Bx}{x y z:Int}(hx: -7≤x∧x≤7)(hy: -7≤y∧y≤7)(hz: -7≤z∧z≤7)(hlo:0≤b.lo.z∧b.lo.z≤7)(hhi:0≤b.hi.z∧b.hi.z≤7)(hl:0≤b.lo.z+z)(hh:b.hi.z+z≤7):
 Pu T 126 [psV s b, .int .i64 x, .int .i64 y, .int .i64 z] h (sv (ni s b x y z)):=by
 refine .of F.p F.f212 hr (iA _) ?_
 unfold ni
 have hb:bxL b=[.int .i64 b.lo.x, .int .i64 b.lo.y, .int .i64 b.lo.z, .int .i64 b.hi.x, .int .i64 b.hi.y, .int .i64 b.hi.z]:=rfl
 have eA:bD (psL s b) (0+8+0+2)=some (.int .i64 b.lo.z):=by rw[show 0+8+0+2=8+2 by omega,B5 hs];rfl
 have eB:bD (psL s b) (0+8+3+2)=some (.int .i64 b.hi.z):=by rw[show 0+8+3+2=8+5 by omega,B5 hs];rfl
 obtain⟨a,ha⟩:=Int.eq_ofNat_of_zero_le hlo.1
 obtain⟨c,hc⟩:=Int.eq_ofNat_of_zero_le hhi.1
 rw[ha]at eA hlo hl
 rw[hc]at eB hhi hh
 have eP:=fun i hi=>LY (s:=s) (b:=b) hs (i:=i) hi
 have hcells:cellsOf (psV s b)=psL s b:=by show(psL s b).toArray.toList=_;simp
 have x0:Ext h (((h.push (.cells (cellsOf (psV s b)) true 1)).push (.cells (aW 8 (.int .u64 0)) true 1)).push (.cells (aW 8 (.int .u64 0)) true 1)):=(((Ext.refl h).push _).push _).push _
 have gA:(((h.push (.cells (cellsOf (psV s b)) true 1)).push (.cells (aW 8 (.int .u64 0)) true 1)).push (.cells (aW 8 (.int .u64 0)) true 1)).get h.next=some (.cells (psL s b) true 1):=by rw[hcells];(simp(disch:=first|omega|(simp only[z1,z2];omega))only[z3,z4,z5,z6,z7,z1,z2];done)
 have gB:(((h.push (.cells (cellsOf (psV s b)) true 1)).push (.cells (aW 8 (.int .u64 0)) true 1)).push (.cells (aW 8 (.int .u64 0)) true 1)).get (h.next+1)=some (.cells (us s0) true 1):=by(simp(disch:=first|omega|(simp only[z1,z2];omega)|(simp only[z1,z2];done)|fail)only[Go.A.z8,z4,z5,z9,z7,z1,z2,gA];exact rfl)
 have gC:(((h.push (.cells (cellsOf (psV s b)) true 1)).push (.cells (aW 8 (.int .u64 0)) true 1)).push (.cells (aW 8 (.int .u64 0)) true 1)).get (h.next+2)=some (.cells (us s0) true 1):=by(simp(disch:=first|omega|(simp only[z1,z2];omega)|(simp only[z1,z2];done)|fail)only[Go.A.z8,z4,z5,z9,z7,z1,z2,gA,gB];exact rfl)
 have n0:(((h.push (.cells (cellsOf (psV s b)) true 1)).push (.cells (aW 8 (.int .u64 0)) true 1)).push (.cells (aW 8 (.int .u64 0)) true 1)).next=h.next+3:=rfl
 refine y4 ?_;refine yB ?_;refine ah (cZ) ?_;refine y3 ?_;refine y4 ?_;refine ah (cZ) ?_;refine y3 ?_
 generalize(((h.push (.cells (cellsOf (psV s b)) true 1)).push (.cells (aW 8 (.int .u64 0)) true 1)).push (.cells (aW 8 (.int .u64 0)) true 1))=H at*
 have hL:=x0.log.trans hr.log
 rw[ha,hc]
 have m1:aA .mul (.int .i64 8) (.int .i64 y)=some (.int .i64 (8*y)):=Ks (by omega) (by omega)
 have m2:aA .add (.int .i64 (8*y)) (.int .i64 x)=some (.int .i64 (8*y+x)):=nk (cN (by omega) (by omega))
 refine an ?_;refine y4 ?_;refine yF ?_;refine yF ?_;refine yF ?_;refine ah (dD (by exact rfl) (by assumption) (by assumption)) ?_;refine yM ?_;refine y3 ?_;refine aO ?_
 refine dL (fun m e ds h'=>∃n:Nat,(a+n≤c+1∨n=0)∧8-n=m∧e=[(1, .int .i64 x),(2, .int .i64 y),(3, .int .i64 z),(4, .pointer (some ⟨h.next,0,none⟩)),(8, .pointer (some ⟨h.next+1,0,none⟩)),(9, .pointer (some ⟨h.next+2,0,none⟩)),(10, .int .i64 ((a+n:Nat):Int))]∧ds=[]∧Ext h h'∧h'.get h.next=some (.cells (psL s b) true 1)∧h'.get (h.next+1)=some (.cells (us s0) true 1)∧h'.get (h.next+2)=some (.cells (us (kL s a z (8*y+x) n)) true 1))
  ⟨0, .inr rfl,rfl,rfl,rfl,x0,gA,gB,gC⟩ ?_
 rintro m e ds h' ⟨n,hn,rfl,rfl,rfl,xx,g1,g2,g3⟩
 have hso:=pW hs a z (8*y+x) n
 by_cases hlt:a+n≤c
 ·have m3:aA .leq (.int .i64 ((a+n:Nat):Int)) (.int .i64 (c:Nat))=some (.bool true):=mh (by omega)
  obtain⟨w,hw⟩:=Int.eq_ofNat_of_zero_le (show 0≤((a+n:Nat):Int)+z by omega)
  have hw8:w<8:=by omega
  have m4:aA .add (.int .i64 ((a+n:Nat):Int)) (.int .i64 z)=some (.int .i64 ((w:Nat):Int)):=nk (by rw[cN (by omega) (by omega)];omega)
  have e1:=eP (a+n) (by omega)
  have hstep:kL s a z (8*y+x) (n+1)=(kL s a z (8*y+x) n).set w (shP (s.getD (a+n) 0) (8*y+x)):=by
   rw[kL,hw];rfl
  have hnx:=xx.next
  by_cases hk:0≤8*y+x
  ·obtain⟨k,hk2⟩:=Int.eq_ofNat_of_zero_le hk
   have hk3:k<64:=by omega
   rw[hk2]at m2 hstep hso g3⊢
   have m5:aA .geq (.int .i64 ((k:Nat):Int)) (.int .i64 0)=some (.bool true):=Ao (by omega)
   have m6:=NZ (p:=s.getD (a+n) 0) hk3
   have hsh:shP (s.getD (a+n) 0) ((k:Nat):Int)=Nat.mod (Nat.shiftLeft (s.getD (a+n) 0) k) 18446744073709551616:=by
    unfold shP
    rw[if_pos (by omega)];rfl
   rw[←hsh]at m6
   have kw:=Bg (o:=kL s a z ((k:Nat):Int) n) (z:=w) (v:=shP (s.getD (a+n) 0) ((k:Nat):Int)) (by rw[hso.len];exact hw8)
   rw[←hstep]at kw
   have kc:(Nat.beq (bO (cellsOf (.int .u64 ((shP (s.getD (a+n) 0) ((k:Nat):Int):Nat):Int)))) 1&&Nat.ble (0+w*1+1) (bO (us (kL s a z ((k:Nat):Int) n)))&&dG (cellsOf (.int .u64 ((shP (s.getD (a+n) 0) ((k:Nat):Int):Nat):Int))))=true:=by
    rw[bN (us _),aG,hso.len,gJ (by omega)];rfl
   have hn8:n<8:=by omega
   refine an ?_;refine y4 ?_;refine yM ?_;refine yF ?_;refine yF ?_;refine yF ?_;refine ah (dD (by exact rfl) (by assumption) (by assumption)) ?_;refine yW ?_
   refine y3 ?_;refine yY ?_;refine bA ?_;refine bH ?_;refine an ?_;refine aO ?_;refine y4 ?_;refine yM ?_
   refine yW ?_;refine yM ?_;refine yW ?_;refine yM ?_;refine y3 ?_
   refine y4 ?_;refine yM ?_;refine yW ?_;refine y3 ?_;refine yY ?_;refine aq ?_;refine yM ?_
   refine yM ?_;refine yW ?_;refine yM ?_;refine yF ?_;refine ah (fk (by exact rfl) (by exact rfl) (by omega)) ?_;refine ah (dD (by exact rfl) (by assumption) (by assumption)) ?_;refine yM ?_
   refine yW ?_;refine ah (fk (by exact rfl) (by exact rfl) (by omega)) ?_
   refine ah (gV (by exact rfl) (by exact rfl) g3 kc kw) ?_
   refine ct ?_;refine y1 ?_;refine fF ?_;refine bH ?_;refine aq ?_;refine yM ?_;refine iI ?_;refine yM ?_;refine y3 ?_
   exact⟨8-(n+1),by omega,n+1, .inl (by omega),rfl,rfl,rfl,⟨xx.next,(Heap.aL (by omega)).trans xx.log,fun b hb=>(z5 (by omega)).trans (xx.old b hb),fun w=>(xx.wf w).as (AS.wr h.next _ _ _)⟩,(z5 (by omega)).trans g1,(z5 (by omega)).trans g2,Heap.aJ g3⟩
  ·obtain⟨k,hk2⟩:=Int.eq_ofNat_of_zero_le (show 0≤ -(8*y+x)by omega)
   have hk3:k<64:=by omega
   have m5:aA .geq (.int .i64 (8*y+x)) (.int .i64 0)=some (.bool false):=An (by omega)
   have m7:uj .neg (.int .i64 (8*y+x))=some (.int .i64 ((k:Nat):Int)):=by
    show some (Value.int .i64 (fI .i64 (0-(8*y+x))))=_
    rw[cN (by omega) (by omega)]
    congr 2;omega
   have m6:aA .shr (.int .u64 ((s.getD (a+n) 0:Nat):Int)) (.int .i64 ((k:Nat):Int))=_:=rP (a:=s.getD (a+n) 0) (n:=k) (by omega)
   have hsh:shP (s.getD (a+n) 0) (8*y+x)=Nat.shiftRight (s.getD (a+n) 0) k:=by
    unfold shP
    rw[if_neg hk,show(-(8*y+x)).toNat=k by omega]
   rw[←hsh]at m6
   have kw:=Bg (o:=kL s a z (8*y+x) n) (z:=w) (v:=shP (s.getD (a+n) 0) (8*y+x)) (by rw[hso.len];exact hw8)
   rw[←hstep]at kw
   have kc:(Nat.beq (bO (cellsOf (.int .u64 ((shP (s.getD (a+n) 0) (8*y+x):Nat):Int)))) 1&&Nat.ble (0+w*1+1) (bO (us (kL s a z (8*y+x) n)))&&dG (cellsOf (.int .u64 ((shP (s.getD (a+n) 0) (8*y+x):Nat):Int))))=true:=by
    rw[bN (us _),aG,hso.len,gJ (by omega)];rfl
   have hn8:n<8:=by omega
   refine an ?_;refine y4 ?_;refine yM ?_;refine yF ?_;refine yF ?_;refine yF ?_;refine ah (dD (by exact rfl) (by assumption) (by assumption)) ?_;refine yW ?_
   refine y3 ?_;refine yY ?_;refine bA ?_;refine bH ?_;refine an ?_;refine aO ?_;refine y4 ?_;refine yM ?_
   refine yW ?_;refine yM ?_;refine yW ?_;refine yM ?_;refine y3 ?_
   refine y4 ?_;refine yM ?_;refine yW ?_;refine y3 ?_;refine yX ?_;refine aq ?_;refine yM ?_
   refine yM ?_;refine yW ?_;refine yM ?_;refine yF ?_;refine ah (fk (by exact rfl) (by exact rfl) (by omega)) ?_;refine ah (dD (by exact rfl) (by assumption) (by assumption)) ?_;refine yM ?_
   refine ah (MZ (by exact rfl) (by assumption)) ?_;refine yW ?_;refine ah (fk (by exact rfl) (by exact rfl) (by omega)) ?_
   refine ah (gV (by exact rfl) (by exact rfl) g3 kc kw) ?_
   refine ct ?_;refine y1 ?_;refine fF ?_;refine bH ?_;refine aq ?_;refine yM ?_;refine iI ?_;refine yM ?_;refine y3 ?_
   exact⟨8-(n+1),by omega,n+1, .inl (by omega),rfl,rfl,rfl,⟨xx.next,(Heap.aL (by omega)).trans xx.log,fun b hb=>(z5 (by omega)).trans (xx.old b hb),fun w=>(xx.wf w).as (AS.wr h.next _ _ _)⟩,(z5 (by omega)).trans g1,(z5 (by omega)).trans g2,Heap.aJ g3⟩
 ·have m3:aA .leq (.int .i64 ((a+n:Nat):Int)) (.int .i64 (c:Nat))=some (.bool false):=oZ (by omega)
  rw[show((a:Nat):Int).toNat=a by omega,show(((c:Nat):Int)-((a:Nat):Int)+1).toNat=n by omega]
  generalize kL s a z (8*y+x) n=o at*
  have ck:=dh hso.len
  have ckl:=bU hso.len
  have cko:=cF o
  have cks:(us o).length=8:=by rw[aG,hso.len]
  have ck0l:(us s0).length=8:=rfl
  refine an ?_;refine y4 ?_;refine yM ?_;refine yF ?_;refine yF ?_;refine yF ?_;refine ah (dD (by exact rfl) (by assumption) (by assumption)) ?_;refine yW ?_
  refine y3 ?_;refine yX ?_;refine dz ?_;refine ek ?_;refine ek ?_;refine iY ?_;refine bH ?_;refine y4 ?_;refine yV ?_
  refine ah (bQ (by exact rfl) (by exact rfl) (by assumption) (by assumption) (by assumption) (by exact cF _)) ?_;refine y3 ?_;refine aM ?_
  refine aD ?_ (cW (own:=true) (s:=1) (l:=us o) rfl ?_ ck ckl rfl) rfl
  ·rw[Heap.aL (by show h.next≤h.next+1;omega)];exact xx.log.trans hr.log
  ·(simp(disch:=first|omega|(simp only[z1,z2];omega))only[z3,z4,z5,z6,z7,z1,z2,gA,gB,gC,g1,g2,g3];done)
structure DT (T:Nat→Option af):Prop where
 p:bI T
 f188:T 79=some f188
 f254:T 127=some f254
def eR(s:List Nat):Nat:=(b9 s 512).length
set_option maxHeartbeats 4000000 in
theorem mU(F:DT T){h:Heap}(hr:Rdy h){s:List Nat}(hs:IsS s):Pu T 79 [sv s] h (.int .i64 ((eR s:Nat):Int)):=by
 refine .of F.p F.f188 hr rfl ?_
 have k8:=bU hs.len
 have k9:=dh hs.len
 have W:=hr.wf.push (.cells (cellsOf (sv s)) true 1)
 have hl5:=oQ s 512
 unfold eR
 refine y4 ?_;refine yB ?_;refine yM ?_;refine y3 ?_;refine y4 ?_;refine yM ?_;refine y3 ?_;refine an ?_;refine y4 ?_
 refine ah (dK (by exact rfl) (by(simp(disch:=first|omega|(simp only[z1,z2];omega))only[z3,z4,z5,z6,z7,z1,z2];exact rfl)) (by assumption) (by assumption)) ?_;refine yM ?_;refine y3 ?_;refine aO ?_
 refine dL (fun m e ds h'=>∃z:Nat,z≤8∧8-z=m∧e=[(3, .int .i64 (((b9 s (z*64)).length:Nat):Int)),(6,sv s),(7, .int .i64 (z:Nat))]∧ds=[]∧h.push (.cells (cellsOf (sv s)) true 1)=h')
  ⟨0,by omega,rfl,rfl,rfl,rfl⟩ ?_
 rintro m e ds h' ⟨z,hz8,rfl,rfl,rfl,rfl⟩
 by_cases hz:z<8
 ·have e1:bD (us s).toArray.toList (z*1)=some (.int .u64 ((s.getD z 0:Nat):Int)):=by
   rw[List.toList_toArray,Nat.mul_one,cG]
   unfold us
   rw[List.getElem?_map,kK (by rw[hs.len];exact hz)];rfl
  have C:=IK F.p F.f254 (.of W) (hs.lZ z)
  have hplane:=kU s hz
  have hle:=oQ s (z*64)
  have hpl:(pe s z).length=(bitsOf (s.getD z 0)).length:=by unfold pe;rw[List.length_map]
  have hb64:(bitsOf (s.getD z 0)).length≤64:=by
   unfold bitsOf
   exact Nat.le_trans (List.length_filter_le ..) (by simp)
  have m1:aA .add (.int .i64 (((b9 s (z*64)).length:Nat):Int)) (.int .i64 (((bitsOf (s.getD z 0)).length:Nat):Int))=some (.int .i64 (((b9 s ((z+1)*64)).length:Nat):Int)):=by
   rw[hplane,List.length_append,hpl]
   exact nk (by rw[cN (by omega) (by omega)];omega)
  generalize(bitsOf (s.getD z 0)).length=c3 at*
  refine y4 ?_;refine yt ?_;refine y3 ?_;refine an ?_;refine yY ?_;refine bA ?_;refine bH ?_;refine an ?_;refine aO ?_;refine y4 ?_;refine ah (D8 (by exact rfl) (by exact rfl) (by omega) (by assumption)) ?_;refine yM ?_;refine y3 ?_;refine aq ?_;refine yM ?_;refine yM ?_
  refine yC ?_
  refine FW.pu C ?_
  clear C
  refine yW ?_;refine yM ?_;refine ct ?_;refine y1 ?_;refine fF ?_;refine bH ?_;refine aq ?_;refine iI ?_
  refine yM ?_;refine y3 ?_
  exact⟨8-(z+1),by omega,z+1,by omega,rfl,rfl,rfl,rfl⟩
 ·obtain rfl:z=8:=by omega
  rw[show 8*64=512 from rfl]
  generalize(b9 s 512).length=c at*
  refine y4 ?_;refine yf ?_;refine y3 ?_;refine an ?_;refine yX ?_;refine dz ?_;refine ek ?_;refine ek ?_;refine iY ?_;refine bH ?_
  refine y4 ?_;refine yM ?_;refine yM ?_;refine y3 ?_;refine aM ?_
  exact aD hr.log rfl rfl
structure Fi where
 t:Nat
 x:Int
 y:Int
 z:Int
 s:List Nat
def moV(t x y z:Int):Value:= .agg #[.int .i64 t, .int .i64 x, .int .i64 y, .int .i64 z]
def fiV(f:Fi):List Value:=[moV f.t f.x f.y f.z,sv f.s]
def zrN(lo:Int)(n:Nat):List Int:=(List.range n).map fun i=>lo+(i:Nat)
theorem HS(lo:Int)(n:Nat):zrN lo (n+1)=zrN lo n++[lo+(n:Nat)]:=by unfold zrN;rw[List.range_succ,List.map_append];rfl
def zr(lo hi:Int):List Int:=zrN lo (hi-lo+1).toNat
def zJ(a p:List Nat)(bp:Bx)(t:Nat)(z y x:Int):List Fi:=if sIn (ni p bp x y z) a then [⟨t,x,y,z,ni p bp x y z⟩]else []
def vP(a p:List Nat)(ra bp:Bx)(t:Nat)(z y:Int):List Fi:=(zr (ra.lo.x-bp.lo.x) (ra.hi.x-bp.hi.x)).flatMap (zJ a p bp t z y)
def Ac(a p:List Nat)(ra bp:Bx)(t:Nat)(z:Int):List Fi:=(zr (ra.lo.y-bp.lo.y) (ra.hi.y-bp.hi.y)).flatMap (vP a p ra bp t z)
def KZ(a p:List Nat)(ra bp:Bx)(t:Nat):List Fi:=(zr (ra.lo.z-bp.lo.z) (ra.hi.z-bp.hi.z)).flatMap (Ac a p ra bp t)
def uv(a b:List Nat)(t:Nat):List Fi:=KZ a (kG b t) (j6 a).1 (j6 (kG b t)).1 t
def iK(a b:List Nat):List Fi:=if a=s0∨eR a<eR b then []else(List.range 24).flatMap (uv a b)
structure zP (b:Bx):Prop where
 lo:InB b.lo
 hi:InB b.hi
theorem Fx{a b:Int}(ha:0≤a∧a≤7)(hb:0≤b∧b≤7):0≤mi a b∧mi a b≤7:=by unfold mi;split<;>assumption
theorem FC{a b:Int}(ha:0≤a∧a≤7)(hb:0≤b∧b≤7):0≤mx a b∧mx a b≤7:=by unfold mx;split<;>assumption
theorem zP.up{b:Bx}(h:zP b){c:Ce}(hc:InB c):zP (xR b c):=
 ⟨⟨Fx h.lo.x hc.x,Fx h.lo.y hc.y,Fx h.lo.z hc.z⟩,⟨FC h.hi.x hc.x,FC h.hi.y hc.y,FC h.hi.z hc.z⟩⟩
theorem KP:∀{l:List Ce},(∀c∈l,InB c)→zP (bxS l):=by
 intro l
 have:∀(l:List Ce) (b:Bx),zP b→(∀c∈l,InB c)→zP (l.foldl xR b):=by
  intro l
  induction l with
  |nil=>intro b hb _;exact hb
  |cons c l ih=>intro b hb hl;exact ih _ (hb.up (hl c List.mem_cons_self)) fun x hx=>hl x (List.mem_cons_of_mem _ hx)
 exact fun hl=>this l bx0 ⟨⟨by decide,by decide,by decide⟩,⟨by decide,by decide,by decide⟩⟩ hl
theorem BE(s:List Nat):zP (j6 s).1:=by
 unfold j6
 split
 ·exact⟨⟨by decide,by decide,by decide⟩,⟨by decide,by decide,by decide⟩⟩
 ·exact KP fun c hc=>sC.1 (qz hc)
structure JZ (T:Nat→Option af):Prop where
 mp:xH T
 bd:JW T
 li:J6 T
 co:DT T
 f35:T 39=some f35
 f121:T 73=some f121
 f209:T 123=some f209
def r8:Bx:=⟨c0,c0⟩
theorem Ih{h:Heap}{e:Env}{x:Operand}{s:List Nat}(hs:IsS s)(hx:ev h e x=some (sv s)):iJ h e [.int .u64 0, .int .u64 0, .int .u64 0, .int .u64 0, .int .u64 0, .int .u64 0, .int .u64 0, .int .u64 0,I.O,I.O,I.O,I.O,I.O,I.O] [(0,8,x)]=some (psL s r8):=by
 have e1:cellsOf (sv s)=us s:=by show(us s).toArray.toList=_;simp
 have h0:psL s0 r8=[.int .u64 0, .int .u64 0, .int .u64 0, .int .u64 0, .int .u64 0, .int .u64 0, .int .u64 0, .int .u64 0,I.O,I.O,I.O,I.O,I.O,I.O]:=rfl
 have e2:cg (psL s0 r8) 0 (us s)=psL s r8:=by
  rw[gu (by rw[aG,hs.len];decide),aG,hs.len,List.take_zero]
  rfl
 have e3:bO (us s)=8:=by rw[bN,aG,hs.len]
 rw[←h0]
 have e4:(Nat.beq 8 8&&Nat.ble (0+8) (bO (psL s0 r8)))=true:=rfl
 simp only[iJ,hx,e1,e2,e3];rfl
theorem wF{s:List Nat}{b:Bx}(hs:IsS s):(psL s b).length=14:=by
 unfold psL
 rw[List.length_append,aG,hs.len];rfl
theorem IZ{s:List Nat}{b:Bx}(hs:IsS s):bT 14 (bS 0 (psL s b))=psL s b:=by rw[dy,cK,List.drop_zero,List.take_of_length_le (by rw[wF hs];omega)]
theorem Gt{s:List Nat}{b:Bx}(hs:IsS s):Nat.beq (bO (psL s b)) 14=true:=by rw[bN,wF hs];rfl
theorem Gu{s:List Nat}{b:Bx}:dG (psL s b)=true:=iz (cF _) rfl
theorem Oa{s:List Nat}{b:Bx}(hs:IsS s):bT 8 (bS (0+0) (psL s b))=us s:=by
 rw[dy,cK,Nat.zero_add,List.drop_zero]
 unfold psL
 rw[List.take_append_of_le_length (by rw[aG,hs.len];omega),List.take_of_length_le (by rw[aG,hs.len];omega)]
theorem LZ{s:List Nat}{b b':Bx}(hs:IsS s):cg (psL s b) (0+8) (cellsOf (bxV b'))=psL s b':=by
 show cg (psL s b) 8 (bxL b')=_
 unfold psL
 rw[gu (by rw[List.length_append,aG,hs.len];exact Nat.le_refl _),List.take_append_of_le_length (by rw[aG,hs.len];omega),List.take_of_length_le (by rw[aG,hs.len];omega),List.drop_of_length_le (by rw[List.length_append,aG,hs.len];exact Nat.le_refl _)]
 simp
theorem LW{s:List Nat}{b:Bx}(hs:IsS s):bT 3 (bS (0+8+0) (psL s b))=ceL b.lo:=by
 rw[dy,cK]
 unfold psL
 rw[show 0+8+0=(us s).length by rw[aG,hs.len],List.drop_left];rfl
theorem LV{s:List Nat}{b:Bx}(hs:IsS s):bT 3 (bS (0+8+3) (psL s b))=ceL b.hi:=by
 rw[dy,cK]
 unfold psL
 rw[List.drop_append,aG,hs.len,List.drop_of_length_le (by rw[aG,hs.len];omega)];rfl
structure FxK (P:List Fi→Heap→Prop) (lo:Nat) (h0:Heap) (q:Nat) (rm bp:Bx) (p:List Nat) (D:List Fi) (g:Heap):Prop where
 k:Lk lo h0 g
 pd:P D g
 nx:q+2<g.next
 g4:g.get h0.next=some (.cells (bxL rm) true 1)
 g7:g.get q=some (.cells (psL p bp) true 1)
 g8:g.get (q+1)=some (.cells (ceL bp.lo) true 1)
 g9:g.get (q+2)=some (.cells (ceL bp.hi) true 1)
theorem FxK.ext{P:List Fi→Heap→Prop}{lo:Nat}{h0:Heap}{q:Nat}{rm bp:Bx}{p:List Nat}{D:List Fi}{g g':Heap}(f:FxK P lo h0 q rm bp p D g)(x:Ext g g')(hlo:lo≤g.next)(hq:h0.next<q)(hP:P D g'):FxK P lo h0 q rm bp p D g':=by
 have h1:=x.next
 have h2:=f.nx
 exact⟨f.k.trans (x.lk hlo),hP,by omega,(x.old _ (by omega)).trans f.g4,(x.old _ (by omega)).trans f.g7,(x.old _ (by omega)).trans f.g8,(x.old _ (by omega)).trans f.g9⟩
theorem FxK.step{P:List Fi→Heap→Prop}{lo N:Nat}{h0:Heap}{q:Nat}{rm bp:Bx}{p:List Nat}{D D':List Fi}{g g':Heap}(f:FxK P lo h0 q rm bp p D g)(x:Lk lo g g')(hk:∀z,N≤z→z<g.next→g'.get z=g.get z)(hq:h0.next<q)(hN:N≤h0.next)(hP:P D' g'):FxK P lo h0 q rm bp p D' g':=by
 have h1:=x.next
 have h2:=f.nx
 exact⟨f.k.trans x,hP,by omega,(hk _ (by omega) (by omega)).trans f.g4,(hk _ (by omega) (by omega)).trans f.g7,(hk _ (by omega) (by omega)).trans f.g8,(hk _ (by omega) (by omega)).trans f.g9⟩
theorem Bp{lo hi z:Int}{n:Nat}(h:z=lo+(n:Nat))(hz:z≤hi):z∈zr lo hi:=List.mem_map.2 ⟨n,List.mem_range.2 (by omega),h.symm⟩
theorem uo{α:Type}(lo:Int)(n:Nat)(f:Int→List α){z:Int}(h:z=lo+(n:Nat)):(zrN lo (n+1)).flatMap f=(zrN lo n).flatMap f++f z:=by
 rw[HS,List.flatMap_append,h];simp
theorem wT{lo hi:Int}{n:Nat}(h1:n=0∨lo+(n:Nat)≤hi+1)(h2:hi<lo+(n:Nat)):n=(hi-lo+1).toNat:=by omega
set_option maxHeartbeats 32000000 in
theorem Ik(F:JZ T){h:Heap}(hr:Rdy h){px:br}{qa qb l N lo:Nat}{a b:List Nat}(ha:IsS a)(hb:IsS b){P:List Fi→Heap→Prop}{S:Heap→Prop}(hN:N≤h.next)(hlo:lo≤h.next)(hlN:l<N)(h2N:0<N)
 (Y:HT px T lo N l fiV (iK a b) P S)
 (ga:∀d H,P d H→H.get qa=some (.cells (us a) true 1))(gb:∀d H,P d H→H.get qb=some (.cells (us b) true 1))(htab:∀d H,P d H→Tab H)(h0:P [] h):
 GrX T 123 [.func (.yield l) #[] #[], .pointer (some ⟨qa,0,none⟩), .pointer (some ⟨qb,0,none⟩)] h lo (P (iK a b)) S:=by
 have hp:=F.li.p
 have ka8:=bU ha.len
 have ka9:=dh ha.len
 have kb8:=bU hb.len
 have kb9:=dh hb.len
 have hlb:l<h.next:=by omega
 refine GrX.ofM (l:=l) hp F.f209 hlo hlb (fun h1 h2 hn he q=>Y.eZ _ _ _ q (Nat.le_trans hN hn) fun x hx=>he x (by omega)) Y.vm ?_
 have C0:=uM F.bd (h:={h with log:=[]}) (.of hr.wf) (show Tab h from htab _ _ h0) (by show 0<h.next;omega) ha
 have gA:=ga _ _ h0
 unfold KM at C0
 have hsome:(j6 a).2= !decide (a=s0):=by
  unfold j6
  by_cases he:a=s0
  ·rw[if_pos he,decide_eq_true he];rfl
  ·rw[if_neg he,decide_eq_false he];rfl
 have hrm:=BE a
 have hft:∀t,uv a b t=KZ a (kG b t) (j6 a).1 (j6 (kG b t)).1 t:=fun _=>rfl
 rw[hsome]at C0
 generalize(j6 a).1=rm at*
 refine cH (E0:=[(0, .func (.yield l) #[] #[]),(1, .pointer (some ⟨qa,0,none⟩)),(2, .pointer (some ⟨qb,0,none⟩)),(4, .pointer (some ⟨h.next,0,none⟩)),(5, .bool (!decide (a=s0)))]) (P:=fun h'=>Ext h h'∧h'.next=h.next+1∧h'.get h.next=some (.cells (bxL rm) true 1)) ?_ ?_
 ·refine aq ?_;refine yV ?_
  refine yC ?_
  refine FW.pu C0 ?_
  refine yM ?_;refine yE ?_;refine yE ?_;refine ah (cZ) ?_
  refine yS ?_;refine yM ?_;refine ct ?_
  refine y1 ?_
  exact⟨rfl,rfl,rfl,ff (by omega) _ _,rfl,fE _ _⟩
 clear C0
 rintro H1 ⟨x1,n1,q1⟩
 have W1:=x1.wf hr.wf
 have hL1:=x1.log.trans hr.log
 have hk1:Lk lo h H1:=⟨x1.next,fun hh=>by rw[hL1];exact fH.nil _,fun z hz=>x1.old z (by omega),x1.wf⟩
 have hP1:P [] H1:=Y.eZ _ _ _ h0 (by omega) fun x hx=>x1.old x (by omega)
 have gA1:=ga _ _ hP1
 have gB1:=gb _ _ hP1
 clear gA
 by_cases he:a=s0
 ·have hf:iK a b=[]:=if_pos (.inl he)
  rw[hf,decide_eq_true he]
  refine an ?_;refine an ?_;refine dn ?_;refine qM ?_;refine aF rfl rfl rfl (by exact rfl) (by exact rfl) (by exact rfl) (rI (by exact rfl)) ?_;refine qM ?_;refine qO ?_
  refine qO ?_;refine qO ?_;refine qO ?_;refine qO ?_;refine aF rfl rfl rfl (by exact rfl) (by exact rfl) (by exact rfl) (iR (by exact rfl) (by exact rfl)) ?_;refine dH ?_
  refine y1 ?_;refine bH ?_;refine yY ?_;refine aM ?_;refine dZ ?_
  exact⟨⟨.inr rfl,rfl,hk1.log (by rw[hr.log];exact fH.nil _),⟨_,rfl⟩, .inl hP1⟩⟩
 rw[decide_eq_false he]
 have C1:=mU F.co (h:={H1 with log:=[]}) (.of W1) hb
 have C2:=mU F.co (h:={H1 with log:=[]}) (.of W1) ha
 by_cases hcn:eR a<eR b
 ·have hf:iK a b=[]:=if_pos (.inr hcn)
  rw[hf]
  have m1:aA .gtr (.int .i64 ((eR b:Nat):Int)) (.int .i64 ((eR a:Nat):Int))=some (.bool true):=mg (by omega)
  refine an ?_;refine an ?_;refine dn ?_;refine qM ?_;refine aF rfl rfl rfl (by exact rfl) (by exact rfl) (by exact rfl) (rI (by exact rfl)) ?_;refine qM ?_
  refine qV ?_;refine qV ?_
  refine qC ?_
  refine FW.puD C1 (by apply aN rfl (aI rfl (dK (by exact rfl) (by assumption) (by assumption) (by assumption)) (by exact Cg _)) rfl;(repeat apply aT rfl);exact cO) ?_
  skip
  refine qC ?_
  refine FW.puD C2 (by apply aT rfl;exact cO) ?_
  refine qW ?_;refine aF rfl rfl rfl (by exact rfl) (by exact rfl) (by exact rfl) (iQ (by exact rfl) (by exact rfl)) ?_;refine dH ?_;refine y1 ?_;refine bH ?_
  refine yY ?_;refine aM ?_;refine dZ ?_
  exact⟨⟨.inr rfl,rfl,hk1.log (by rw[hr.log];exact fH.nil _),⟨_,rfl⟩, .inl hP1⟩⟩
 have hf:iK a b=(List.range 24).flatMap (uv a b):=if_neg (fun q=>q.elim he hcn)
 have m1:aA .gtr (.int .i64 ((eR b:Nat):Int)) (.int .i64 ((eR a:Nat):Int))=some (.bool false):=mb (by omega)
 refine an ?_;refine an ?_;refine dn ?_;refine qM ?_;refine aF rfl rfl rfl (by exact rfl) (by exact rfl) (by exact rfl) (rI (by exact rfl)) ?_;refine qM ?_
 refine qV ?_;refine qV ?_
 refine qC ?_
 refine FW.puD C1 (by apply aN rfl (aI rfl (dK (by exact rfl) (by assumption) (by assumption) (by assumption)) (by exact Cg _)) rfl;(repeat apply aT rfl);exact cO) ?_
 skip
 refine qC ?_
 refine FW.puD C2 (by apply aT rfl;exact cO) ?_
 clear C1 C2
 refine qW ?_;refine aF rfl rfl rfl (by exact rfl) (by exact rfl) (by exact rfl) (iQ (by exact rfl) (by exact rfl)) ?_;refine dH ?_;refine y1 ?_;refine bH ?_
 refine yX ?_;refine bA ?_;refine bH ?_;refine y4 ?_;refine yM ?_;refine y3 ?_;refine aO ?_
 refine dL (fun k e ds h'=>∃t:Nat,t≤24∧24-t=k∧e=[(0, .func (.yield l) #[] #[]),(1, .pointer (some ⟨qa,0,none⟩)),(2, .pointer (some ⟨qb,0,none⟩)),(4, .pointer (some ⟨h.next,0,none⟩)),(28, .int .i64 (t:Nat))]∧ds=[]∧Lk lo h h'∧P ((List.range t).flatMap (uv a b)) h'∧h.next<h'.next∧h'.get h.next=some (.cells (bxL rm) true 1))
  ⟨0,Nat.zero_le _,rfl,rfl,rfl,hk1,hP1,by omega,q1⟩ ?_
 clear hP1 gA1 gB1 q1 hk1 W1 hL1 x1 n1
 rintro k e ds G ⟨t,ht24,rfl,rfl,rfl,hk,hP,hnx,g4⟩
 have WG:=hk.wf hr.wf
 by_cases ht:t<24
 ·have hps:=ug b t
  have hbp:=BE (kG b t)
  have D1:=Jr F.mp (h:={G with log:=[]}) (.of WG) (show Tab G from htab _ _ hP) (by show 0<G.next;omega) hb ht
  have gB:=gb _ _ hP
  have hT:(List.range (t+1)).flatMap (uv a b)=(List.range t).flatMap (uv a b)++uv a b t:=by rw[List.range_succ,List.flatMap_append];simp
  have hmem:∀f∈uv a b t,f∈iK a b:=fun f hf'=>by
   rw[hf];exact List.mem_flatMap.2 ⟨t,List.mem_range.2 ht,hf'⟩
  rw[hft t]at hT hmem
  generalize(List.range t).flatMap (uv a b)=D at*
  generalize hbb:j6 (kG b t)=bb at*
  generalize kG b t=p at*
  obtain⟨bp,some'⟩:=bb
  dsimp only at hbp hT hmem
  have kp8:=bU hps.len
  have lo14:=wF (b:=r8) hps
  have lo14o:=Gu (s:=p) (b:=r8)
  refine y4 ?_;refine yt ?_;refine y3 ?_;refine an ?_;refine yY ?_;refine bA ?_;refine bH ?_;refine an ?_;refine aO ?_;refine y4 ?_;refine yM ?_;refine yM ?_;refine y3 ?_
  refine cH (E0:=[(0, .func (.yield l) #[] #[]),(1, .pointer (some ⟨qa,0,none⟩)),(2, .pointer (some ⟨qb,0,none⟩)),(4, .pointer (some ⟨h.next,0,none⟩)),(6, .int .i64 (t:Nat)),(7, .pointer (some ⟨G.next,0,none⟩)),(28, .int .i64 (t:Nat))]) (P:=fun h'=>Ext G h'∧h'.next=G.next+1∧h'.get G.next=some (.cells (psL p r8) true 1)) ?_ ?_
  ·refine aq ?_;refine yV ?_;refine yM ?_
   refine yC ?_
   refine FW.pu D1 ?_
   skip
   refine ah (dS (Ih hps (by exact rfl))) ?_
   refine ah (cZ) ?_;refine ah (bQ (by exact rfl) (by exact rfl) (by(simp(disch:=first|omega|(simp only[z1,z2];omega))only[z3,z4,z5,z6,z7,z1,z2,g4,gB];exact rfl)) (by assumption) (by exact rfl) (by assumption)) ?_;refine ct ?_
   refine y1 ?_
   exact⟨rfl,rfl,rfl,ff (by omega) _ _,rfl,fE _ _⟩
  clear D1
  rintro G1 ⟨x1,n1,q1⟩
  have WG1:=x1.wf WG
  have hP1:P D G1:=Y.eZ _ _ _ hP (by omega) fun x hx=>x1.old x (by omega)
  have D2:=uM F.bd (h:={G1 with log:=[]}) (.of WG1) (show Tab G1 from htab _ _ hP1) (by show 0<G1.next;omega) hps
  rw[hbb]at D2
  unfold KM at D2
  dsimp only at D2
  have ks:=Oa (b:=r8) hps
  have ku:=LZ (b:=r8) (b':=bp) hps
  have kuc:(Nat.beq (bO (cellsOf (bxV bp))) 6&&Nat.ble (0+8+6) (bO (psL p r8))&&dG (cellsOf (bxV bp)))=true:=by
   rw[bN (psL p r8),lo14];rfl
  refine cH (E0:=[(0, .func (.yield l) #[] #[]),(1, .pointer (some ⟨qa,0,none⟩)),(2, .pointer (some ⟨qb,0,none⟩)),(4, .pointer (some ⟨h.next,0,none⟩)),(6, .int .i64 (t:Nat)),(7, .pointer (some ⟨G.next,0,none⟩)),(28, .int .i64 (t:Nat))]) (P:=fun h'=>Ext G h'∧h'.next=G.next+1∧h'.get G.next=some (.cells (psL p bp) true 1)) ?_ ?_
  ·refine aq ?_;refine yF ?_;refine yV ?_
   refine yC ?_
   refine FW.pu D2 ?_
   refine yM ?_;refine yE ?_;refine yE ?_;refine yF ?_
   refine ah (gV (by exact rfl) (by exact rfl) q1 kuc ku) ?_
   refine ct ?_;refine y1 ?_
   exact⟨rfl,rfl,rfl,⟨x1.next,(Heap.aL (by omega)).trans x1.log,fun b hb=>(z5 (by omega)).trans (x1.old b hb),fun w=>(x1.wf w).as (AS.wr h.next _ _ _)⟩,n1,Heap.aJ q1⟩
  clear D2 q1 hP1 WG1 n1 x1
  rintro G2 ⟨x2,n2,q2⟩
  have kl:=LW (b:=bp) hps
  have kh:=LV (b:=bp) hps
  have cl:Nat.beq (bO (ceL bp.lo)) 3=true:=rfl
  have ch:Nat.beq (bO (ceL bp.hi)) 3=true:=rfl
  refine cH (E0:=[(0, .func (.yield l) #[] #[]),(1, .pointer (some ⟨qa,0,none⟩)),(2, .pointer (some ⟨qb,0,none⟩)),(4, .pointer (some ⟨h.next,0,none⟩)),(6, .int .i64 (t:Nat)),(7, .pointer (some ⟨G.next,0,none⟩)),(8, .pointer (some ⟨G2.next,0,none⟩)),(9, .pointer (some ⟨G2.next+1,0,none⟩)),(28, .int .i64 (t:Nat))]) (P:=fun h'=>Ext G h'∧h'.next=G2.next+2∧h'.get G.next=some (.cells (psL p bp) true 1)∧h'.get G2.next=some (.cells (ceL bp.lo) true 1)∧h'.get (G2.next+1)=some (.cells (ceL bp.hi) true 1)) ?_ ?_
  ·refine dn ?_;refine qF ?_;refine qF ?_;refine aF rfl rfl rfl (by exact rfl) (by exact rfl) (by exact rfl) (dK (by exact rfl) (by assumption) (by assumption) (by exact rfl)) ?_
   refine qF ?_;refine qF ?_;refine aF rfl rfl rfl (by exact rfl) (by exact rfl) (by exact rfl) (dK (by exact rfl) (by assumption) (by assumption) (by exact rfl)) ?_
   refine HB rfl rfl rfl (by exact rfl) (by exact rfl) (by exact rfl) cZ (by refine gZ (aI rfl (dK (by exact rfl) (by(simp(disch:=first|omega|(simp only[z1,z2];omega))only[z3,z4,z5,z6,z7,z1,z2,g4,gB,q2];exact rfl)) (by assumption) (by exact rfl)) (by refine ry ?_;refine fJ (iq _ _) ?_;refine fJ (iq _ _) ?_;exact fJ (iq _ _) (by assumption))) ?_;refine gZ (aI rfl (dV (by exact rfl)) (by exact dB _)) ?_;refine gZ (aI rfl (dV (by exact rfl)) (by exact dB _)) ?_;refine gZ (aI rfl (dK (by exact rfl) (by(simp(disch:=first|omega|(simp only[z1,z2];omega))only[z3,z4,z5,z6,z7,z1,z2,g4,gB,q2];exact rfl)) (by assumption) (by exact rfl)) (by refine ry ?_;refine fJ (iq _ _) ?_;refine fJ (iq _ _) ?_;exact fJ (iq _ _) (by assumption))) ?_;refine gZ (aI rfl (dV (by exact rfl)) (by exact dB _)) ?_;refine gZ (aI rfl (dV (by exact rfl)) (by exact dB _)) ?_;exact GY) ?_
   refine HB rfl rfl rfl (by exact rfl) (by exact rfl) (by exact rfl) cZ (by refine gZ (Jm rfl) ?_;refine gZ (aI rfl (dK (by exact rfl) (by(simp(disch:=first|omega|(simp only[z1,z2];omega))only[z3,z4,z5,z6,z7,z1,z2,g4,gB,q2];exact rfl)) (by assumption) (by exact rfl)) (by refine ry ?_;refine fJ (iq _ _) ?_;refine fJ (iq _ _) ?_;exact fJ (iq _ _) (by assumption))) ?_;refine gZ (aI rfl (dV (by exact rfl)) (by exact dB _)) ?_;refine gZ (aI rfl (dV (by exact rfl)) (by exact dB _)) ?_;refine gZ (aI rfl (dK (by exact rfl) (by(simp(disch:=first|omega|(simp only[z1,z2];omega))only[z3,z4,z5,z6,z7,z1,z2,g4,gB,q2];exact rfl)) (by assumption) (by exact rfl)) (by refine ry ?_;refine fJ (iq _ _) ?_;refine fJ (iq _ _) ?_;exact fJ (iq _ _) (by assumption))) ?_;refine gZ (aI rfl (dV (by exact rfl)) (by exact dB _)) ?_;refine gZ (aI rfl (dV (by exact rfl)) (by exact dB _)) ?_;exact GY) ?_
   refine nQ rfl rfl rfl (by exact rfl) (by exact rfl) (by exact rfl) (by(simp(disch:=first|omega|(simp only[z1,z2];omega))only[z3,z4,z5,z6,z7,z1,z2,g4,gB,q2];exact rfl)) (by exact rfl) (by exact rfl) (by(simp only[z1,z2];omega)) (by omega) (by(repeat apply aT rfl);apply aN rfl (aI rfl (dK (by exact rfl) (by(simp(disch:=first|omega|(simp only[z1,z2];omega))only[z3,z4,z5,z6,z7,z1,z2,g4,gB,q2];exact rfl)) (by assumption) (by exact rfl)) (by refine ry ?_;refine fJ (iq _ _) ?_;refine fJ (iq _ _) ?_;exact fJ (iq _ _) (by assumption))) rfl;apply aN rfl (aI rfl (dV (by exact rfl)) (by exact dB _)) rfl;apply aN rfl (aI rfl (dV (by exact rfl)) (by exact dB _)) rfl;(repeat apply aT rfl);exact cO) ?_
   refine nQ rfl rfl rfl (by exact rfl) (by exact rfl) (by exact rfl) (by(simp(disch:=first|omega|(simp only[z1,z2];omega)|(simp only[z1,z2];done)|fail)only[Go.A.z8,z4,z5,z9,z7,z1,z2,g4,gB,q2];exact rfl)) (by exact rfl) (by exact rfl) (by(simp only[z1,z2];omega)) (by(simp only[z1,z2];omega)) (by(repeat apply aT rfl);exact cO) ?_
   refine dH ?_;refine y1 ?_
   refine⟨rfl,rfl,rfl,⟨by show G.next≤G2.next+2;omega,by rw[Heap.aL (by show h.next≤G2.next+1;omega),Heap.aL (by omega)];exact x2.log,fun b hb=>by
    rw[z5 (by show b≠G2.next+1;omega),z5 (by omega),z4 (by show b<G2.next+1;omega),z4 (by omega)];exact x2.old b hb,fun w=>((((x2.wf w).push _).push _).as (AS.wr _ _ _ _)).as (AS.wr _ _ _ _)⟩,rfl,?_,?_,?_⟩
   ·(simp(disch:=first|omega|(simp only[z1,z2];omega))only[z3,z4,z5,z6,z7,z1,z2,g4,gB,q2];done)
   ·(simp(disch:=first|omega|(simp only[z1,z2];omega))only[z3,z4,z5,z6,z7,z1,z2,g4,gB,q2];exact rfl)
   ·(simp(disch:=first|omega|(simp only[z1,z2];omega)|(simp only[z1,z2];done)|fail)only[Go.A.z8,z4,z5,z9,z7,z1,z2,g4,gB,q2];exact rfl)
  rintro G3 ⟨x3,n3,q3,q8,q9⟩
  rw[n2]at n3 q8 q9⊢
  have hk3:Lk lo h G3:=hk.trans (x3.lk (by have:=hk.next;omega))
  have hP3:P D G3:=Y.eZ _ _ _ hP (by omega) fun x hx=>x3.old x (by omega)
  have FX:FxK P lo h G.next rm bp p D G3:=⟨hk3,hP3,by omega,(x3.old _ hnx).trans g4,q3,q8,q9⟩
  have hqN:N≤G.next:=by have:=hk.next;omega
  have hqh:h.next<G.next:=hnx
  clear q2 x2 n2 q3 q8 q9 hk3 hP3 x3 n3 g4 hnx hP hk gB ks ku kuc kp8 lo14 lo14o kl kh cl ch WG
  generalize G.next=q at*
  have hx1:=hrm.lo.x
  have hx2:=hrm.hi.x
  have hy1:=hrm.lo.y
  have hy2:=hrm.hi.y
  have hz1:=hrm.lo.z
  have hz2:=hrm.hi.z
  have px1:=hbp.lo.x
  have px2:=hbp.hi.x
  have py1:=hbp.lo.y
  have py2:=hbp.hi.y
  have pz1:=hbp.lo.z
  have pz2:=hbp.hi.z
  have sz1:aA .sub (.int .i64 rm.lo.z) (.int .i64 bp.lo.z)=some (.int .i64 (rm.lo.z-bp.lo.z)):=nr (cN (by omega) (by omega))
  have sz2:aA .sub (.int .i64 rm.hi.z) (.int .i64 bp.hi.z)=some (.int .i64 (rm.hi.z-bp.hi.z)):=nr (cN (by omega) (by omega))
  have sy1:aA .sub (.int .i64 rm.lo.y) (.int .i64 bp.lo.y)=some (.int .i64 (rm.lo.y-bp.lo.y)):=nr (cN (by omega) (by omega))
  have sy2:aA .sub (.int .i64 rm.hi.y) (.int .i64 bp.hi.y)=some (.int .i64 (rm.hi.y-bp.hi.y)):=nr (cN (by omega) (by omega))
  have sx1:aA .sub (.int .i64 rm.lo.x) (.int .i64 bp.lo.x)=some (.int .i64 (rm.lo.x-bp.lo.x)):=nr (cN (by omega) (by omega))
  have sx2:aA .sub (.int .i64 rm.hi.x) (.int .i64 bp.hi.x)=some (.int .i64 (rm.hi.x-bp.hi.x)):=nr (cN (by omega) (by omega))
  have q4:=FX.g4
  have q8:=FX.g8
  refine y4 ?_;refine yF ?_;refine yF ?_;refine yL ?_;refine yF ?_;refine yL ?_;refine yW ?_
  refine yM ?_;refine y3 ?_;refine aO ?_
  refine dL (fun k e ds h'=>∃(n:Nat) (z:Int),z=rm.lo.z-bp.lo.z+(n:Nat)∧(n=0∨z≤rm.hi.z-bp.hi.z+1)∧16-n=k∧e=[(0, .func (.yield l) #[] #[]),(1, .pointer (some ⟨qa,0,none⟩)),(2, .pointer (some ⟨qb,0,none⟩)),(4, .pointer (some ⟨h.next,0,none⟩)),(6, .int .i64 (t:Nat)),(7, .pointer (some ⟨q,0,none⟩)),(8, .pointer (some ⟨q+1,0,none⟩)),(9, .pointer (some ⟨q+1+1,0,none⟩)),(10, .int .i64 z),(28, .int .i64 (t:Nat))]∧ds=[]∧FxK P lo h q rm bp p (D++(zrN (rm.lo.z-bp.lo.z) n).flatMap (Ac a p rm bp t)) h')
   ⟨0,_,by simp, .inl rfl,rfl,rfl,rfl,by rw[show zrN (rm.lo.z-bp.lo.z) 0=[]from rfl,List.flatMap_nil,List.append_nil];exact FX⟩ ?_
  clear FX q4 q8
  rintro k e ds G ⟨n,z,hz,hn,rfl,rfl,rfl,FX⟩
  have hn16:n<16:=by omega
  by_cases hle:z≤rm.hi.z-bp.hi.z
  ·have lz:aA .leq (.int .i64 z) (.int .i64 (rm.hi.z-bp.hi.z))=some (.bool true):=mh hle
   have az:aA .add (.int .i64 z) (.int .i64 1)=some (.int .i64 (z+1)):=nk (cN (by omega) (by omega))
   have mz:=Bp hz hle
   have fz:=uo (rm.lo.z-bp.lo.z) n (Ac a p rm bp t) hz
   have hfy:Ac a p rm bp t z=(zr (rm.lo.y-bp.lo.y) (rm.hi.y-bp.hi.y)).flatMap (vP a p rm bp t z):=rfl
   have q4:=FX.g4
   have q8:=FX.g8
   have q9:=FX.g9
   generalize hDz:D++(zrN (rm.lo.z-bp.lo.z) n).flatMap (Ac a p rm bp t)=Dz at*
   refine an ?_;refine y4 ?_;refine yM ?_;refine yF ?_;refine yF ?_;refine yL ?_;refine yF ?_;refine yL ?_
   refine yW ?_;refine yW ?_;refine y3 ?_;refine yY ?_;refine bA ?_;refine bH ?_;refine an ?_
   refine aO ?_;refine y4 ?_;refine yF ?_;refine yF ?_;refine yL ?_;refine yF ?_;refine yL ?_
   refine yW ?_;refine yM ?_;refine y3 ?_;refine aO ?_
   refine dL (fun k e ds h'=>∃(j:Nat) (y:Int),y=rm.lo.y-bp.lo.y+(j:Nat)∧(j=0∨y≤rm.hi.y-bp.hi.y+1)∧16-j=k∧e=[(0, .func (.yield l) #[] #[]),(1, .pointer (some ⟨qa,0,none⟩)),(2, .pointer (some ⟨qb,0,none⟩)),(4, .pointer (some ⟨h.next,0,none⟩)),(6, .int .i64 (t:Nat)),(7, .pointer (some ⟨q,0,none⟩)),(8, .pointer (some ⟨q+1,0,none⟩)),(9, .pointer (some ⟨q+1+1,0,none⟩)),(10, .int .i64 z),(11, .int .i64 y),(28, .int .i64 (t:Nat))]∧ds=[]∧FxK P lo h q rm bp p (Dz++(zrN (rm.lo.y-bp.lo.y) j).flatMap (vP a p rm bp t z)) h')
    ⟨0,_,by simp, .inl rfl,rfl,rfl,rfl,by rw[show zrN (rm.lo.y-bp.lo.y) 0=[]from rfl,List.flatMap_nil,List.append_nil];exact FX⟩ ?_
   clear FX q4 q8 q9
   rintro k e ds G ⟨j,y,hy,hj,rfl,rfl,rfl,FX⟩
   have hj16:j<16:=by omega
   have q4:=FX.g4
   have q8:=FX.g8
   have q9:=FX.g9
   by_cases hley:y≤rm.hi.y-bp.hi.y
   ·have ly:aA .leq (.int .i64 y) (.int .i64 (rm.hi.y-bp.hi.y))=some (.bool true):=mh hley
    have ay:aA .add (.int .i64 y) (.int .i64 1)=some (.int .i64 (y+1)):=nk (cN (by omega) (by omega))
    have my:=Bp hy hley
    have fy:=uo (rm.lo.y-bp.lo.y) j (vP a p rm bp t z) hy
    have hfx:vP a p rm bp t z y=(zr (rm.lo.x-bp.lo.x) (rm.hi.x-bp.hi.x)).flatMap (zJ a p bp t z y):=rfl
    generalize hDy:Dz++(zrN (rm.lo.y-bp.lo.y) j).flatMap (vP a p rm bp t z)=Dy at*
    refine an ?_;refine y4 ?_;refine yM ?_;refine yF ?_;refine yF ?_;refine yL ?_;refine yF ?_;refine yL ?_
    refine yW ?_;refine yW ?_;refine y3 ?_;refine yY ?_;refine bA ?_;refine bH ?_;refine an ?_
    refine aO ?_;refine y4 ?_;refine yF ?_;refine yF ?_;refine yL ?_;refine yF ?_;refine yL ?_
    refine yW ?_;refine yM ?_;refine y3 ?_;refine aO ?_
    refine dL (fun k e ds h'=>∃(i:Nat) (x:Int),x=rm.lo.x-bp.lo.x+(i:Nat)∧(i=0∨x≤rm.hi.x-bp.hi.x+1)∧16-i=k∧e=[(0, .func (.yield l) #[] #[]),(1, .pointer (some ⟨qa,0,none⟩)),(2, .pointer (some ⟨qb,0,none⟩)),(4, .pointer (some ⟨h.next,0,none⟩)),(6, .int .i64 (t:Nat)),(7, .pointer (some ⟨q,0,none⟩)),(8, .pointer (some ⟨q+1,0,none⟩)),(9, .pointer (some ⟨q+1+1,0,none⟩)),(10, .int .i64 z),(11, .int .i64 y),(12, .int .i64 x),(28, .int .i64 (t:Nat))]∧ds=[]∧FxK P lo h q rm bp p (Dy++(zrN (rm.lo.x-bp.lo.x) i).flatMap (zJ a p bp t z y)) h')
     ⟨0,_,by simp, .inl rfl,rfl,rfl,rfl,by rw[show zrN (rm.lo.x-bp.lo.x) 0=[]from rfl,List.flatMap_nil,List.append_nil];exact FX⟩ ?_
    clear FX q4 q8 q9
    rintro k e ds G ⟨i,x,hx,hi,rfl,rfl,rfl,FX⟩
    have hi16:i<16:=by omega
    have q4:=FX.g4
    have q9:=FX.g9
    by_cases hlex:x≤rm.hi.x-bp.hi.x
    ·have lx:aA .leq (.int .i64 x) (.int .i64 (rm.hi.x-bp.hi.x))=some (.bool true):=mh hlex
     have ax:aA .add (.int .i64 x) (.int .i64 1)=some (.int .i64 (x+1)):=nk (cN (by omega) (by omega))
     have mx':=Bp hx hlex
     have fx:=uo (rm.lo.x-bp.lo.x) i (zJ a p bp t z y) hx
     have WG:=FX.k.wf hr.wf
     have hnG:=FX.k.next
     have hnq:=FX.nx
     have q7:=FX.g7
     have ka:=IZ (b:=bp) hps
     have kl:=Gt (b:=bp) hps
     have C3:=CI F.li (h:={G with log:=[]}) (.of WG) hps (b:=bp) (x:=x) (y:=y) (z:=z) (by omega) (by omega) (by omega) pz1 pz2 (by omega) (by omega)
     have hls:IsS (ni p bp x y z):=pW hps _ _ _ _
     have htry:zJ a p bp t z y x=if sIn (ni p bp x y z) a then [⟨t,x,y,z,ni p bp x y z⟩]else []:=rfl
     have hmm:sIn (ni p bp x y z) a=true→(⟨t,x,y,z,ni p bp x y z⟩:Fi)∈iK a b:=fun hin=>by
      refine hmem _ (List.mem_flatMap.2 ⟨z,mz,List.mem_flatMap.2 ⟨y,my,List.mem_flatMap.2 ⟨x,mx',?_⟩⟩⟩)
      rw[htry,if_pos hin];exact List.mem_singleton.2 rfl
     generalize hDx:Dy++(zrN (rm.lo.x-bp.lo.x) i).flatMap (zJ a p bp t z y)=Dx at*
     generalize ni p bp x y z=ls at*
     have kls:=dh hls.len
     have kll:=bU hls.len
     have klo:=cF ls
     have klen:(us ls).length=8:=by rw[aG,hls.len]
     refine an ?_;refine y4 ?_;refine yM ?_;refine yF ?_;refine yF ?_;refine yL ?_;refine yF ?_;refine yL ?_
     refine yW ?_;refine yW ?_;refine y3 ?_;refine yY ?_;refine bA ?_;refine bH ?_;refine an ?_
     refine aO ?_
     refine cH (E0:=[(0, .func (.yield l) #[] #[]),(1, .pointer (some ⟨qa,0,none⟩)),(2, .pointer (some ⟨qb,0,none⟩)),(4, .pointer (some ⟨h.next,0,none⟩)),(6, .int .i64 (t:Nat)),(7, .pointer (some ⟨q,0,none⟩)),(8, .pointer (some ⟨q+1,0,none⟩)),(9, .pointer (some ⟨q+1+1,0,none⟩)),(10, .int .i64 z),(11, .int .i64 y),(12, .int .i64 x),(13, .pointer (some ⟨G.next,0,none⟩)),(28, .int .i64 (t:Nat))]) (P:=fun h'=>Ext G h'∧h'.next=G.next+1∧h'.get G.next=some (.cells (us ls) true 1)) ?_ ?_
     ·refine aq ?_;refine yV ?_;refine yM ?_;refine yM ?_;refine yM ?_
      refine yC ?_
      refine FW.pu C3 ?_
      refine ah (cZ) ?_;refine ah (bQ (by exact rfl) (by exact rfl) (by(simp(disch:=first|omega|(simp only[z1,z2];omega))only[z3,z4,z5,z6,z7,z1,z2,q4,q9,q7];exact rfl)) (by assumption) (by exact rfl) (by exact cF _)) ?_;refine ct ?_
      refine y1 ?_
      exact⟨rfl,rfl,rfl,ff (by omega) _ _,rfl,fE _ _⟩
     clear C3 q4 q9 q7
     rintro G' ⟨x',n',g13⟩
     have hP':P Dx G':=Y.eZ _ _ _ FX.pd (by omega) fun z hz=>x'.old z (by omega)
     have FX':=FX.ext x' (by omega) hqh hP'
     have WG':=x'.wf WG
     have gA:=ga _ _ hP'
     have C4:=K5 hp F.f35 F.f121 (h:={G' with log:=[]}) (.of WG') hls ha
     refine y4 ?_;refine yV ?_;refine yV ?_
     refine yC ?_
     refine FW.pu C4 ?_
     clear C4
     cases hin:sIn ls a with
     |false=>
      rw[hin,if_neg (by simp)]at htry
      refine yM ?_;refine yP ?_;refine yP ?_;refine yP ?_;refine yP ?_;refine yP ?_;refine yP ?_;refine yP ?_
      refine yP ?_;refine yP ?_;refine yU ?_;refine y3 ?_;refine yX ?_;refine bA ?_;refine fF ?_;refine bH ?_;refine aq ?_
      refine yM ?_;refine yW ?_;refine yM ?_;refine y3 ?_
      refine⟨16-(i+1),by omega,i+1,x+1,by omega, .inr (by omega),rfl,rfl,rfl,?_⟩
      rw[fx,htry,List.append_nil,hDx];exact FX'
     |true=>
      rw[hin,if_pos rfl]at htry
      refine yM ?_;refine yO ?_;refine yM ?_;refine yO ?_;refine yM ?_;refine yO ?_;refine yM ?_;refine yO ?_;refine yM ?_;refine yO ?_
      refine yM ?_;refine yO ?_;refine ah (dS (by exact rfl)) ?_;refine yO ?_;refine yV ?_;refine yO ?_
      refine xD (fn:= .yield l) (args:=fiV ⟨t,x,y,z,ls⟩) (by rfl) ?_
      refine Y.call hp (hmm hin) WG' (by omega) (by omega) hlb hP' ?_ ?_
      rotate_left
      ·intro h9 hk9 hm9 hS9
       refine yO ?_;refine yA ?_;refine yT ?_;refine y3 ?_;refine yY ?_;refine aM ?_;refine jL ?_;refine dZ ?_;refine dZ ?_;refine jL ?_;refine jL ?_
       refine dZ ?_;refine dZ ?_;refine jL ?_;refine jL ?_;refine dZ ?_;refine dZ ?_;refine jL ?_;refine jL ?_;refine dZ ?_;refine dZ ?_;refine jL ?_
       exact x9 ((FX'.k.trans hk9).log (by rw[hr.log];exact fH.nil _)) rfl hm9 hS9
      intro h2 hk2 hkeep hP2
      refine yO ?_;refine yA ?_;refine yT ?_;refine y3 ?_;refine yX ?_;refine bA ?_;refine fF ?_;refine bH ?_;refine aq ?_
      refine yM ?_;refine yW ?_;refine yM ?_;refine y3 ?_
      refine⟨16-(i+1),by omega,i+1,x+1,by omega, .inr (by omega),rfl,rfl,rfl,?_⟩
      rw[fx,htry,←List.append_assoc,hDx]
      exact FX'.step hk2 hkeep hqh hN hP2
    ·have lx:aA .leq (.int .i64 x) (.int .i64 (rm.hi.x-bp.hi.x))=some (.bool false):=oZ (by omega)
     have hie:=wT (lo:=rm.lo.x-bp.lo.x) (hi:=rm.hi.x-bp.hi.x) (n:=i) (by omega) (by omega)
     have e:(zrN (rm.lo.x-bp.lo.x) i).flatMap (zJ a p bp t z y)=vP a p rm bp t z y:=by rw[hie];rfl
     rw[e]at FX
     refine an ?_;refine y4 ?_;refine yM ?_;refine yF ?_;refine yF ?_;refine yL ?_;refine yF ?_;refine yL ?_
     refine yW ?_;refine yW ?_;refine y3 ?_;refine yX ?_;refine dz ?_;refine ek ?_;refine ek ?_
     refine iY ?_;refine fF ?_;refine bH ?_;refine aq ?_;refine yM ?_;refine yW ?_;refine yM ?_;refine y3 ?_
     refine⟨16-(j+1),by omega,j+1,y+1,by omega, .inr (by omega),rfl,rfl,rfl,?_⟩
     rw[fy,←List.append_assoc,hDy];exact FX
   ·have ly:aA .leq (.int .i64 y) (.int .i64 (rm.hi.y-bp.hi.y))=some (.bool false):=oZ (by omega)
    have hje:=wT (lo:=rm.lo.y-bp.lo.y) (hi:=rm.hi.y-bp.hi.y) (n:=j) (by omega) (by omega)
    refine an ?_;refine y4 ?_;refine yM ?_;refine yF ?_;refine yF ?_;refine yL ?_;refine yF ?_;refine yL ?_
    refine yW ?_;refine yW ?_;refine y3 ?_;refine yX ?_;refine dz ?_;refine ek ?_;refine ek ?_
    refine iY ?_;refine fF ?_;refine bH ?_;refine aq ?_;refine yM ?_;refine yW ?_;refine yM ?_;refine y3 ?_
    refine⟨16-(n+1),by omega,n+1,z+1,by omega, .inr (by omega),rfl,rfl,rfl,?_⟩
    rw[fz,←List.append_assoc]
    have e:(zrN (rm.lo.y-bp.lo.y) j).flatMap (vP a p rm bp t z)=Ac a p rm bp t z:=by rw[hje];rfl
    rw[e]at FX
    rw[hDz];exact FX
  ·have lz:aA .leq (.int .i64 z) (.int .i64 (rm.hi.z-bp.hi.z))=some (.bool false):=oZ (by omega)
   have hne:=wT (lo:=rm.lo.z-bp.lo.z) (hi:=rm.hi.z-bp.hi.z) (n:=n) (by omega) (by omega)
   have q4:=FX.g4
   have q9:=FX.g9
   refine an ?_;refine y4 ?_;refine yM ?_;refine yF ?_;refine yF ?_;refine yL ?_;refine yF ?_;refine yL ?_
   refine yW ?_;refine yW ?_;refine y3 ?_;refine yX ?_;refine dz ?_;refine ek ?_;refine ek ?_
   refine iY ?_;refine fF ?_;refine bH ?_;refine aq ?_;refine iI ?_;refine yM ?_;refine y3 ?_
   refine⟨24-(t+1),by omega,t+1,by omega,rfl,rfl,rfl,FX.k,?_,by have:=FX.nx;omega,FX.g4⟩
   rw[hT]
   have:=FX.pd
   rw[hne]at this
   exact this
 ·obtain rfl:t=24:=by omega
  rw[←hf]at hP
  refine y4 ?_;refine yf ?_;refine y3 ?_;refine an ?_;refine yX ?_;refine dz ?_;refine ek ?_;refine ek ?_;refine iY ?_
  exact x8 (hk.log (by rw[hr.log];exact fH.nil _)) rfl hP
end Go.A.Pk
end
section
set_option maxRecDepth 100000
namespace Go.A.Pk
variable {T:Nat→Option af}
structure FxL (P:List Fi→Heap→Prop) (W:Heap→Nat→Prop) (lo:Nat) (h0:Heap) (q0 q:Nat) (rm bp:Bx) (p:List Nat) (D:List Fi) (g:Heap):Prop where
 k:Lk lo h0 g
 pd:P D g
 dm:((∀x,x<h0.next→g.get x=h0.get x)∧P D h0)∨q0∈g.log∧Br g q0
 nx:q+2<g.next
 g4:g.get h0.next=some (.cells (bxL rm) true 1)
 g7:g.get q=some (.cells (psL p bp) true 1)
 g8:g.get (q+1)=some (.cells (ceL bp.lo) true 1)
 g9:g.get (q+2)=some (.cells (ceL bp.hi) true 1)
 w4:¬W g h0.next
 w7:¬W g q
 w8:¬W g (q+1)
 w9:¬W g (q+2)
section
variable {lo N l q0:Nat} {all:List Fi} {P:List Fi→Heap→Prop} {W:Heap→Nat→Prop} {h0:Heap} {q:Nat} {rm bp:Bx} {p:List Nat} {D D':List Fi} {g g':Heap}
end
def cmpL:List Nat→List Nat→Int
 |a::l,b::m=>if a<b then -1 else if b<a then 1 else cmpL l m
 |_,_=>0
end Go.A.Pk
end
section
set_option maxRecDepth 100000
namespace Go.A.Pk
variable {T:Nat→Option af}
def jt(a b:List Nat):Bool:=decide (b=s0)|| !(iK a b).isEmpty
def fnF(p q:Nat):Value:= .func (.func 123) #[] #[.pointer (some ⟨p,0,none⟩), .pointer (some ⟨q,0,none⟩)]
def moL(t x y z:Int):List Value:=[.int .i64 t, .int .i64 x, .int .i64 y, .int .i64 z]
structure Bu (T:Nat→Option af):Prop where
 ft:JZ T
 f34:T 44=some f34
 f120:T 78=some f120
theorem Ij(F:Bu T){h:Heap}(hr:Rdy h){a b:List Nat}(ha:IsS a)(hb:IsS b):
 Al T 78 [sv a,sv b] h fun v h'=>∃p q,v=fnF p q∧h'.get p=some (.cells (us a) true 1)∧h'.get q=some (.cells (us b) true 1)∧p<h'.next∧q<h'.next∧h.next≤p∧h.next≤q:=by
 refine .of F.ft.li.p F.f120 hr ?_ ?_
 ·rintro v h1 hv ⟨p,q,rfl,_⟩
  cases hv
 refine y4 ?_;refine yB ?_;refine yB ?_;refine yM ?_;refine y3 ?_;refine y4 ?_
 refine ah (gL (by exact rfl) (by exact rfl)) ?_;refine yM ?_;refine y3 ?_;refine aM ?_
 exact iV hr.log rfl ⟨h.next,h.next+1,rfl,by(simp(disch:=first|omega|(simp only[z1,z2];omega))only[z3,z4,z5,z6,z7,z1,z2];exact rfl),by(simp(disch:=first|omega|(simp only[z1,z2];omega)|(simp only[z1,z2];done)|fail)only[Go.A.z8,z4,z5,z9,z7,z1,z2];exact rfl),by show h.next<h.next+2;omega,by show h.next+1<h.next+2;omega,Nat.le_refl _,Nat.le_succ _⟩
section
open I
def oA:aU:=I.R [g 8 (.new [O,O,O,O]),S 4 8 16] [6,7,8]
def oD:aU:=(.block 1 (Q (I.R [N 18 4 8,S 4 6 18,⟨none, .store 1 (t 7) (.const (.bool true)),none⟩] [])
 (.exit 0)))
end
structure PFi (l:Nat) (H0:Heap) (L:bK) (done:List Fi) (H:Heap):Prop where
 done:done=[]
 old:∀z,z<l→H.get z=H0.get z
 loop:H.get l=some L
structure SFi (l b6 b7:Nat) (H0:Heap) (LX:bK) (all:List Fi) (H:Heap):Prop where
 ne:all≠[]
 old:∀z,z<l→z≠b6→z≠b7→H.get z=H0.get z
 loop:H.get l=some LX
 v6:∃t x y z,H.get b6=some (.cells (moL t x y z) true 1)
 v7:H.get b7=some (.cells [.bool true] true 1)
set_option maxHeartbeats 16000000 in
theorem EN(hp:bI T){H:Heap}(hr:Rdy H){b6 b7 l lo N:Nat}{fv fv2:Value}{f:Fi}(hlo:lo≤b6)(h67:b6<b7)(hql:b7<l)(hlN:l<N){m6:List Value}(hm6:m6.length=4)
 (gl:H.get l=some (.loop [(4,fv2),(6, .pointer (some ⟨b6,0,none⟩)),(7, .pointer (some ⟨b7,0,none⟩)),(15,fv)] [16,17] oA oD 0 .normal))
 (g6:H.get b6=some (.cells m6 true 1))(g7:H.get b7=some (.cells [.bool false] true 1)){R:Heap→Prop}:
 FW T (.yield l) (fiV f) H fun r H'=>(∀z∈H'.log,lo≤z∧z<N)∧(r= .ret (.bool true)∧R H'∨r= .ret (.bool false)∧l∈H'.log∧((∀z,z<H.next→z≠b6→z≠b7→z≠l→H'.get z=H.get z)∧H'.get l=some (.loop [(4,fv2),(6, .pointer (some ⟨b6,0,none⟩)),(7, .pointer (some ⟨b7,0,none⟩)),(15,fv)] [16,17] oA oD 2 (.exit 0))∧H'.get b6=some (.cells (moL f.t f.x f.y f.z) true 1)∧H'.get b7=some (.cells [.bool true] true 1))):=by
 have k6:=hr.wf.gF g6
 have k7:=hr.wf.gF g7
 have kl:=hr.wf.gF gl
 refine FW.MN hp (px:= .exit 0) (.inr ⟨0,rfl⟩) (S:=fun H'=>(∀z,z<H.next→z≠b6→z≠b7→z≠l→H'.get z=H.get z)∧H'.get l=some (.loop [(4,fv2),(6, .pointer (some ⟨b6,0,none⟩)),(7, .pointer (some ⟨b7,0,none⟩)),(15,fv)] [16,17] oA oD 2 (.exit 0))∧H'.get b6=some (.cells (moL f.t f.x f.y f.z) true 1)∧H'.get b7=some (.cells [.bool true] true 1)) gl rfl kl ⟨by omega,hlN⟩ ?_
 unfold oA
 refine aq ?_;refine ah (cZ) ?_;refine yS ?_;refine ct ?_
 refine y1 ?_
 refine⟨rfl,by(simp(disch:=first|omega|(simp only[z1,z2];omega))only[z3,z4,z5,z6,z7,z1,z2,gl,g6,g7];exact rfl),?_⟩
 unfold oD
 refine aO ?_
 refine WE.Im ?_
 intro hA hAe
 have A1:∀z,z<H.next→z≠l→H.get z=hA.get z:=fun z hz hne=>by rw[hAe];symm;simp(disch:=first|omega|(simp only[z1,z2];omega))only[z5,z4]
 have A3:hA.get H.next=some (.cells (moL f.t f.x f.y f.z) true 1):=by rw[hAe];(simp(disch:=first|omega|(simp only[z1,z2];omega))only[z3,z4,z5,z6,z7,z1,z2,gl,g6,g7];exact rfl)
 have A2:hA.get l=some (.loop [(4,fv2),(6, .pointer (some ⟨b6,0,none⟩)),(7, .pointer (some ⟨b7,0,none⟩)),(15,fv)] [16,17] oA oD 1 .normal):=by rw[hAe];(simp(disch:=first|omega|(simp only[z1,z2];omega))only[z3,z4,z5,z6,z7,z1,z2,gl,g6,g7,A3];exact rfl)
 have A5:hA.next=H.next+1:=by rw[hAe];rfl
 have A6:hA.log=[]:=by rw[hAe];simp(disch:=first|omega|(simp only[z1,z2];omega))only[Heap.aL,Heap.tn];exact hr.log
 clear hAe
 have B6:=(A1 b6 k6 (by omega)).symm.trans g6
 have B7:=(A1 b7 k7 (by omega)).symm.trans g7
 have ck:bT 4 (bS 0 (moL f.t f.x f.y f.z))=moL f.t f.x f.y f.z:=rfl
 have ckl:Nat.beq (bO (moL f.t f.x f.y f.z)) 4=true:=rfl
 have cko:dG (moL f.t f.x f.y f.z)=true:=rfl
 have ck4:(moL f.t f.x f.y f.z).length=4:=rfl
 refine y4 ?_;refine yN ?_;refine ah (bQ (by exact rfl) (by exact rfl) (by assumption) (by assumption) (by assumption) (by exact rfl)) ?_
 refine yS ?_;refine y3 ?_;refine dz ?_;refine K7 (by exact rfl) ?_
 refine⟨⟨_,by(simp(disch:=first|omega|(simp only[z1,z2];omega))only[z3,z4,z5,z6,z7,z1,z2,gl,g6,g7,A3,A2,B6,B7];exact rfl),rfl⟩,fun z hz=> ?_, .inr ⟨rfl,fun h5 hn h5e h5l=>⟨fun z hz n6 n7 nl=> ?_,h5l,?_,?_⟩⟩⟩
 ·rcases dJ hz with rfl|hz
  ·exact⟨by omega,by omega⟩
  rcases dJ hz with rfl|hz
  ·exact⟨by omega,by omega⟩
  rw[A6]at hz;cases hz
 ·refine(h5e z nl).trans ?_
  rw[z5 n7,z5 n6]
  exact(A1 z hz nl).symm
 ·refine(h5e b6 (by omega)).trans ?_
  rw[z5 (by omega)]
  exact Heap.aJ B6
 ·refine(h5e b7 (by omega)).trans ?_
  rw[z6,z5 (by omega),B7];rfl
theorem Ii{a b:List Nat}(hb:¬b=s0):jt a b= !(iK a b).isEmpty:=by unfold jt;rw[decide_eq_false hb];rfl
set_option maxHeartbeats 16000000 in
theorem K0(F:Bu T){h:Heap}(hr:Rdy h)(hg:Tab h)(h2:0<h.next){a b:List Nat}(ha:IsS a)(hb:IsS b):
 Al T 44 [sv a,sv b] h fun v _=>∃t x y z,v= .tuple #[moV t x y z, .bool (jt a b)]:=by
 have hp:=F.ft.li.p
 refine .of hp F.f34 hr (fun v h1 hv q=>q) ?_
 have ka8:=bU ha.len
 have ka9:=dh ha.len
 have kb8:=bU hb.len
 have kb9:=dh hb.len
 have x0:Ext h (((h.push (.cells (cellsOf (sv a)) true 1)).push (.cells (cellsOf (sv b)) true 1)).push (.cells [I.O,I.O,I.O,I.O] true 1)):=(((Ext.refl h).push _).push _).push _
 have gA:(((h.push (.cells (cellsOf (sv a)) true 1)).push (.cells (cellsOf (sv b)) true 1)).push (.cells [I.O,I.O,I.O,I.O] true 1)).get h.next=some (.cells (us a) true 1):=by(simp(disch:=first|omega|(simp only[z1,z2];omega))only[z3,z4,z5,z6,z7,z1,z2];exact rfl)
 have gB:(((h.push (.cells (cellsOf (sv a)) true 1)).push (.cells (cellsOf (sv b)) true 1)).push (.cells [I.O,I.O,I.O,I.O] true 1)).get (h.next+1)=some (.cells (us b) true 1):=by(simp(disch:=first|omega|(simp only[z1,z2];omega)|(simp only[z1,z2];done)|fail)only[Go.A.z8,z4,z5,z9,z7,z1,z2,gA];exact rfl)
 have gC:(((h.push (.cells (cellsOf (sv a)) true 1)).push (.cells (cellsOf (sv b)) true 1)).push (.cells [I.O,I.O,I.O,I.O] true 1)).get (h.next+2)=some (.cells [I.O,I.O,I.O,I.O] true 1):=by(simp(disch:=first|omega|(simp only[z1,z2];omega)|(simp only[z1,z2];done)|fail)only[Go.A.z8,z4,z5,z9,z7,z1,z2,gA,gB];done)
 have n0:(((h.push (.cells (cellsOf (sv a)) true 1)).push (.cells (cellsOf (sv b)) true 1)).push (.cells [I.O,I.O,I.O,I.O] true 1)).next=h.next+3:=rfl
 refine y4 ?_;refine yB ?_;refine yB ?_;refine ah (cZ) ?_;refine yM ?_;refine y3 ?_;refine zM ?_
 generalize(((h.push (.cells (cellsOf (sv a)) true 1)).push (.cells (cellsOf (sv b)) true 1)).push (.cells [I.O,I.O,I.O,I.O] true 1))=H at*
 have W:=x0.wf hr.wf
 have hL:=x0.log.trans hr.log
 by_cases he:b=s0
 ·have hf:jt a b=true:=by unfold jt;rw[decide_eq_true he];rfl
  rw[hf]
  have ck:bT 4 (bS 0 (moL 0 (-7) (-7) (-7)))=moL 0 (-7) (-7) (-7):=rfl
  refine an ?_;refine y4 ?_;refine yV ?_;refine ah (dS (by exact rfl)) ?_
  refine ah (pM (b:=s0) (by exact rfl) (by exact rfl) hb.len rfl) ?_
  rw[decide_eq_true he]
  refine y3 ?_;refine yY ?_;refine y4 ?_;refine ah (dS (by exact rfl)) ?_;refine yS ?_;refine yM ?_
  refine y3 ?_;refine aM ?_;refine dZ ?_
  refine iV ?_ (cW (own:=true) (s:=1) rfl ?_ ck rfl rfl) ⟨0, -7, -7, -7,rfl⟩
  ·rw[Heap.aL (by show h.next≤h.next+2;omega)];exact hL
  ·(simp(disch:=first|omega|(simp only[z1,z2];omega))only[z3,z4,z5,z6,z7,z1,z2,gA,gB,gC];exact rfl)
 ·rw[Ii he]
  refine an ?_;refine y4 ?_;refine yV ?_;refine ah (dS (by exact rfl)) ?_
  refine ah (pM (b:=s0) (by exact rfl) (by exact rfl) hb.len rfl) ?_
  rw[decide_eq_false he]
  refine y3 ?_;refine yX ?_;refine bA ?_;refine bH ?_
  refine cH (E0:=[(2, .pointer (some ⟨h.next,0,none⟩)),(3, .pointer (some ⟨h.next+1,0,none⟩)),(4, .pointer (some ⟨h.next+2,0,none⟩)),(6, .pointer (some ⟨H.next,0,none⟩))]) (P:=fun h'=>h'=H.push (.cells [I.O,I.O,I.O,I.O] true 1)) ?_ ?_
  ·refine aq ?_;refine ah (cZ) ?_;refine ct ?_;refine y1 ?_
   exact⟨rfl,rfl,rfl,rfl⟩
  rintro _ rfl
  refine cH (E0:=[(2, .pointer (some ⟨h.next,0,none⟩)),(3, .pointer (some ⟨h.next+1,0,none⟩)),(4, .pointer (some ⟨h.next+2,0,none⟩)),(6, .pointer (some ⟨H.next,0,none⟩)),(7, .pointer (some ⟨H.next+1,0,none⟩))]) (P:=fun h'=>Ext H h'∧h'.next=H.next+2∧h'.get H.next=some (.cells [I.O,I.O,I.O,I.O] true 1)∧h'.get (H.next+1)=some (.cells [.bool false] true 1)) ?_ ?_
  ·refine aq ?_;refine ah (cZ) ?_
   refine yS ?_;refine ct ?_
   refine y1 ?_
   exact⟨rfl,rfl,rfl,((Ext.refl H).push _).trans (ff (by show h.next≤H.next+1;omega) _ _),rfl,by(simp(disch:=first|omega|(simp only[z1,z2];omega))only[z3,z4,z5,z6,z7,z1,z2,gA,gB,gC];done),by(simp(disch:=first|omega|(simp only[z1,z2];omega)|(simp only[z1,z2];done)|fail)only[Go.A.z8,z4,z5,z9,z7,z1,z2,gA,gB,gC];exact rfl)⟩
  rintro H1 ⟨x1,n1,q6,q7⟩
  have ey1':=x0.trans x1
  have W1:=ey1'.wf hr.wf
  have hL1:=ey1'.log.trans hr.log
  have gA1:=(x1.old _ (by omega)).trans gA
  have gB1:=(x1.old _ (by omega)).trans gB
  have gC1:=(x1.old _ (by omega)).trans gC
  have C:=Ij F (h:={H1 with log:=[]}) (.of W1) ha hb
  clear gA gB gC
  refine an ?_;refine bA ?_;refine bH ?_;refine an ?_;refine y4 ?_;refine yV ?_;refine yV ?_
  refine yC ?_
  refine FW.al C (fun v h' m q=>q) ?_
  rintro _ H2 x2 ⟨qa,qb,rfl,ga,gb,kqa,kqb,na,nb⟩
  clear C
  have na:H1.next≤qa:=na
  have nb:H1.next≤qb:=nb
  have ey2':=ey1'.trans x2
  have W2:=ey2'.wf hr.wf
  have hL2:=ey2'.log.trans hr.log
  have n2:=x2.next
  have gC2:=(x2.old _ (by omega)).trans gC1
  have p6:=(x2.old _ (by omega)).trans q6
  have p7:=(x2.old _ (by omega)).trans q7
  have hg2:Tab H2:=hg.ext ey2' h2
  clear gA1 gB1 gC1 q6 q7
  refine y3 ?_;refine aO ?_
  refine DJ (px:= .exit 0) (lo:=H.next) (P:=PFi H2.next H2 (.loop [(4, .pointer (some ⟨h.next+2,0,none⟩)),(6, .pointer (some ⟨H.next,0,none⟩)),(7, .pointer (some ⟨H.next+1,0,none⟩)),(15,fnF qa qb)] [16,17] oA oD 0 .normal) (iK a b)) (S:=SFi H2.next H.next (H.next+1) H2 (.loop [(4, .pointer (some ⟨h.next+2,0,none⟩)),(6, .pointer (some ⟨H.next,0,none⟩)),(7, .pointer (some ⟨H.next+1,0,none⟩)),(15,fnF qa qb)] [16,17] oA oD 2 (.exit 0)) (iK a b)) rfl (by rfl) (by rw[F.ft.f209];rfl) (by omega) (by omega) hL2 W2 ?_ (fun H p=>⟨_,_,_,_,p.loop⟩) (fun H p=>⟨_,_,_,_,p.loop⟩) ?_ ?_
  ·have Y:HT (.exit 0) T H.next (H2.next+1) H2.next fiV (iK a b) (PFi H2.next H2 (.loop [(4, .pointer (some ⟨h.next+2,0,none⟩)),(6, .pointer (some ⟨H.next,0,none⟩)),(7, .pointer (some ⟨H.next+1,0,none⟩)),(15,fnF qa qb)] [16,17] oA oD 0 .normal)) (SFi H2.next H.next (H.next+1) H2 (.loop [(4, .pointer (some ⟨h.next+2,0,none⟩)),(6, .pointer (some ⟨H.next,0,none⟩)),(7, .pointer (some ⟨H.next+1,0,none⟩)),(15,fnF qa qb)] [16,17] oA oD 2 (.exit 0)) (iK a b)):=by
    refine⟨fun done f Hh hx hrH hN hP=> ?_,fun done Ha Hb p n e=>⟨p.done,fun z hz=>(e z (by omega)).trans (p.old z hz),(e _ (by omega)).trans p.loop⟩,fun Hh m p=>⟨p.ne,p.old,p.loop,p.v6,p.v7⟩,fun Hh p=>⟨_,_,_,_,p.loop⟩⟩
    refine FW.mono' (EN hp hrH (f:=f) (lo:=H.next) (N:=H2.next+1) (R:=fun _=>False) (Nat.le_refl _) (Nat.lt_succ_self _) (by omega) (by omega) (m6:=[I.O,I.O,I.O,I.O]) rfl hP.loop ((hP.old _ (by omega)).trans p6) ((hP.old _ (by omega)).trans p7)) ?_
    rintro r' H' ⟨r1,r2⟩
    refine⟨r1,r2.imp (fun⟨_,e⟩=>e.elim) fun⟨e1,e2,e3,e4,e5,e6⟩=>⟨e1,e2,List.ne_nil_of_mem hx,fun z hz z6 z7=>(e3 z (by omega) z6 z7 (by omega)).trans (hP.old z hz),e4,⟨_,_,_,_,e5⟩,e6⟩⟩
   exact Ik F.ft (.of (W2.push (.loop [(4, .pointer (some ⟨h.next+2,0,none⟩)),(6, .pointer (some ⟨H.next,0,none⟩)),(7, .pointer (some ⟨H.next+1,0,none⟩)),(15,fnF qa qb)] [16,17] oA oD 0 .normal))) (px:= .exit 0) (qa:=qa) (qb:=qb) (l:=H2.next) (N:=H2.next+1) (lo:=H.next) ha hb (Nat.le_refl _) (by show H.next≤H2.next+1;omega) (Nat.lt_succ_self _) (by omega) Y (fun d H' hP=>(hP.old _ kqa).trans ga) (fun d H' hP=>(hP.old _ kqb).trans gb) (fun d H' hP=>(hP.old 0 (by omega)).trans hg2)
    ⟨rfl,fun z hz=>z4 hz,z3 _ _⟩
  ·intro h4 h5 k1 k2 k3 k4 k5 hP
   have D4:=(k5 (h.next+2) (by omega)).trans ((hP.old _ (by omega)).trans gC2)
   have D6:=(k5 H.next (by omega)).trans ((hP.old _ (by omega)).trans p6)
   have D7:=(k5 (H.next+1) (by omega)).trans ((hP.old _ (by omega)).trans p7)
   have hd:=hP.done
   rw[hd]
   have ck:bT 4 (bS 0 (moL 0 0 0 0))=moL 0 0 0 0:=rfl
   refine fF ?_;refine bH ?_;refine an ?_;refine dn ?_;refine qN ?_;refine qL ?_
   refine nQ rfl rfl rfl (by exact rfl) (by exact rfl) (by exact rfl) (by assumption) (by exact rfl) (by exact rfl) (by omega) (by omega) (by apply aN rfl (aI rfl (dD (by exact rfl) (by(simp(disch:=first|omega|(simp only[z1,z2];omega))only[z3,z4,z5,z6,z7,z1,z2,ga,gb,gC2,p6,p7,D4,D6,D7];exact rfl)) (by exact rfl)) (by exact Cf _)) rfl;apply aT rfl;exact cO) ?_
   refine qM ?_;refine dH ?_;refine y1 ?_;refine bH ?_;refine aM ?_
   refine iV ?_ (cW (own:=true) (s:=1) rfl ?_ ck rfl rfl) ⟨0,0,0,0,rfl⟩
   ·rw[Heap.aL (by show h.next≤h.next+2;omega)];exact k1
   ·(simp(disch:=first|omega|(simp only[z1,z2];omega))only[z3,z4,z5,z6,z7,z1,z2,ga,gb,gC2,p6,p7,D4,D6,D7];exact rfl)
  ·intro h4 h5 k1 k2 k3 k4 k5 hP
   obtain⟨s1,s2,s3,⟨t,x,y,z,s4⟩,s5⟩:=hP
   have D4:=(k5 (h.next+2) (by omega)).trans ((s2 _ (by omega) (by omega) (by omega)).trans gC2)
   have D6:=(k5 H.next (by omega)).trans s4
   have D7:=(k5 (H.next+1) (by omega)).trans s5
   have hd:(iK a b).isEmpty=false:=by
    cases hq:iK a b with
    |nil=>exact absurd hq s1
    |cons _ _=>rfl
   rw[hd]
   have ck:bT 4 (bS 0 (moL t x y z))=moL t x y z:=rfl
   have ckl:Nat.beq (bO (moL t x y z)) 4=true:=rfl
   have cko:dG (moL t x y z)=true:=rfl
   have ck4:(moL t x y z).length=4:=rfl
   refine iY ?_;refine bH ?_;refine an ?_;refine dn ?_;refine qN ?_;refine qL ?_
   refine nQ rfl rfl rfl (by exact rfl) (by exact rfl) (by exact rfl) (by assumption) (by exact rfl) (by exact rfl) (by omega) (by omega) (by apply aN rfl (aI rfl (dD (by exact rfl) (by(simp(disch:=first|omega|(simp only[z1,z2];omega))only[z3,z4,z5,z6,z7,z1,z2,ga,gb,gC2,p6,p7,s3,s5,s4,D4,D6,D7];exact rfl)) (by exact rfl)) (by exact Cf _)) rfl;apply aT rfl;exact cO) ?_
   refine qM ?_;refine dH ?_;refine y1 ?_;refine bH ?_;refine aM ?_
   refine iV ?_ (cW (own:=true) (s:=1) rfl ?_ ck rfl rfl) ⟨t,x,y,z,rfl⟩
   ·rw[Heap.aL (by show h.next≤h.next+2;omega)];exact k1
   ·(simp(disch:=first|omega|(simp only[z1,z2];omega))only[z3,z4,z5,z6,z7,z1,z2,ga,gb,gC2,p6,p7,s3,s5,s4,D4,D6,D7];exact rfl)
end Go.A.Pk
end
