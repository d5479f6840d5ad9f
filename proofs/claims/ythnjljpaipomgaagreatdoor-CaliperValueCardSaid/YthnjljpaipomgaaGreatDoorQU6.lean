/- Walks of functions, plain laws, the table. -/
import Derived.Test.YthnjljpaipomgaaGreatDoorQU5
import Derived.Test.YthnjljpaipomgaaGreatDoorQF
import Derived.Test.YthnjljpaipomgaaGreatDoorQD
import Derived.Test.YthnjljpaipomgaaGreatDoorQU4
set_option linter.all false
set_option maxHeartbeats 16000000
set_option maxRecDepth 100000
section
namespace Go.A.Pk
variable {T:Nat->Option aq}
variable{h:Heap}
theorem YH{b:Nat}{c:Option bM}(H:h.get b=c:=by first|(simp(disch:=first|omega|(simp only[z1,z2];omega))only[z3,z4,z5,z6,z7,z1,z2];exact rfl)|(simp(disch:=first|omega|(simp only[z1,z2];omega))only[z3,z4,z5,z6,z7,z1,z2];done)|(simp(disch:=first|omega|(simp only[z1,z2];omega)|(simp only[z1,z2];done)|fail)only[Go.A.z8,z4,z5,z9,z7,z1,z2];exact rfl)|(simp(disch:=first|omega|(simp only[z1,z2];omega)|(simp only[z1,z2];done)|fail)only[Go.A.z8,z4,z5,z9,z7,z1,z2];done)):h.get b=c:=H
def Ep(w:List Nat×List Nat)(n m:Nat):Bool:=decide (j6 w.2<=40)&&(decide (n<=5)||decide (8<n/\n<=10))&&(decide (m<=3)||decide (6<m/\m<=8))
variable{m n:Nat}
theorem Oj{w:List Nat×List Nat}(h:Ep w n m=true):n<=10/\m<=8:=by
 unfold Ep at h;simp only[ed,oB,decide_eq_true_eq]at h;omega
structure QT (T:Nat->Option aq):Prop where
 p:aF T
 cr:Jc T
 f25:T 4=some f25
 f84:T 12=some f84
theorem Vd(F:QT T)(hr:Rdy h){w:List Nat×List Nat}(r:IsW w){a a2:Option Addr}{c c2:Nat}(A:n<4611686018427387904)(z:m<4611686018427387904):Pu T 4 [wV w, .slice a n c, .slice a2 m c2] h (.bool (Ep w n m)):=by
 refine .of F.p F.f25 hr rfl ?_;have s:cellsOf (wV w)=wL w:=by show(wL w).toArray.toList=_;simp
 have u:Ext h (h.push (.cells (cellsOf (wV w)) true 1)):=(Ext.refl h).push _;have y:(h.push (.cells (cellsOf (wV w)) true 1)).get h.next=some (.cells (wL w) true 1):=by rw[s];exact z3 h _
 refine Y4 ?_;generalize(h.push (.cells (cellsOf (wV w)) true 1))=H at*;have W:=u.wf hr.wf;have e:=u.log.trans hr.log;have B:cG 8 (cw (0+8) (wL w))=us w.2:=Nr r;have v:=bR r.b.len;have C:=Of F.cr F.f84 (h:={H with log:=[]}) (.of W) r.b;unfold Ep;generalize j6 w.2=k at*;by_cases c40:k<=40;case neg=>
  have d:(decide (k<=40)&&(decide (n<=5)||decide (8<n/\n<=10))&&(decide (m<=3)||decide (6<m/\m<=8)))=false:=by(try simp only[pC,qr,ed,oB,decide_eq_true_eq,decide_eq_false_iff_not]);omega
  rw[d];clear d;have x:an .leq (.int .i64 (k:Nat)) (.int .i64 40)=some (.bool false):=eS (by omega);refine Y4 ?_;refine FW.pu C ?_;refine Y6 ?_;refine bS (by exact rfl) ?_;refine bS (by exact rfl) ?_;refine bS (by exact rfl) ?_;refine bS (by exact rfl) ?_;refine bS (by exact rfl) ?_;refine bS (by exact rfl) ?_;refine bS (by exact rfl) ?_;refine bS (by exact rfl) ?_;refine Y7 ?_;refine bS (by exact rfl) ?_;refine bS (by exact rfl) ?_;refine bS (by exact rfl) ?_;refine bS (by exact rfl) ?_;refine bS (by exact rfl) ?_;refine bS (by exact rfl) ?_;refine bS (by exact rfl) ?_;refine bS (by exact rfl) ?_;refine Y5 ?_;exact au e rfl rfl
 have x:an .leq (.int .i64 (k:Nat)) (.int .i64 40)=some (.bool true):=fq (by omega);have i:n<=5∨(5<n/\n<=8)∨(8<n/\n<=10)∨10<n:=by omega
 have f:m<=3∨(3<m/\m<=6)∨(6<m/\m<=8)∨8<m:=by omega
 rcases i with hq|hq|hq|hq
 ·rcases f with hq2|hq2|hq2|hq2
  ·have d:(decide (k<=40)&&(decide (n<=5)||decide (8<n/\n<=10))&&(decide (m<=3)||decide (6<m/\m<=8)))=true:=by(try simp only[pC,qr,ed,oB,decide_eq_true_eq,decide_eq_false_iff_not]);omega
   rw[d];clear d;have g:an .leq (.int .i64 (n:Nat)) (.int .i64 5)=some (.bool true):=fq (by omega);have j:an .leq (.int .i64 (m:Nat)) (.int .i64 3)=some (.bool true):=fq (by omega);refine Y4 ?_;refine FW.pu C ?_;refine Y14 ?_;refine bS (by exact rfl) ?_;refine bS (by exact rfl) ?_;refine bS (by exact rfl) ?_;refine Y17 ?_;refine bS (by exact rfl) ?_;refine bS (by exact rfl) ?_;refine bS (by exact rfl) ?_;refine Y7 ?_;exact au e rfl rfl
  ·have d:(decide (k<=40)&&(decide (n<=5)||decide (8<n/\n<=10))&&(decide (m<=3)||decide (6<m/\m<=8)))=false:=by(try simp only[pC,qr,ed,oB,decide_eq_true_eq,decide_eq_false_iff_not]);omega
   rw[d];clear d;have g:an .leq (.int .i64 (n:Nat)) (.int .i64 5)=some (.bool true):=fq (by omega);have j:an .leq (.int .i64 (m:Nat)) (.int .i64 3)=some (.bool false):=eS (by omega);have o:an .gtr (.int .i64 (m:Nat)) (.int .i64 6)=some (.bool false):=gZ (by omega);refine Y4 ?_;refine FW.pu C ?_;refine Y14 ?_;refine bS (by exact rfl) ?_;refine bS (by exact rfl) ?_;refine bS (by exact rfl) ?_;refine Y32 ?_;exact au e rfl rfl
  ·have d:(decide (k<=40)&&(decide (n<=5)||decide (8<n/\n<=10))&&(decide (m<=3)||decide (6<m/\m<=8)))=true:=by(try simp only[pC,qr,ed,oB,decide_eq_true_eq,decide_eq_false_iff_not]);omega
   rw[d];clear d;have g:an .leq (.int .i64 (n:Nat)) (.int .i64 5)=some (.bool true):=fq (by omega);have j:an .leq (.int .i64 (m:Nat)) (.int .i64 3)=some (.bool false):=eS (by omega);have o:an .gtr (.int .i64 (m:Nat)) (.int .i64 6)=some (.bool true):=fM (by omega);have t:an .leq (.int .i64 (m:Nat)) (.int .i64 8)=some (.bool true):=fq (by omega);refine Y4 ?_;refine FW.pu C ?_;refine Y14 ?_;refine bS (by exact rfl) ?_;refine bS (by exact rfl) ?_;refine bS (by exact rfl) ?_;refine Y35 ?_;exact au e rfl rfl
  ·have d:(decide (k<=40)&&(decide (n<=5)||decide (8<n/\n<=10))&&(decide (m<=3)||decide (6<m/\m<=8)))=false:=by(try simp only[pC,qr,ed,oB,decide_eq_true_eq,decide_eq_false_iff_not]);omega
   rw[d];clear d;have g:an .leq (.int .i64 (n:Nat)) (.int .i64 5)=some (.bool true):=fq (by omega);have j:an .leq (.int .i64 (m:Nat)) (.int .i64 3)=some (.bool false):=eS (by omega);have o:an .gtr (.int .i64 (m:Nat)) (.int .i64 6)=some (.bool true):=fM (by omega);have t:an .leq (.int .i64 (m:Nat)) (.int .i64 8)=some (.bool false):=eS (by omega);refine Y4 ?_;refine FW.pu C ?_;refine Y14 ?_;refine bS (by exact rfl) ?_;refine bS (by exact rfl) ?_;refine bS (by exact rfl) ?_;refine Y35 ?_;exact au e rfl rfl
 ·have d:(decide (k<=40)&&(decide (n<=5)||decide (8<n/\n<=10))&&(decide (m<=3)||decide (6<m/\m<=8)))=false:=by(try simp only[pC,qr,ed,oB,decide_eq_true_eq,decide_eq_false_iff_not]);omega
  rw[d];clear d;have g:an .leq (.int .i64 (n:Nat)) (.int .i64 5)=some (.bool false):=eS (by omega);have l:an .gtr (.int .i64 (n:Nat)) (.int .i64 8)=some (.bool false):=gZ (by omega);refine Y4 ?_;refine FW.pu C ?_;refine Y31 ?_;refine bS (by exact rfl) ?_;refine bS (by exact rfl) ?_;refine bS (by exact rfl) ?_;refine bS (by exact rfl) ?_;refine bS (by exact rfl) ?_;refine bS (by exact rfl) ?_;refine bS (by exact rfl) ?_;refine bS (by exact rfl) ?_;refine Y5 ?_;exact au e rfl rfl
 ·rcases f with hq2|hq2|hq2|hq2
  ·have d:(decide (k<=40)&&(decide (n<=5)||decide (8<n/\n<=10))&&(decide (m<=3)||decide (6<m/\m<=8)))=true:=by(try simp only[pC,qr,ed,oB,decide_eq_true_eq,decide_eq_false_iff_not]);omega
   rw[d];clear d;have g:an .leq (.int .i64 (n:Nat)) (.int .i64 5)=some (.bool false):=eS (by omega);have l:an .gtr (.int .i64 (n:Nat)) (.int .i64 8)=some (.bool true):=fM (by omega);have q:an .leq (.int .i64 (n:Nat)) (.int .i64 10)=some (.bool true):=fq (by omega);have j:an .leq (.int .i64 (m:Nat)) (.int .i64 3)=some (.bool true):=fq (by omega);refine Y4 ?_;refine FW.pu C ?_;refine Y40 ?_;refine Y2 ?_;refine bS (by exact rfl) ?_;refine bS (by exact rfl) ?_;refine bS (by exact rfl) ?_;refine Y7 ?_;exact au e rfl rfl
  ·have d:(decide (k<=40)&&(decide (n<=5)||decide (8<n/\n<=10))&&(decide (m<=3)||decide (6<m/\m<=8)))=false:=by(try simp only[pC,qr,ed,oB,decide_eq_true_eq,decide_eq_false_iff_not]);omega
   rw[d];clear d;have g:an .leq (.int .i64 (n:Nat)) (.int .i64 5)=some (.bool false):=eS (by omega);have l:an .gtr (.int .i64 (n:Nat)) (.int .i64 8)=some (.bool true):=fM (by omega);have q:an .leq (.int .i64 (n:Nat)) (.int .i64 10)=some (.bool true):=fq (by omega);have j:an .leq (.int .i64 (m:Nat)) (.int .i64 3)=some (.bool false):=eS (by omega);have o:an .gtr (.int .i64 (m:Nat)) (.int .i64 6)=some (.bool false):=gZ (by omega);refine Y4 ?_;refine FW.pu C ?_;refine Y40 ?_;refine Y17 ?_;exact au e rfl rfl
  ·have d:(decide (k<=40)&&(decide (n<=5)||decide (8<n/\n<=10))&&(decide (m<=3)||decide (6<m/\m<=8)))=true:=by(try simp only[pC,qr,ed,oB,decide_eq_true_eq,decide_eq_false_iff_not]);omega
   rw[d];clear d;have g:an .leq (.int .i64 (n:Nat)) (.int .i64 5)=some (.bool false):=eS (by omega);have l:an .gtr (.int .i64 (n:Nat)) (.int .i64 8)=some (.bool true):=fM (by omega);have q:an .leq (.int .i64 (n:Nat)) (.int .i64 10)=some (.bool true):=fq (by omega);have j:an .leq (.int .i64 (m:Nat)) (.int .i64 3)=some (.bool false):=eS (by omega);have o:an .gtr (.int .i64 (m:Nat)) (.int .i64 6)=some (.bool true):=fM (by omega);have t:an .leq (.int .i64 (m:Nat)) (.int .i64 8)=some (.bool true):=fq (by omega);refine Y4 ?_;refine FW.pu C ?_;refine Y40 ?_;refine Y20 ?_;exact au e rfl rfl
  ·have d:(decide (k<=40)&&(decide (n<=5)||decide (8<n/\n<=10))&&(decide (m<=3)||decide (6<m/\m<=8)))=false:=by(try simp only[pC,qr,ed,oB,decide_eq_true_eq,decide_eq_false_iff_not]);omega
   rw[d];clear d;have g:an .leq (.int .i64 (n:Nat)) (.int .i64 5)=some (.bool false):=eS (by omega);have l:an .gtr (.int .i64 (n:Nat)) (.int .i64 8)=some (.bool true):=fM (by omega);have q:an .leq (.int .i64 (n:Nat)) (.int .i64 10)=some (.bool true):=fq (by omega);have j:an .leq (.int .i64 (m:Nat)) (.int .i64 3)=some (.bool false):=eS (by omega);have o:an .gtr (.int .i64 (m:Nat)) (.int .i64 6)=some (.bool true):=fM (by omega);have t:an .leq (.int .i64 (m:Nat)) (.int .i64 8)=some (.bool false):=eS (by omega);refine Y4 ?_;refine FW.pu C ?_;refine Y40 ?_;refine Y20 ?_;exact au e rfl rfl
 ·have d:(decide (k<=40)&&(decide (n<=5)||decide (8<n/\n<=10))&&(decide (m<=3)||decide (6<m/\m<=8)))=false:=by(try simp only[pC,qr,ed,oB,decide_eq_true_eq,decide_eq_false_iff_not]);omega
  rw[d];clear d;have g:an .leq (.int .i64 (n:Nat)) (.int .i64 5)=some (.bool false):=eS (by omega);have l:an .gtr (.int .i64 (n:Nat)) (.int .i64 8)=some (.bool true):=fM (by omega);have q:an .leq (.int .i64 (n:Nat)) (.int .i64 10)=some (.bool false):=eS (by omega);refine Y4 ?_;refine FW.pu C ?_;refine Y34 ?_;refine bS (by exact rfl) ?_;refine bS (by exact rfl) ?_;refine bS (by exact rfl) ?_;refine bS (by exact rfl) ?_;refine bS (by exact rfl) ?_;refine bS (by exact rfl) ?_;refine bS (by exact rfl) ?_;refine bS (by exact rfl) ?_;refine Y5 ?_;exact au e rfl rfl
section
variable {w:List Nat×List Nat} {l:List Pb} {ns:List (List (List Nat))} {s:List Fk} {cost:Int}
theorem IV(k:Nat)(f:List Nat)(fr paid:Int):jD w l ns s cost (k+1) f (-1) fr paid=if eG w l ns f=true then none else some 0:=by
 rw[jD,if_pos rfl]
variable{k:Nat}{f:List Nat}{fr paid:Int}
theorem vH{a:Int}(b:a≠ -1)(h:¬ (eG w l ns f=true/\fr<a/\a<s.length)):jD w l ns s cost (k+1) f a fr paid=none:=by
 rw[jD,if_neg b,if_neg h]
variable{i:Nat}{x:Fk}
theorem GN(h:eG w l ns f=true/\fr<(i:Int)/\(i:Int)<s.length)(b:s[i]? =some x)(a:¬ ((0<=x.probe/\x.probe<l.length)/\f.getD x.probe.toNat 0=0)):jD w l ns s cost (k+1) f i fr paid=none:=by
 rw[jD,if_neg (by omega),if_pos h,wy];simp only[b];rw[if_neg a]
theorem IU{p:Nat}(h:eG w l ns f=true/\fr<(i:Int)/\(i:Int)<s.length)(e:s[i]? =some x)(c:x.probe=(p:Nat))(d:p<l.length)(g:f.getD p 0=0):jD w l ns s cost (k+1) f i fr paid=if paid+dx l p<=cost then
 match jD w l ns s cost k (f.set p 1) x.yes i (paid+dx l p)with
 |none=>none
 |some a=>match jD w l ns s cost k (f.set p 2) x.no i (paid+dx l p)with
  |none=>none
  |some b=>some (a+b+1)
 else none:=by
 rw[jD,if_neg (by omega),if_pos h,wy];simp only[e];rw[c,wy,if_pos ⟨⟨by omega,by omega⟩,g⟩];split<;>rfl
end
variable{m q:Nat}{nv ov pv:Value}{os:List (List Nat)}
theorem Nl(F:BX T){K:Heap}(X:WF K){w:List Nat×List Nat}{l:List Pb}{ns:List (List (List Nat))}(Q0:QuH K q m w pv nv ov l os ns)(hc:∀p∈l,1<=p.cost/\p.cost<=1000){sv:Value}{s:List Fk}(S0:FkS K sv s)(fp:s.length<1000000){cost:Int}{bq bs bn bc bv:Nat}(M:K.next<=bn)(d1:bq≠bn)(d2:bs≠bn)(d3:bc≠bn)(d4:bv≠bn):
 ∀(k:Nat) {f:List Nat} {a fr paid n0:Int} {h:Heap},Rdy h->f.length=8->(bG l.length f).length<k-> -1<=fr->(0<=paid/\paid+1000*k<=100000)->(0<=n0/\n0+(2 ^ k:Nat)<=1000000)->VsH K h q sv cost n0 bq bs bn bc bv→
 Gp T 59 (yw f a fr paid bq bs bn bc bv) h (λz=>z=bn) (NQ w l ns s cost bn k f a fr paid n0) (NP w l ns s cost k f a fr paid):=by
 intro k;induction k with
 |zero=>intro f a fr paid n0 h _ _ hk;omega
 |succ k ih=>
  intro f a fr paid n0 h hr Z hk fb fj cY V;have Y:=V.wf.bP V.gn;have fg:1<=2 ^ k:=xx (by omega);rw[ut]at cY;refine Gp.of F.op.qu.p F.f203 (λv h1 h2 _ hn E ⟨e,m,e1,e2⟩=>⟨e,m,e1,(E bn Y).trans e2⟩) ?_;unfold yw;have cP:=gu f;have x0:Ext h (h.push (.cells (cellsOf (fV f)) true 1)):=(Ext.refl h).push _;have g9:(h.push (.cells (cellsOf (fV f)) true 1)).get h.next=some (.cells (fL f) true 1):=by rw[cP];exact z3 h _
  have n9:(h.push (.cells (cellsOf (fV f)) true 1)).next=h.next+1:=rfl
  refine Y3 ?_;generalize(h.push (.cells (cellsOf (fV f)) true 1))=H at*;have W:=x0.wf hr.wf;have hL:=x0.log.trans hr.log;have A:VsH K H q sv cost n0 bq bs bn bc bv:=V.ws W x0.next (λz n _=>x0.old z n) M d1 d2 d3 d4 ((x0.old bn Y).trans V.gn)
  obtain⟨mm,J,bj⟩:=Q0.mem;have bi:=X.bP J;have QH:QuH H q m w pv nv ov l os ns:=Q0.keep X A.nx (λz n _=>A.old z n) ⟨mm,(A.old m bi).trans J,bj⟩;have r:=tA F.op (h:={H with log:=[]}) (.of W) (QH.log []) Z;have fw:=iE Z;have fX:=fP Z;have ci:=A.gq;have d:∀z∈H.log,z=bn:=λz n=>by rw[hL]at n;cases n
  by_cases E:a= -1
  ·subst E;have j:=IV (w:=w) (l:=l) (ns:=ns) (s:=s) (cost:=cost) k f fr paid;have dv:an .eql (.int .i64 (-1)) (.int .i64 (-1))=some (.bool true):=rfl;generalize bsB w (l.zip f)=can at*;cases u:eG w l ns f with
   |true=>
    rw[u]at r;rw[u,if_pos rfl]at j;refine Y4 ?_;refine FW.pu r ?_;refine Y16 ?_;refine FW.pan (jN F) ?_;repeat first|refine rN ?_|refine rO ?_
    exact fJ d ⟨rfl,j⟩
   |false=>
    rw[u]at r;rw[u,if_neg (by simp)]at j;refine Y4 ?_;refine FW.pu r ?_;refine Y16 ?_;refine FW.pu (lS F (.of W)) ?_;refine Y3 ?_;exact JZ d rfl ⟨rfl,0,j,by rw[A.gn];simp⟩
  have dv:an .eql (.int .i64 a) (.int .i64 (-1))=some (.bool false):=iH E;obtain⟨sa,sc,U⟩:=aJ.form S0;subst U;have cj:=A.gs;cases hcan:bsB w (l.zip f)with
  |false=>
   have u:eG w l ns f=false:=by unfold eG;rw[hcan];rfl
   rw[hcan,u]at r;have j:=vH (w:=w) (l:=l) (ns:=ns) (s:=s) (cost:=cost) (k:=k) (f:=f) (fr:=fr) (paid:=paid) E (by rw[u];simp);refine Y4 ?_;refine FW.pu r ?_;refine Y31 ?_;refine FW.pan (jN F) ?_;repeat first|refine rN ?_|refine rO ?_
   exact fJ d ⟨rfl,j⟩
  |true=>
  rw[hcan]at r;cases u:eG w l ns f with
  |false=>
   rw[u]at r;have j:=vH (w:=w) (l:=l) (ns:=ns) (s:=s) (cost:=cost) (k:=k) (f:=f) (fr:=fr) (paid:=paid) E (by rw[u];simp);refine Y4 ?_;refine FW.pu r ?_;refine Y32 ?_;refine FW.pan (jN F) ?_;repeat first|refine rN ?_|refine rO ?_
   exact fJ d ⟨rfl,j⟩
  |true=>
  rw[u]at r;by_cases h1:fr<a;case neg=>
   have j:=vH (w:=w) (l:=l) (ns:=ns) (s:=s) (cost:=cost) (k:=k) (f:=f) (fr:=fr) (paid:=paid) E (λq=>h1 q.2.1);have mg:an .gtr (.int .i64 a) (.int .i64 fr)=some (.bool false):=gZ (by omega);refine Y4 ?_;refine FW.pu r ?_;refine Y35 ?_;refine FW.pan (jN F) ?_;repeat first|refine rN ?_|refine rO ?_
   exact fJ d ⟨rfl,j⟩
  have mg:an .gtr (.int .i64 a) (.int .i64 fr)=some (.bool true):=fM (by omega);by_cases h2:a<s.length;case neg=>
   have j:=vH (w:=w) (l:=l) (ns:=ns) (s:=s) (cost:=cost) (k:=k) (f:=f) (fr:=fr) (paid:=paid) E (λq=>h2 q.2.2);have ml:an .lss (.int .i64 a) (.int .i64 (s.length:Nat))=some (.bool false):=eM (by omega);refine Y4 ?_;refine FW.pu r ?_;refine Y39 ?_;refine FW.pan (jN F) ?_;repeat first|refine rN ?_|refine rO ?_
   exact fJ d ⟨rfl,j⟩
  have ml:an .lss (.int .i64 a) (.int .i64 (s.length:Nat))=some (.bool true):=dY (by omega);obtain⟨i,rfl⟩:=rp (show 0<=a by omega);have cX:i<s.length:=by omega
  obtain⟨x,hx⟩:∃x,s[i]? =some x:=⟨s[i],bx cX⟩;obtain⟨b,o,c,vs,hJ,t,U,cd,cJ,dp,fY,ge,gg⟩:=S0.elem hx;cases U;have eg:an .add (.int .i64 n0) (.int .i64 1)=some (.int .i64 (n0+1)):=jM (bO (by omega) (by omega));have aw:=A.gn;refine Y4 ?_;refine FW.pu r ?_;clear r;refine Y39 ?_;refine FW.pu (lS F (.of W)) ?_;refine y3 ?_;refine cI (E0:=[(1, .int .i64 (i:Nat)),(3, .int .i64 paid),(4, .pointer (some ⟨bq,0,none⟩)),(5, .pointer (some ⟨bs,0,none⟩)),(7, .pointer (some ⟨bc,0,none⟩)),(8, .pointer (some ⟨bv,0,none⟩)),(9, .pointer (some ⟨h.next,0,none⟩))]) (P:=λB=>B.next=h.next+1/\(∀z,z≠bn->B.get z=H.get z)/\B.get bn=some (.cells [.int .i64 (n0+1)] true 1)/\WF B∧∀z∈B.log,z=bn) ?_ ?_
  ·refine Y4 ?_;refine bH ?_;refine y1 ?_;exact⟨rfl,rfl,rfl,n9,λz n=>z5 n,Heap.aI aw,W.as (AS.wr h.next _ _ _),λz n=>(dy n).elim id (d z)⟩
  rintro H2 ⟨gt,x2,cf,W2,l2⟩;have D:VsH K H2 q (.slice (some ⟨b,o,none⟩) s.length sc) cost (n0+1) bq bs bn bc bv:=A.ws W2 (by omega) (λz n d9=>x2 z d9) M d1 d2 d3 d4 cf;have Q2:QuH H2 q m w pv nv ov l os ns:=Q0.keep X D.nx (λz n _=>D.old z n) ⟨mm,(D.old m bi).trans J,bj⟩;have bo:=(x2 h.next (by omega)).trans g9;have f8:=D.gs;have f0:=D.gq;have eQ:=D.gc;have eJ:=(D.old b cJ).trans cd;have f7:=Q2.gq;clear ci cj aw A QH d;obtain⟨pa,pc,da⟩:=Q2.sp.form;subst da;have hw:=Q2.hw;have kp:=rq hw (.slice pa l.length pc) nv ov (.map (some m));have fd:=Q2.hl;have eh:an .sub (.int .i64 (l.length:Nat)) (.int .i64 1)=some (.int .i64 ((l.length:Nat)-1:Int)):=mQ (bO (by omega) (by omega));have C:=Ku F.op.qu.p F.f106 (h:={H2 with log:=[]}) (.of W2) x.probe 0 ((l.length:Nat)-1:Int);have N:eG w l ns f=true/\fr<(i:Int)/\(i:Int)<s.length:=⟨u,h1,h2⟩;by_cases hpr:0<=x.probe/\x.probe<l.length;case neg=>
   have L:inR x.probe 0 ((l.length:Nat)-1:Int)=false:=by unfold inR;exact decide_eq_false (by omega)
   rw[L]at C;have j:=GN (cost:=cost) (k:=k) (paid:=paid) N hx (λq=>hpr q.1);refine Y17 ?_;refine FW.pu C ?_;refine Y7 ?_;refine FW.pan (jN F) ?_;repeat first|refine rN ?_|refine rO ?_
   exact fJ l2 ⟨rfl,j⟩
  have L:inR x.probe 0 ((l.length:Nat)-1:Int)=true:=by unfold inR;exact decide_eq_true (by omega)
  rw[L]at C;obtain⟨p,hp⟩:=rp hpr.1;have O:p<l.length:=by omega
  rw[hp]at dp C;obtain⟨y,hy⟩:∃y,f[p]? =some y:=⟨f[p]'(by omega),bx _⟩;have kf:=wz hy;have be:f.getD p 0=y:=by rw[kK,hy];rfl
  have mk:an .eql (.int .u8 (y:Nat)) (.int .u8 0)=some (.bool (decide (y=0))):=zL (c:=0) rfl;by_cases hy0:y=0;case neg=>
   rw[decide_eq_false hy0]at mk;have j:=GN (cost:=cost) (k:=k) (paid:=paid) N hx (λq=>hy0 (by rw[←be];have:=q.2;rw[hp]at this;exact this));refine Y17 ?_;refine FW.pu C ?_;refine Y11 ?_;refine FW.pan (jN F) ?_;repeat first|refine rN ?_|refine rO ?_
   exact fJ l2 ⟨rfl,j⟩
  rw[decide_eq_true hy0]at mk;obtain⟨z,n⟩:∃z,l[p]? =some z:=⟨l[p],bx O⟩;obtain⟨b3,o3,c3,hY,eI,t3,dj,eK,dE,ar⟩:=Q2.sp.elem n;cases dj;have kc:=ar.cost;have f9:=hc z (eA n);have aE:=qy n;have ba:f.getD p 0=0:=by rw[be];exact hy0
  have j:=IU (cost:=cost) (k:=k) (paid:=paid) N hx hp O ba;have du:an .add (.int .i64 paid) (.int .i64 z.cost)=some (.int .i64 (paid+dx l p)):=by rw[aE];exact jM (bO (by omega) (by omega))
  have I:0<=paid+dx l p/\paid+dx l p+1000*k<=100000:=by rw[aE];omega
  generalize paid+dx l p=pd at*;by_cases hpay:pd<=cost;case neg=>
   have dC:an .leq (.int .i64 pd) (.int .i64 cost)=some (.bool false):=eS (by omega);rw[if_neg hpay]at j;refine Y17 ?_;refine FW.pu C ?_;refine Y11 ?_;refine FW.pu (lS F (.of W2)) ?_;refine Y19 ?_;refine FW.pan (jN F) ?_;repeat first|refine rN ?_|refine rO ?_
   exact fJ l2 ⟨rfl,j⟩
  have dC:an .leq (.int .i64 pd) (.int .i64 cost)=some (.bool true):=fq (by omega);rw[if_pos hpay]at j;have G:p∈bG l.length f:=fB.2 ⟨O,ba⟩;have dT:=jm (a:=1) (by omega) (by omega) G;have e9:=jm (a:=2) (by omega) (by omega) G
  have ae:=Nk F S0 M d1 d2 d3 d4 Z (show p<8 by omega) hx (k:=k) (fr:=fr) (b9:=h.next) Y (by omega) D l2 bo (n1:=n0+1) (paid:=pd) (λ{B n'} S V' e=>ih S (by rw[lp];exact Z) (by omega) (by omega) I (by subst e;omega) V') rfl
   (λ{m' B n'} em S V' e=>ih S (by rw[lp];exact Z) (by omega) (by omega) I (by have:=TA em;subst e;omega) V')
   (Q:=NQ w l ns s cost bn (k+1) f i fr paid n0) (Qp:=NP w l ns s cost (k+1) f i fr paid) (fun m1 m2 B e1 e2 g=>⟨rfl,m1+m2+1,by rw[j,e1,e2],by rw[g,show n0+1+(m1:Nat)+(m2:Nat)=n0+((m1+m2+1:Nat):Int)by omega]⟩) (fun B q=>⟨rfl,by
     rw[j];rcases q with q|q
     ·rw[q]
     ·rw[q];cases jD w l ns s cost k (f.set p 1) x.yes i pd<;>rfl⟩)
  refine Y17 ?_;refine FW.pu C ?_;clear C;refine Y11 ?_;refine FW.pu (lS F (.of W2)) ?_;refine Y19 ?_;refine FW.pu (lS F (.of W2)) ?_;refine y3 ?_;exact ae
def y9(ks:List Int):List (Value×Value):=ks.map λc=>(.int .i64 c, .bool true)
theorem XO(a b:Int):oS false [.i .i64] (.int .i64 a) (.int .i64 b)=some (decide (a=b)):=by
 show bF [.i .i64] [.int .i64 a] [.int .i64 b]=_;simp only[bF,iG,if_true];by_cases h:a=b
 ·subst h;simp
 ·have e:(a==b)=false:=by simpa using h
  rw[e,decide_eq_false h]
theorem KF(a:Int):jr false [.i .i64] (.int .i64 a)=true:=by
 unfold jr;have e:bF [.i .i64] (cellsOf (.int .i64 a)) (cellsOf (.int .i64 a))=some true:=by
  show bF [.i .i64] [.int .i64 a] [.int .i64 a]=_;simp[bF,iG]
 rw[e];rfl
def pK(c:Int):Nat->List Int->Option Nat
 |_,[]=>none
 |i,x::ks=>if c=x then some i else pK c (i+1) ks
theorem Ka{c:Int}:∀{ks:List Int} {i:Nat},mu false [.i .i64] (.int .i64 c) i (y9 ks)=some ((pK c i ks).map λp=>(p, .bool true))
 |[],_=>rfl
 |x::ks,i=>by
  show mu false [.i .i64] (.int .i64 c) i ((.int .i64 x, .bool true)::y9 ks)=_;unfold mu pK;rw[XO];by_cases e:c=x
  ·rw[decide_eq_true e,if_pos e];rfl
  ·rw[decide_eq_false e,if_neg e];exact Ka
theorem rK{c:Int}:∀{ks:List Int} {i j:Nat},pK c i ks=some j->i<=j/\ks[j-i]? =some c
 |x::ks,i,j,h=>by
  unfold pK at h;split at h
  ·rename_i e;cases h;rw[ul];exact⟨bl _,by rw[e];rfl⟩
  ·obtain⟨h1,h2⟩:=rK h;refine⟨by omega,?_⟩;rw[show j-i=(j-(i+1))+1 by omega];exact h2
theorem rJ{c:Int}:∀{ks:List Int} {i:Nat},pK c i ks=none->c ∉ ks
 |[],_,_=>by simp
 |x::ks,i,h=>by
  unfold pK at h;split at h
  ·cases h
  ·rename_i e;intro hm;rcases List.mem_cons.1 hm with q|q
   ·exact e q
   ·exact rJ h q
theorem Hx(c:Int)(ks:List Int):(match pK c 0 ks with|some _=>true|none=>false)=decide (c∈ks):=by
 cases h:pK c 0 ks with
 |none=>exact(decide_eq_false (rJ h)).symm
 |some j=>exact(decide_eq_true (eA (rK h).2)).symm
def CV(ks:List Int)(c:Int):List Int:=if c∈ks then ks else ks++[c]
variable{ks:List Int}{c:Int}
theorem Kz{x:Int}:x∈CV ks c↔x=c∨x∈ks:=by
 unfold CV;split
 ·rename_i h;exact⟨.inr,λq=>q.elim (λe=>e▸h) id⟩
 ·rw[wp,wd];exact⟨λq=>q.symm,λq=>q.symm⟩
variable{base r:Nat}{h:Heap}{e:Env}{k:Operand}
theorem FO{m:Operand}(b:ev h e m=some (.map (some r)))(a:ev h e k=some (.int .i64 c))(hr:h.get r=some (.map (y9 ks))):aop h base e (.lookup false [.i .i64] (.bool false) false m k)=some (.val (.bool (decide (c∈ks))) h):=by
 rw[←Hx];simp only[aop,b,a,hr,rT,KF,cond_true,Ka];cases pK c 0 ks<;>rfl
theorem DP{α:Type}:∀{l:List α} {i:Nat} {x:α},l[i]? =some x->l.set i x=l
 |[],i,x,h=>by simp at h
 |y::l,0,x,h=>by simp at h;rw[h];rfl
 |y::l,i+1,x,h=>by rw[List.set_cons_succ,DP (by simpa using h)]
theorem BY{m v:Operand}(d:ev h e m=some (.map (some r)))(b:ev h e k=some (.int .i64 c))(f:ev h e v=some (.bool true))(hr:h.get r=some (.map (y9 ks))):
 aop h base e (.mE false [.i .i64] m k v)=some (.val (.tuple #[]) (h.wr base r (.map (y9 (CV ks c))))):=by
 simp only[aop,d,b,f,hr,KF,cond_true,Ka];cases hf:pK c 0 ks with
 |none=>
  have e:CV ks c=ks++[c]:=if_neg (rJ hf);rw[e];simp only[Option.map_none,dI];unfold y9;rw[tk];rfl
 |some j=>
  have a:=(rK hf).2;rw[Nat.sub_zero]at a;have e:CV ks c=ks:=if_pos (eA a);rw[e];simp only[z7,kI];rw[DP (by unfold y9;rw[rb,a];rfl)]
structure sI (R ks:List Int):Prop where
 mem:∀c,c∈ks↔c∈R
 nd:(R.filter λi=>decide (i≠ -1)).Nodup
theorem sI.nil:sI [] []:=⟨λ_=>Iff.rfl,List.nodup_nil⟩
theorem sI.add{R:List Int}(S:sI R ks)(g:c= -1∨c ∉ ks):sI (R++[c]) (CV ks c):=by
 refine⟨λx=> ?_,?_⟩
 ·rw[Kz,wp,wd,S.mem];exact⟨λq=>q.symm,λq=>q.symm⟩
 ·rw[wi];by_cases h1:c= -1
  ·rw[xi (by simpa using h1),List.filter_nil,oC];exact S.nd
  ·rw[zz (by simpa using h1),List.filter_nil,List.nodup_append];refine⟨S.nd,by simp,λa f b d e=> ?_⟩;rw[wd]at d;subst e;subst d;exact(g.resolve_left h1) ((S.mem _).2 (List.mem_filter.1 f).1)
theorem PU{R rest:List Int}(S:sI R ks)(h1:c≠ -1)(a:c∈ks):¬ ((R++c::rest).filter λi=>decide (i≠ -1)).Nodup:=by
 intro h;rw[wi,zz (by simpa using h1),List.nodup_append]at h;exact h.2.2 c (List.mem_filter.2 ⟨(S.mem c).1 a,by simpa using h1⟩) c b6 rfl
variable{i:Nat}{x:Fk}
theorem PK{s:List Fk}(b:s[i]? =some x):fS s=fS (s.take i)++x.yes::x.no::fS (s.drop (i+1)):=by
 obtain⟨a,rfl⟩:=List.getElem?_eq_some_iff.1 b;rw[←xV,←uv,←List.drop_eq_getElem_cons a,rv]
theorem Iu{s:List Fk}(a:s[i]? =some x):fS (s.take (i+1))=fS (s.take i)++[x.yes]++[x.no]:=by
 rw[fU a,uv];simp[fS]
structure Jb (T:Nat->Option aq):Prop where
 vi:BX T
 f99:T 27=some f99
def Vj:aN:=tlC (tlC (tlC (tlC (tlC (tlC (tlC (cdF f99)))))))
theorem Mg{w:List Nat×List Nat}{l:List Pb}{ns:List (List (List Nat))}{s:List Fk}{cost:Int}(h:¬DO s):¬se w l ns s cost:=λq=>h q.2.1
theorem Ke(F:Jb T)(hr:Rdy h){w:List Nat×List Nat}{l:List Pb}{ns:List (List (List Nat))}(Q0:QuH h q m w pv nv ov l os ns)(hc:∀p∈l,1<=p.cost/\p.cost<=1000){sa:Option Addr}{O:Nat}{s:List Fk}(S0:FkS h (.slice sa s.length O) s)(cj:s.length<1000000){cost:Int}(K:s.length=0->0<=cost)
 {u:Heap}(W4:WF u)(bj:u.log=[])(n4:u.next=h.next+5)(o4:∀z,z<h.next->u.get z=h.get z)(g3:u.get h.next=some (.cells [.pointer (some ⟨q,0,none⟩)] true 1))(g4:u.get (h.next+1)=some (.cells [.slice sa s.length O] true 1))(g5:u.get (h.next+2)=some (.cells [.int .i64 cost] true 1))(g6:u.get (h.next+3)=some (.cells [.int .i64 0] true 1))(g7:u.get (h.next+4)=some (.cells [IW h.next (h.next+1) (h.next+3) (h.next+2) (h.next+4)] true 1)):
 WE T h.next none Vj (Hr [] (λ_=>False) (λv _=>v= .tuple #[]/\se w l ns s cost) (λv _=>v=yR/\¬se w l ns s cost)) [(4, .pointer (some ⟨h.next+1,0,none⟩)),(6, .pointer (some ⟨h.next+3,0,none⟩)),(7, .pointer (some ⟨h.next+4,0,none⟩)),(8, .int .i64 (wB s)),(9, .map (some (h.next+5)))] [] (u.push (.map [])):=by
 have X:(u.push (.map [])).log=[]:=bj;have Wp:WF (u.push (.map [])):=W4.push _;have op:∀z,z<h.next+5->(u.push (.map [])).get z=u.get z:=λz r=>z4 (by omega)
 have gr:(u.push (.map [])).get (h.next+5)=some (.map (y9 [])):=by rw[←n4];exact z3 _ _
 have np:(u.push (.map [])).next=h.next+6:=by show u.next+1=_;omega
 generalize u.push (.map [])=Hp at*;have aE:=(op _ (by omega)).trans g4;unfold Vj tlC cdF f99;dsimp only;refine Y7 ?_
 refine cT (λk e Q g=>∃(i:Nat) (d:List Int),i<=s.length/\k=s.length-i/\e=[(4, .pointer (some ⟨h.next+1,0,none⟩)),(6, .pointer (some ⟨h.next+3,0,none⟩)),(7, .pointer (some ⟨h.next+4,0,none⟩)),(8, .int .i64 (wB s)),(9, .map (some (h.next+5))),(22, .slice sa s.length O),(23, .int .i64 (s.length:Nat)),(24, .int .i64 (i:Nat))]/\Q=[]/\g.log=[]/\WF g∧h.next+6<=g.next/\(∀z,z<h.next+5->g.get z=u.get z)/\g.get (h.next+5)=some (.map (y9 d))/\sI (fS (s.take i)) d)
  ⟨0,[],md _,rfl,rfl,rfl,X,Wp,by omega,op,gr, .nil⟩ ?_
 clear X Wp op gr np aE Hp;rintro k e Q G ⟨i,d,hi,rfl,rfl,rfl,y,H,nG,D,n,SG⟩;by_cases hlt:i<s.length
 ·obtain⟨x,hx⟩:∃x,s[i]? =some x:=⟨s[i],bx hlt⟩;obtain⟨b,o,c,vs,dE,t,cJ,ba,cd,du,dv,dC,cX⟩:=S0.elem hx;cases cJ;have gb:=((D b (by omega)).trans (o4 b cd)).trans ba;have cY:an .lss (.int .i64 (i:Nat)) (.int .i64 (s.length:Nat))=some (.bool true):=dY (by omega);have cP:fkL x=[.int .i64 x.probe, .int .i64 x.yes, .int .i64 x.no]:=rfl;rw[cP]at cX;refine Y9 ?_;refine cI (E0:=[(4, .pointer (some ⟨h.next+1,0,none⟩)),(6, .pointer (some ⟨h.next+3,0,none⟩)),(7, .pointer (some ⟨h.next+4,0,none⟩)),(8, .int .i64 (wB s)),(9, .map (some (h.next+5))),(11, .pointer (some ⟨G.next,0,none⟩)),(22, .slice (some ⟨b,o,none⟩) s.length O),(23, .int .i64 (s.length:Nat)),(24, .int .i64 (i:Nat))]) (P:=λg=>Ext G g∧g.next=G.next+1/\g.get G.next=some (.cells [.int .i64 x.probe, .int .i64 x.yes, .int .i64 x.no] true 1)) ?_ ?_
  ·refine Y2 ?_;refine aG (di (by exact rfl) (by assumption) (by assumption) (by exact rfl)) ?_;refine Y2 ?_;refine bH ?_;refine y1 ?_;exact⟨rfl,rfl,rfl,fK (by omega) _ _,rfl,YG⟩
  rintro J ⟨x2,n2,g2⟩;refine cI (E0:=[(4, .pointer (some ⟨h.next+1,0,none⟩)),(6, .pointer (some ⟨h.next+3,0,none⟩)),(7, .pointer (some ⟨h.next+4,0,none⟩)),(8, .int .i64 (wB s)),(9, .map (some (h.next+5))),(22, .slice (some ⟨b,o,none⟩) s.length O),(23, .int .i64 (s.length:Nat)),(24, .int .i64 (i:Nat)),(32, .slice (some ⟨J.next,0,none⟩) 2 2),(33, .int .i64 2),(34, .int .i64 0)]) (P:=λg=>Ext J g∧g.next=J.next+1/\∃sz,g.get J.next=some (.cells [.int .i64 x.yes, .int .i64 x.no] true sz)) ?_ ?_
  ·refine Y5 ?_;refine aG (iu (by exact rfl) (by exact rfl)) ?_;refine Y2 ?_;refine bH ?_;refine y1 ?_;exact⟨rfl,rfl,rfl,(Ext.refl J).push _,rfl,_,z3 _ _⟩
  rintro G3 ⟨x3,n3,d9,S⟩;have I:=x2.trans x3;have W3:=I.wf H;have W:=I.log.trans y;have Z:=PK hx;have ci:=Iu hx;refine lF ?_
  refine cT (λk e Q g=>∃(j:Nat) (d:List Int),j<=2/\k=2-j/\e=[(4, .pointer (some ⟨h.next+1,0,none⟩)),(6, .pointer (some ⟨h.next+3,0,none⟩)),(7, .pointer (some ⟨h.next+4,0,none⟩)),(8, .int .i64 (wB s)),(9, .map (some (h.next+5))),(22, .slice (some ⟨b,o,none⟩) s.length O),(23, .int .i64 (s.length:Nat)),(24, .int .i64 (i:Nat)),(32, .slice (some ⟨J.next,0,none⟩) 2 2),(33, .int .i64 2),(34, .int .i64 (j:Nat))]/\Q=[]/\g.log=[]/\WF g∧J.next<g.next/\(∀z,z<h.next+5->g.get z=u.get z)/\g.get (h.next+5)=some (.map (y9 d))/\g.get J.next=some (.cells [.int .i64 x.yes, .int .i64 x.no] true d9)/\sI (fS (s.take i)++[x.yes,x.no].take j) d)
   ⟨0,d,by omega,rfl,rfl,rfl,W,W3,by omega,λz r=>(I.old z (by omega)).trans (D z r),(I.old _ (by omega)).trans n,S,by simpa using SG⟩ ?_
  clear SG W W3 S g2 x2 x3 I n3 D n gb y H d;rintro k e Q G ⟨j,d,hj,rfl,rfl,rfl,y,H,aw,D,n,U,SG⟩;by_cases hj2:j<2
  ·obtain⟨E,dp,ae,L⟩:∃E:Int,bK [.int .i64 x.yes, .int .i64 x.no] (0+j*1)=some (Value.int .i64 E)/\[x.yes,x.no].take (j+1)=[x.yes,x.no].take j++[E]/\∃B,fS s=(fS (s.take i)++[x.yes,x.no].take j)++E::B:=by
    have:j=0∨j=1:=by omega
    rcases this with rfl|rfl
    ·exact⟨x.yes,rfl,rfl,x.no::fS (s.drop (i+1)),by rw[Z];simp⟩
    ·exact⟨x.no,rfl,rfl,fS (s.drop (i+1)),by rw[Z];simp⟩
   obtain⟨B,L⟩:=L;have ar:an .lss (.int .i64 (j:Nat)) (.int .i64 2)=some (.bool true):=dY (by omega);have cf:∀{Q':XQ},(E= -1∨E ∉ d)->True:=λ_=>trivial;clear cf;by_cases h1:E= -1
   ·have N:an .eql (.int .i64 E) (.int .i64 (-1))=some (.bool true):=mD h1;have A:=SG.add (.inl h1);rw[rr,←ae]at A;refine Y24 ?_;refine FW.pu (lS F.vi (.of H)) ?_;refine Y4 ?_;refine aG (BY (ks:=d) (by exact rfl) (by exact rfl) (by exact rfl) n) ?_;refine bH ?_;refine Y7 ?_;exact⟨2-(j+1),by omega,j+1,CV d E,by omega,rfl,rfl,rfl,(Heap.aD (by omega)).trans y,H.as (AS.wr h.next _ _ _),aw,λz r=>(z5 (by omega)).trans (D z r),Heap.aI n,(z5 (by omega)).trans U,A⟩
   ·have N:an .eql (.int .i64 E) (.int .i64 (-1))=some (.bool false):=iH h1;by_cases h2:E∈d
    ·have Y:=PU (rest:=B) SG h1 h2;rw[←L]at Y;refine Y23 ?_;refine aG (FO (ks:=d) (by exact rfl) (by exact rfl) n) ?_;rw[decide_eq_true h2];refine Y4 ?_;refine FW.pan (jN F.vi) ?_;repeat first|refine rN ?_|refine rO ?_|refine HE ?_
     exact fJ (λz r=>by rw[y]at r;cases r) ⟨rfl,Mg Y⟩
    ·have A:=SG.add (.inr h2);rw[rr,←ae]at A;refine Y23 ?_;refine aG (FO (ks:=d) (by exact rfl) (by exact rfl) n) ?_;rw[decide_eq_false h2];refine Y4 ?_;refine FW.pu (lS F.vi (.of H)) ?_;refine Y4 ?_;refine aG (BY (ks:=d) (by exact rfl) (by exact rfl) (by exact rfl) n) ?_;refine bH ?_;refine Y7 ?_;exact⟨2-(j+1),by omega,j+1,CV d E,by omega,rfl,rfl,rfl,(Heap.aD (by omega)).trans y,H.as (AS.wr h.next _ _ _),aw,λz r=>(z5 (by omega)).trans (D z r),Heap.aI n,(z5 (by omega)).trans U,A⟩
  ·obtain rfl:j=2:=by omega
   have ar:an .lss (.int .i64 (2:Nat)) (.int .i64 2)=some (.bool false):=rfl;have bo:sI (fS (s.take (i+1))) d:=by rw[ci,rr];exact SG
   refine Y15 ?_;exact⟨s.length-(i+1),by omega,i+1,d,by omega,rfl,rfl,rfl,y,H,by omega,D,n,bo⟩
 ·obtain rfl:i=s.length:=by omega
  have cY:an .lss (.int .i64 (s.length:Nat)) (.int .i64 (s.length:Nat))=some (.bool false):=eM (by omega);rw[q9]at SG;have M:DO s:=SG.nd;have V:VsH h G q (.slice sa s.length O) cost 0 h.next (h.next+1) (h.next+3) (h.next+2) (h.next+4):=⟨H,by omega,λz r=>(D z (by omega)).trans (o4 z r),(D _ (by omega)).trans g3,(D _ (by omega)).trans g4,(D _ (by omega)).trans g6,(D _ (by omega)).trans g5,(D _ (by omega)).trans g7⟩
  have C:=Nl F.vi hr.wf Q0 hc S0 cj (cost:=cost) (bq:=h.next) (bs:=h.next+1) (bn:=h.next+3) (bc:=h.next+2) (bv:=h.next+4) (by omega) (by omega) (by omega) (by omega) (by omega) 10 (f:=z8) (a:=wB s) (fr:= -1) (paid:=0) (n0:=0) (h:={G with log:=[]}) (.of H) rfl (by have:=jL l.length z8;have:=Q0.hl;omega) (by omega) (by omega) (by decide) (V.log []);unfold yw at C;have bi:=V.gv;have be:=V.gs;unfold IW at bi;refine Y15 ?_;refine FW.gpb C (λz r=>by omega) y (λv g m q=>q) (λv g m q=>q) ?_ ?_
  ·rintro v h5 w5 l5 ⟨rfl,m',hm,da⟩;have W5:=w5.wf H;have dj:=(w5.old (h.next+1) (by omega) (by omega)).trans be;by_cases hme:m'=s.length
   ·have N:an .eql (.int .i64 (0+((m':Nat):Int))) (.int .i64 (s.length:Nat))=some (.bool true):=mD (by omega);refine Y7 ?_;refine FW.pu (lS F.vi (.of W5)) ?_;refine bH ?_;refine y1 ?_;exact wq (λz r=>by rw[l5]at r;cases r) rfl ⟨rfl,K,M,by rw[hm,hme]⟩
   ·have N:an .eql (.int .i64 (0+((m':Nat):Int))) (.int .i64 (s.length:Nat))=some (.bool false):=iH (by omega);refine Y7 ?_;refine FW.pan (jN F.vi) ?_;repeat first|refine rN ?_|refine rO ?_|refine HE ?_
    exact fJ (λz r=>by rw[l5]at r;cases r) ⟨rfl,λq=>hme (by have:=q.2.2;rw[hm]at this;exact Option.some.inj this)⟩
  ·rintro v h5 w5 l5 ⟨rfl,hm⟩;repeat first|refine rN ?_|refine rO ?_|refine HE ?_
   exact fJ (λz r=>by rw[l5]at r;cases r) ⟨rfl,λq=>by have:=q.2.2;rw[hm]at this;cases this⟩
theorem Kf(F:Jb T)(hr:Rdy h){w:List Nat×List Nat}{l:List Pb}{ns:List (List (List Nat))}(Q:QuH h q m w pv nv ov l os ns)(X:∀p∈l,1<=p.cost/\p.cost<=1000){sv:Value}{s:List Fk}(G:FkS h sv s)(y:s.length<1000000)(cost:Int):
 Gp T 27 [.pointer (some ⟨q,0,none⟩),sv, .int .i64 cost] h (λ_=>False) (λv _=>v= .tuple #[]/\se w l ns s cost) (λv _=>v=yR/\¬se w l ns s cost):=by
 refine Gp.of F.vi.op.qu.p F.f99 (λv h1 h2 _ hn ha e=>e) ?_;obtain⟨N,O,A⟩:=aJ.form G;subst A;refine cI (E0:=[(3, .pointer (some ⟨h.next,0,none⟩)),(4, .pointer (some ⟨h.next+1,0,none⟩)),(5, .pointer (some ⟨h.next+2,0,none⟩))]) (P:=λa=>Ext h a∧a.next=h.next+3/\a.get h.next=some (.cells [.pointer (some ⟨q,0,none⟩)] true 1)/\a.get (h.next+1)=some (.cells [.slice N s.length O] true 1)/\a.get (h.next+2)=some (.cells [.int .i64 cost] true 1)) ?_ ?_
 ·refine Y4 ?_;refine bH ?_;refine y1 ?_;exact⟨rfl,rfl,rfl,(((Ext.refl h).push _).push _).push _,rfl,YH,YH,YH⟩
 rintro i ⟨x1,n1,U,V,W⟩;refine cI (E0:=[(3, .pointer (some ⟨h.next,0,none⟩)),(4, .pointer (some ⟨h.next+1,0,none⟩)),(5, .pointer (some ⟨h.next+2,0,none⟩)),(6, .pointer (some ⟨i.next,0,none⟩))]) (P:=λa=>Ext i a∧a.next=i.next+1/\a.get i.next=some (.cells [.int .i64 0] true 1)) ?_ ?_
 ·refine Y3 ?_;refine bH ?_;refine y1 ?_;exact⟨rfl,rfl,rfl,fK (by omega) _ _,rfl,gY _ _⟩
 rintro j ⟨t,n2,K⟩;refine cI (E0:=[(3, .pointer (some ⟨h.next,0,none⟩)),(4, .pointer (some ⟨h.next+1,0,none⟩)),(5, .pointer (some ⟨h.next+2,0,none⟩)),(6, .pointer (some ⟨i.next,0,none⟩)),(7, .pointer (some ⟨j.next,0,none⟩))]) (P:=λa=>Ext j a∧a.next=j.next+1/\a.get j.next=some (.cells [.nilFunc] true 1)) ?_ ?_
 ·refine Y2 ?_;refine bH ?_;refine y1 ?_;exact⟨rfl,rfl,rfl,(Ext.refl j).push _,rfl,z3 _ _⟩
 rintro E ⟨r,n3,L⟩;have g:=(x1.trans t).trans r;have S:=g.wf hr.wf;have x:=g.log.trans hr.log;have I:i.next=h.next+3:=n1
 have J:j.next=h.next+4:=by omega
 rw[I,J];rw[J]at L;rw[I]at K;refine cI (E0:=[(4, .pointer (some ⟨h.next+1,0,none⟩)),(5, .pointer (some ⟨h.next+2,0,none⟩)),(6, .pointer (some ⟨h.next+3,0,none⟩)),(7, .pointer (some ⟨h.next+4,0,none⟩))]) (P:=λa=>a.next=h.next+5/\a.log=[]/\WF a∧(∀z,z≠h.next+4->a.get z=E.get z)/\a.get (h.next+4)=some (.cells [IW h.next (h.next+1) (h.next+3) (h.next+2) (h.next+4)] true 1)) ?_ ?_
 ·refine Y3 ?_;refine bH ?_;refine y1 ?_;exact⟨rfl,rfl,rfl,by show E.next=_;omega,(Heap.aD (by omega)).trans x,S.as (AS.wr _ _ _ _),λz k=>z5 k,Heap.aI L⟩
 rintro n ⟨D,o,H,d,u⟩;have o4:∀z,z<h.next->n.get z=h.get z:=λz k=>(d z (by omega)).trans (g.old z k)
 have Y:n.get h.next=some (.cells [.pointer (some ⟨q,0,none⟩)] true 1):=(d _ (by omega)).trans ((r.old _ (by omega)).trans ((t.old _ (by omega)).trans U))
 have Z:n.get (h.next+1)=some (.cells [.slice N s.length O] true 1):=(d _ (by omega)).trans ((r.old _ (by omega)).trans ((t.old _ (by omega)).trans V));have k5:n.get (h.next+2)=some (.cells [.int .i64 cost] true 1):=(d _ (by omega)).trans ((r.old _ (by omega)).trans ((t.old _ (by omega)).trans W));have k6:n.get (h.next+3)=some (.cells [.int .i64 0] true 1):=(d _ (by omega)).trans ((r.old _ (by omega)).trans K);have b:=λf=>Ke F hr Q X G y (cost:=cost) f H o D o4 Y Z k5 k6 u;have M:wB s=if s.length=0 then -1 else 0:=rfl
 by_cases h0:s.length=0
 ·have B:an .eql (.int .i64 (s.length:Nat)) (.int .i64 0)=some (.bool true):=mD (by omega);rw[M,if_pos h0]at b;by_cases hcs:0<=cost
  ·have C:an .geq (.int .i64 cost) (.int .i64 0)=some (.bool true):=wQ hcs;have c:=b λ_=>hcs;refine Y17 ?_;refine FW.pu (lS F.vi (.of H)) ?_;refine Y2 ?_;refine aG vm ?_;rw[D];refine yM ?_;refine y3 ?_;exact c
  ·have C:an .geq (.int .i64 cost) (.int .i64 0)=some (.bool false):=ue (by omega);refine Y17 ?_;refine FW.pan (jN F.vi) ?_;repeat first|refine rN ?_|refine rO ?_|refine HE ?_
   exact fJ (λz k=>by rw[o]at k;cases k) ⟨rfl,λq=>hcs (q.1 h0)⟩
 ·have B:an .eql (.int .i64 (s.length:Nat)) (.int .i64 0)=some (.bool false):=iH (by omega);rw[M,if_neg h0]at b;have c:=b λe=>absurd e h0;refine Y13 ?_;refine aG vm ?_;rw[D];refine yM ?_;refine y3 ?_;exact c
variable{K:Nat}
theorem JW(a:T 58=some f202):DW T 58 [.pointer (some ⟨K,0,none⟩)] none h λp h'=>p=none/\h'=h:=by
 refine .of a ?_;refine sq (kz (PS (iR (dD (by exact rfl)) (sw ⟨rfl,?_⟩))));refine sq (kz (iR (dD (by exact rfl)) (iR (show aop h h.next _ (.bin (.nil .iface true) (.tmp 5) (.const .nilIface))=some (.val (.bool false) h)from rfl) (sw ⟨rfl,?_⟩))));exact DM rfl (Gz ⟨.inl rfl,rfl,rfl⟩)
variable{b:Bool}
theorem Hi(e:T 58=some f202)(c:h.get K=some (.cells [.bool b] true 1))(d:K<h.next):
 DW T 58 [.pointer (some ⟨K,0,none⟩)] (some yR) h λp h'=>p=none/\(∀z∈h'.log,z∈h.log∨z=K)/\h'.get K=some (.cells [.bool false] true 1):=by
 refine .of e ?_;refine sq (kz (PT (iR (dD (by exact rfl)) (sw ⟨rfl,?_⟩))));refine sq (kz (iR (dD (by exact rfl)) (iR (show aop h h.next _ (.bin (.nil .iface true) (.tmp 5) (.const .nilIface))=some (.val (.bool true) h)from rfl) (sw ⟨rfl,?_⟩))));refine PR rfl ?_
 refine sq (sq (kz (iR (dD (by exact rfl)) (iR (show aop h h.next _ (.jT 119 true (.agg #[]) (.tmp 8))=some (.val (.tuple #[.agg #[], .bool true]) h)from rfl) (iR (dD (by exact rfl)) (iR (qp (by exact rfl) (by exact rfl)) (iR (qp (by exact rfl) (by exact rfl)) (iR uG
  (iR (iV (b:=h.next) (o:=0) (vs:=[]) (ws:=[]) (by exact rfl) (by exact rfl) (z3 _ _) (by exact rfl) (by exact rfl)) (iR (dD (by exact rfl)) (sw ⟨rfl,?_⟩)))))))))))
 have g:K≠h.next:=by omega
 have a:((h.push (.cells [] true 1)).wr h.next h.next (.cells [] true 1)).get K=some (.cells [.bool b] true 1):=(z5 g).trans ((z4 d).trans c);have i:((h.push (.cells [] true 1)).wr h.next h.next (.cells [] true 1)).log=h.log:=Heap.aD (bl _);refine sq (kz (iR (dD (by exact rfl)) (iR (sL (by exact rfl)) (sw ⟨rfl,?_⟩))));refine DM rfl (Gz ⟨rfl,?_⟩);generalize((h.push (.cells [] true 1)).wr h.next h.next (.cells [] true 1))=H at*;refine kz (iR (iV (ws:=[.bool false]) (by exact rfl) (by exact rfl) a (by exact rfl) (by exact rfl)) (sw ⟨.inl rfl,rfl,?_,?_⟩))
 ·refine uB (S:=λz=>z∈h.log∨z=K) (λz f=> .inl (i▸f)) (.inr rfl)
 ·exact Heap.aI a
structure FG (T:Nat->Option aq):Prop where
 cs:Jb T
 od:zh T
 f27:T 8=some f27
 f97:T 25=some f97
 f98:T 26=some f98
 f202:T 58=some f202
variable{b1 b2 b3:Nat}
theorem XB(F:FG T)(hr:Rdy h){w:List Nat×List Nat}{r n o:Value}{l:List Pb}{ns:List (List (List Nat))}(g:QuH h q m w r n o l os ns)(k:∀p∈l,1<=p.cost/\p.cost<=1000){sv:Value}{s:List Fk}(f:FkS h sv s)(c:s.length<1000000){cost:Int}(u:h.get b1=some (.cells [.pointer (some ⟨q,0,none⟩)] true 1))(x:h.get b2=some (.cells [sv] true 1))(y:h.get b3=some (.cells [.int .i64 cost] true 1)):
 Gp T 26 [.pointer (some ⟨b1,0,none⟩), .pointer (some ⟨b2,0,none⟩), .pointer (some ⟨b3,0,none⟩)] h (λ_=>False) (λv _=>v= .tuple #[]/\se w l ns s cost) (λv _=>v=yR/\¬se w l ns s cost):=by
 refine Gp.of F.cs.vi.op.qu.p F.f98 (λv A B _ E D e=>e) ?_;obtain⟨G,H,rfl⟩:=aJ.form f;have C:=Kf F.cs (h:={h with log:=[]}) (.of hr.wf) (g.log []) k (aJ.log f []) c cost;refine Y5 ?_;refine FW.gpb C (λz a=>a.elim) hr.log (λv i m q=>q) (λv i m q=>q) ?_ ?_
 ·rintro v j t d ⟨rfl,b⟩;refine bH ?_;refine y1 ?_;exact wq (λz a=>by rw[d]at a;cases a) rfl ⟨rfl,b⟩
 ·rintro v j t d ⟨rfl,b⟩;repeat first|refine rN ?_|refine rO ?_|refine HE ?_
  exact fJ (λz a=>by rw[d]at a;cases a) ⟨rfl,b⟩
variable{O:Value}
theorem RX(F:FG T)(hr:Rdy h){w:List Nat×List Nat}{S P:Value}{l:List Pb}{ns:List (List (List Nat))}(B:QuH h q m w S O P l os ns)(I:∀p∈l,1<=p.cost/\p.cost<=1000){sv:Value}{s:List Fk}(D:FkS h sv s)(n:s.length<1000000){cost:Int}(u:h.get b1=some (.cells [.pointer (some ⟨q,0,none⟩)] true 1))(x:h.get b2=some (.cells [sv] true 1))(y:h.get b3=some (.cells [.int .i64 cost] true 1)):
 Al T 25 [.func (.func 26) #[] #[.pointer (some ⟨b1,0,none⟩), .pointer (some ⟨b2,0,none⟩), .pointer (some ⟨b3,0,none⟩)]] h λv _=>∃b,v= .bool b/\(b=true↔se w l ns s cost):=by
 refine Al.ofD F.cs.vi.op.qu.p F.f97 hr (λv U V q=>q) ?_;have d:Ext h (h.push (.cells [.bool false] true 1)):=(Ext.refl h).push _;have A:(h.push (.cells [.bool false] true 1)).get h.next=some (.cells [.bool false] true 1):=z3 _ _
 have X:(h.push (.cells [.bool false] true 1)).next=h.next+1:=rfl
 refine Y3 ?_;generalize(h.push (.cells [.bool false] true 1))=H at*;have W:=d.wf hr.wf;have G:=d.log.trans hr.log;have J:=hr.wf.bP u;have L:=hr.wf.bP x;have M:=hr.wf.bP y;have C:=XB F (h:={H with log:=[]}) (.of W) ((B.ext hr.wf d).log []) I (aJ.log (aJ.ext D d) []) n ((d.old _ J).trans u) ((d.old _ L).trans x) ((d.old _ M).trans y);refine Y2 ?_;refine Qv (by rfl) ?_;refine Y4 ?_;refine FW.gpb C (λz r=>r.elim) G (λv f m q=>q) (λv f m q=>q) ?_ ?_
 ·rintro v e g t ⟨rfl,k⟩;have a:=(g.old h.next (by omega) id).trans A;refine Y5 ?_;have E:(e.wr h.next h.next (.cells [.bool true] true 1)).get h.next=some (.cells [.bool true] true 1):=Heap.aI a
  obtain⟨Q,f,c,rfl,rfl⟩:=JW (T:=T) (h:={(e.wr h.next h.next (.cells [.bool true] true 1))with log:=[]}) F.f202 (K:=h.next);refine⟨⟨λi=>nofun,58,_,_,_,rfl,none,_,c,rfl,?_,[_],p9 (b:=h.next) (o:=0) rfl E rfl Bu,true,rfl,⟨λ_=>k,λ_=>rfl⟩⟩⟩;show aB h.next (e.wr h.next h.next (.cells [.bool true] true 1)).log []=[]
  rw[Heap.aD (bl _),t];rfl
 ·rintro v e g t ⟨rfl,k⟩;have a:=(g.old h.next (by omega) id).trans A;have Y:=g.next
  repeat first|refine rN ?_|refine rO ?_|refine HE ?_
  obtain⟨Q,f,c,rfl,N,j⟩:=Hi (T:=T) (h:={e with log:=[]}) F.f202 a (show h.next<e.next by omega);refine⟨⟨λi=>nofun,58,_,_,_,rfl,none,f,c,rfl,?_,[_],p9 (b:=h.next) (o:=0) rfl j rfl Bu,false,rfl,⟨λq=>(by cases q),λq=>absurd q k⟩⟩⟩;rw[t,AC];intro z r;rcases rV r with q|⟨q,hb⟩
  ·cases q
  ·rcases N z q with q|q
   ·cases q
   ·omega
def mK(w:List Nat×List Nat)(l:List Pb)(os:List (List Nat))(s:List Fk)(b:Bool):Bool×Int:=if opE w l os≠0 then(false,opE w l os)else if 256<s.length then(false,2)else(b,0)
theorem FZ(F:FG T)(hr:Rdy h)(hg:Tab h)(h2:0<h.next){w:List Nat×List Nat}(E:IsW w){Q:Value}{l:List Pb}(U:PbS h Q l)(hl:l.length<1000000)(S:SsQ h O os)(B:os.length<1000000){sv:Value}{s:List Fk}(K:FkS h sv s)(D:s.length<1000000)(cost:Int)(hb:b=true↔se w l (os.map (dR w)) s cost):
 Pu T 8 [wV w,Q,O,sv, .int .i64 cost] h (.tuple #[.bool (mK w l os s b).1, .int .i64 (mK w l os s b).2]):=by
 have hp:=F.cs.vi.op.qu.p;refine .of hp F.f27 hr rfl ?_;have G:cellsOf (wV w)=wL w:=by show(wL w).toArray.toList=_;simp
 obtain⟨a,c,rfl⟩:=U.form;obtain⟨Y,c3,rfl⟩:=S.sl.form;obtain⟨sa,sc,rfl⟩:=aJ.form K;refine cI (E0:=[(1, .slice a l.length c),(2, .slice Y os.length c3),(5, .pointer (some ⟨h.next,0,none⟩)),(8, .pointer (some ⟨h.next+1,0,none⟩)),(9, .pointer (some ⟨h.next+2,0,none⟩))]) (P:=λf=>Ext h f∧f.next=h.next+3/\f.get h.next=some (.cells (wL w) true 1)/\f.get (h.next+1)=some (.cells [.slice sa s.length sc] true 1)/\f.get (h.next+2)=some (.cells [.int .i64 cost] true 1)) ?_ ?_
 ·refine Y6 ?_;refine bH ?_;refine y1 ?_;rw[G];exact⟨rfl,rfl,rfl,(((Ext.refl h).push _).push _).push _,rfl,YH,YH,YH⟩
 rintro H ⟨g,n0,g0,M,N⟩;have W:=g.wf hr.wf;have hL:=g.log.trans hr.log;have wk:=oN E;have ae:=kM E;have J:=pW F.od (h:={H with log:=[]}) (.of W) (show Tab H from hg.ext g h2) (by show 0<H.next;omega) E ((U.ext g).log []) hl ((S.ext g).log []) B;unfold mK;refine Y5 ?_;refine FW.al J (λv f m q=> ?_) ?_
 ·rcases q with q|⟨e,q,m',nv,e1,e2,e3,e4,e5⟩
  ·exact .inl q
  ·exact .inr ⟨e,q,m',nv,e1,e2,e3,e4.log m,e5⟩
 clear J;rintro _ o i hq;have L:=i.wf W;have k:=i.log.trans hL;have n1:=i.next
 have u:=(i.old _ (by omega)).trans M;have y:=(i.old _ (by omega)).trans N;clear g0 M N;rcases hq with⟨he,rfl⟩|⟨he,q,m,nv,rfl,hq1,hq2,Q1,gm⟩
 ·simp only[if_pos he];generalize opE w l os=er at*;have mn:an .neq (.int .i64 er) (.int .i64 0)=some (.bool true):=jc he;refine Y20 ?_;exact au ((Heap.aD (by omega)).trans k) rfl rfl
 simp only[if_neg (λq:opE w l os≠0=>q he)];have mn:an .neq (.int .i64 0) (.int .i64 0)=some (.bool false):=rfl;refine Y7 ?_;refine WE.vh ?_;intro r d;have j:Ext o r:=by rw[d];exact fK (by omega) _ _
 have t:r.get o.next=some (.cells [.pointer (some ⟨q,0,none⟩)] true 1):=by rw[d];exact gY _ _
 have n2:r.next=o.next+1:=by rw[d];rfl
 clear d;have X:=j.wf L;have n:=j.log.trans k;have x:=(j.old _ (by omega)).trans u;have z:=(j.old _ (by omega)).trans y;by_cases h256:256<s.length
 ·have mg:an .gtr (.int .i64 (s.length:Nat)) (.int .i64 256)=some (.bool true):=fM (by omega);rw[if_pos h256];refine Y21 ?_;exact au n rfl rfl
 ·have mg:an .gtr (.int .i64 (s.length:Nat)) (.int .i64 256)=some (.bool false):=gZ (by omega);rw[if_neg h256];have I:=(g.trans i).trans j;have C:=qP (j4.1 (nR.1 he).1).2.2.2.2;have V:=RX F (h:={r with log:=[]}) (.of X) ((Q1.ext L j).log []) C (aJ.log (aJ.ext K I) []) D (cost:=cost) (b1:=o.next) (b2:=h.next+1) (b3:=h.next+2) t x z;refine Y20 ?_;refine FW.al V (λv f m q=>q) ?_;rintro _ H3 x3 ⟨Z,rfl,A⟩;have e:Z=b:=by rw[vj,A,hb]
  subst e;refine Y4 ?_;exact au (x3.log.trans n) rfl rfl
end Go.A.Pk
end
section
namespace Go.A.Pk
variable {T:Nat->Option aq}
def ji(mm:List (List Nat×Int))(f:List Nat):Int:=match lu f 0 mm with|some (_,v)=>v|none=>0
theorem As{base:Nat}{h:Heap}{e:Env}{m k:Operand}{r:Nat}{mm:List (List Nat×Int)}{f:List Nat}(d:ev h e m=some (.map (some r)))(c:ev h e k=some (fV f))(hr:rT (h.get r)=some (fT mm))(a:f.length=8)(b:∀x∈mm,x.1.length=8):
 aop h base e (.lookup true (aR 8 (.i .u8)) (.int .i64 0) false m k)=some (.val (.int .i64 (ji mm f)) h):=by
 unfold ji;simp only[aop,d,c,hr,EE a,cond_true,findF a b];cases lu f 0 mm<;>rfl
section
open I
def Cf:aN:=(I.R [M 9 19] [4,5,6,7,8,9])
def Ck:aN:=(.block 1 (I.Q (I.R [g 10 (.mov (.const (.bool false)))] [4,5,6,7,8,9,10])
 (I.Q (.seq (I.R [g 20 (.build [(.int .u8 0),(.int .u8 0)] [(0,1,(.const (.int .u8 1))),(1,1,(.const (.int .u8 2)))]),K 21 0] [4,5,6,7,8,9,10,20,21])
 (.block 2 (.loop (I.Q (I.R [C 22 .lss 21 2] [4,5,6,7,8,9,10,20,21,22])
 (I.Q (.cond (t 22) .skip (.exit 2))
 (I.Q (.block 3 (I.Q (I.R [g 23 (.rL 2 1 none (t 20) (t 21)),M 12 23] [4,5,6,7,8,9,10,12,20,21])
 (I.Q (I.R [N 24 8 6,M 25 9,M 26 12,g 27 (.call (.func 39) [(t 24),(t 25),(t 26)]),g 13 (.new (aR 8 (.int .u8 0))),S 8 13 27] [4,5,6,7,8,9,10,13,20,21])
 (I.Q (I.R [L 29 4,N 30 8 13,g 31 (.call (.func 32) [(t 29),(t 30)]),M 28 31,E 32 28 0,E 33 28 1,M 14 32,M 15 33] [4,5,6,7,8,9,10,13,14,20,21])
 (I.Q (.draw [M 34 14,M 35 34,⟨some 36, .load none (t 7),(some (35,true))⟩,⟨some 37, .load none (t 4),(some (35,true))⟩,⟨some 38, .cg (t 37),(some (35,true))⟩,⟨some 39, .dz 16 (t 38),(some (35,true))⟩,⟨some 40, .load none (t 39),(some (35,true))⟩,W 41 9 35 true,⟨some 42, .aQ 9 (t 40) (t 41),(some (35,true))⟩,⟨some 43, .dz 8 (t 42),(some (35,true))⟩,⟨some 44, .load none (t 43),(some (35,true))⟩,⟨some 45, .bin (.num .leq) (t 36) (t 44),(some (35,true))⟩,W 46 45 35 true,⟨some 47, .load none (t 5),(some (46,false))⟩,⟨some 48, .load (some 8) (t 13),(some (46,false))⟩,⟨some 49, .lookup true (aR 8 (.i .u8)) O false (t 47) (t 48),(some (46,false))⟩,⟨some 50, .load none (t 7),(some (46,false))⟩,⟨some 51, .load none (t 4),(some (46,false))⟩,⟨some 52, .cg (t 51),(some (46,false))⟩,⟨some 53, .dz 16 (t 52),(some (46,false))⟩,⟨some 54, .load none (t 53),(some (46,false))⟩,W 55 9 46 false,⟨some 56, .aQ 9 (t 54) (t 55),(some (46,false))⟩,⟨some 57, .dz 8 (t 56),(some (46,false))⟩,⟨some 58, .load none (t 57),(some (46,false))⟩,⟨some 59, .bin (.num .sub) (t 50) (t 58),(some (46,false))⟩,⟨some 60, .bin (.num .geq) (t 49) (t 59),(some (46,false))⟩,⟨some 61, .pick (t 46) (.const (.bool true)) (t 60),(some (35,true))⟩,g 62 (.pick (t 35) (t 61) (.const (.bool false)))] [0,1,2,3,4,5,6,7,8,9,10,11,12,13,14,15,16,17,18,19,20,21,22,23,24,25,26,27,28] [0,1,3,3,11,27,59,3,251,507,1019,2047,4095,8191,8191,32767,8191,8191,139263,401407,925695,8191,4071423,8265727,16654335,33497087,67108863,134217727,268435455] [4,5,6,7,8,9,10,20,21,62])
 (.cond (t 62) (I.R [g 10 (.mov (.const (.bool true)))] [4,5,6,7,8,9,10,20,21]) .skip))))))
 (I.R [C 63 .add 21 1,M 21 63] [4,5,6,7,8,9,10,20,21])))))))
 (I.Q (I.R [M 64 10,g 65 (.un .not (t 64))] [8,65])
 (.cond (t 65) (I.Q (I.R [⟨none, .store 1 (t 8) (.const (.bool false)),none⟩] [])
 .ret) .skip)))))
end
structure Jd (T:Nat->Option aq):Prop where
 op:sF T
 f109:T 33=some f109
def hoE(b:Nat)(fn:Value):Env:=[(4, .pointer (some ⟨b,0,none⟩)),(5, .pointer (some ⟨b+1,0,none⟩)),(6, .pointer (some ⟨b+2,0,none⟩)),(7, .pointer (some ⟨b+3,0,none⟩)),(8, .pointer (some ⟨b+4,0,none⟩)),(18,fn)]
def okP(w:List Nat×List Nat)(l:List Pb)(lk:List Nat->Int)(f:List Nat)(c:Int)(p:Nat):Bool:=rE w l lk f c p 1||rE w l lk f c p 2
structure HoB (H:Heap) (b q r:Nat) (f:List Nat) (c:Int) (mm:List (List Nat×Int)):Prop where
 g4:H.get b=some (.cells [.pointer (some ⟨q,0,none⟩)] true 1)
 g5:H.get (b+1)=some (.cells [.map (some r)] true 1)
 g6:H.get (b+2)=some (.cells (fL f) true 1)
 g7:H.get (b+3)=some (.cells [.int .i64 c] true 1)
 g8:H.get (b+4)=some (.cells [.bool false] true 1)
 gm:rT (H.get r)=some (fT mm)
variable{f:List Nat}{mm:List (List Nat×Int)}
theorem HoB.old{H a:Heap}{b q r:Nat}{c:Int}(B:HoB H b q r f c mm)(hb:b+4<H.next)(hr:r<H.next)(ho:∀z,z<H.next->a.get z=H.get z):HoB a b q r f c mm:=
 ⟨(ho _ (by omega)).trans B.g4,(ho _ (by omega)).trans B.g5,(ho _ (by omega)).trans B.g6,(ho _ (by omega)).trans B.g7,(ho _ (by omega)).trans B.g8,by rw[ho r hr];exact B.gm⟩
variable{w:List Nat×List Nat}{nv ov pv:Value}{os:List (List Nat)}{ns:List (List (List Nat))}
theorem Et(F:Jd T){H:Heap}(hr:Rdy H){q m:Nat}{l:List Pb}(hc:∀p∈l,1<=p.cost/\p.cost<=1000)(A:QuH H q m w pv nv ov l os ns)(hf:f.length=8)
 {y b r p:Nat}{fn:Value}{c:Int}(dp:1<=c/\c<=100000)(h8:∀x∈mm,x.1.length=8)(gl:H.get y=some (.loop (hoE b fn) [19] Cf Ck 0 .normal))(B:HoB H b q r f c mm)(bo:p<l.length)(dC:r<y)(dj:b+4<y):
 FW T (.yield y) [.int .i64 (p:Nat)] H λr' D=>(∀z∈D.log,z=b+4∨z=y)/\(r'= .ret (.bool true)/\(okP w l (ji mm) f c p=true/\(∀z,z<H.next->D.get z=H.get z)/\H.next<=D.next)∨r'= .ret (.bool false)/\y∈D.log/\(okP w l (ji mm) f c p=false/\(∀z,z<H.next->z≠b+4->z≠y->D.get z=H.get z)/\D.get (b+4)=some (.cells [.bool false] true 1)/\D.get y=some (.loop (hoE b fn) [19] Cf Ck 2 .ret))):=by
 have kl:=hr.wf.bP gl;have kq:=hr.wf.bP A.gq;have cP:q≠y:=λe=>by have:=A.gq;rw[e,gl]at this;cases this
 refine FW.NJ F.op.qu.p (.inl rfl) (W:=λz=>z=b+4∨z=y) (R:=λD=>okP w l (ji mm) f c p=true/\(∀z,z<H.next->D.get z=H.get z)/\H.next<=D.next) (S:=λD=>okP w l (ji mm) f c p=false/\(∀z,z<H.next->z≠b+4->z≠y->D.get z=H.get z)/\D.get (b+4)=some (.cells [.bool false] true 1)/\D.get y=some (.loop (hoE b fn) [19] Cf Ck 2 .ret)) gl rfl kl (.inr rfl) ?_;unfold Cf hoE;refine Y2 ?_;refine bH ?_;refine y1 ?_;refine⟨rfl,gl,?_⟩;unfold Ck;refine lF ?_;refine WE.vh ?_;intro M E;have K:∀z,z<H.next->z≠y->H.get z=M.get z:=λz J Q=>by rw[E];exact(z5 Q).symm
 have A2:M.get y=some (.loop (hoE b fn) [19] Cf Ck 1 .normal):=by rw[E];exact Heap.aI gl
 have A5:M.next=H.next:=by rw[E];rfl
 have A6:M.log=[]:=by rw[E,Heap.aD (by omega)];exact hr.log
 have A7:WF M:=by rw[E];exact hr.wf.as (AS.wr _ _ _ _)
 clear E;have Q:∀(b:Nat) vs N sz,H.get b=some (.cells vs N sz)->b≠y:=λb vs N sz g e=>by rw[e,gl]at g;cases g
 have u:∀{sz n:Nat} {v:Value} {cs:List Value},aJ H sz v n cs->aJ M sz v n cs:=λ{sz n v cs} s=>by
  cases s with
  |nil=>exact .nil
  |mem s hc=>
   obtain⟨vs,N,t,u1,u2⟩:=s.obj;exact .mem ⟨by rw[A5];exact s.lt,⟨vs,N,t,(K _ s.lt (Q _ _ _ _ u1)).symm.trans u1,u2⟩,s.len⟩ hc
 obtain⟨cJ,L,ar⟩:=A.mem;have aw:m≠y:=λe=>by rw[e,gl]at L;cases L
 have km:=hr.wf.bP L;have QA:QuH M q m w pv nv ov l os ns:=by
  obtain⟨aE,s1,s2⟩:=A.sn.ex;exact⟨A.hw,(K q kq cP).symm.trans A.gq,⟨u A.sp.sl,A.sp.ok⟩,A.hl,⟨u A.so.sl,A.so.ok⟩,A.hol,⟨aE,u s1,λi r hi=>by
   obtain⟨v,hv,sv⟩:=s2 i r hi;exact⟨v,hv,⟨u sv.sl,sv.ok⟩⟩⟩,A.hns,A.hrn,⟨cJ,(K m km aw).symm.trans L,ar⟩⟩
 have BA:HoB M b q r f c mm:=⟨(K _ (by omega) (by omega)).symm.trans B.g4,(K _ (by omega) (by omega)).symm.trans B.g5,(K _ (by omega) (by omega)).symm.trans B.g6,(K _ (by omega) (by omega)).symm.trans B.g7,(K _ (by omega) (by omega)).symm.trans B.g8,by rw[←K r (by omega) (by omega)];exact B.gm⟩;clear u Q L km aw;obtain⟨x,hx⟩:∃x,l[p]? =some x:=⟨l[p],bx bo⟩;have dv:=A.hl;have bj:p<8:=by omega
 obtain⟨bb,o,cp,vs,N,tt,cd,gb,ae,ba⟩:=QA.sp.elem hx;subst cd;have X:=qy hx;have du:=hc x (eA hx);have kc:=ba.cost;have hw:=A.hw;have kp:=rq hw (.slice (some ⟨bb,o,none⟩) l.length cp) nv ov (.map (some m));have dE:=iE hf;have dT:=fP hf;have Z:b+4<M.next:=by omega
 refine Y9 ?_
 refine cT (λk e ds h'=>∃j:Nat,j<=2/\k=2-j/\e=[(4, .pointer (some ⟨b,0,none⟩)),(5, .pointer (some ⟨b+1,0,none⟩)),(6, .pointer (some ⟨b+2,0,none⟩)),(7, .pointer (some ⟨b+3,0,none⟩)),(8, .pointer (some ⟨b+4,0,none⟩)),(9, .int .i64 (p:Nat)),(10, .bool (([1,2].take j).any λa=>rE w l (ji mm) f c p a)),(20, .agg #[.int .u8 1, .int .u8 2]),(21, .int .i64 (j:Nat))]/\ds=[]/\Ext M h')
  ⟨0,by omega,rfl,rfl,rfl, .refl M⟩ ?_
 rintro k e ds G ⟨j,hj,rfl,rfl,rfl,O⟩;have WG:=O.wf A7;have V:=O.log.trans A6;have nG:=O.next
 by_cases hj2:j<2
 ·obtain⟨a,ha,da,cf⟩:∃a:Nat,(a=1∨a=2)/\bK (#[Value.int .u8 1, .int .u8 2]:Array Value).toList (j*1)=some (.int .u8 ((a:Nat):Int))/\[1,2].take (j+1)=[1,2].take j++[a]:=by
   have:j=0∨j=1:=by omega
   rcases this with rfl|rfl
   ·exact⟨1, .inl rfl,rfl,rfl⟩
   ·exact⟨2, .inr rfl,rfl,rfl⟩
  have d:([1,2].take (j+1)).any (λa=>rE w l (ji mm) f c p a)=(([1,2].take j).any (λa=>rE w l (ji mm) f c p a)||rE w l (ji mm) f c p a):=by rw[cf,List.any_append];simp
  generalize([1,2].take j).any (λa=>rE w l (ji mm) f c p a)=acc at*;have cj:an .lss (.int .i64 (j:Nat)) (.int .i64 2)=some (.bool true):=dY (by omega);have BG:=BA.old Z (by omega) O.old;have QG:=QA.ext A7 O;have h6:=BG.g6;have C1:=kN F.op (h:={G with log:=[]}) (.of WG) hf bj (a:=a);have I:(f.set p a).length=8:=by rw[lp];exact hf
  have U:rE w l (ji mm) f c p a=(bsB w (l.zip (f.set p a))&&(decide (c<=dx l p)||decide (c-dx l p<=ji mm (f.set p a)))):=rfl;rw[U]at d;clear U;generalize hfs:f.set p a=g at*;have e9:=iE I;have eg:=fP I;have eh:(fL g).length=8:=by rw[dJ];exact I
  have eI:=ot g;have x3:=fK (h:=G) (base:=H.next) (by omega) (.cells (aR 8 (.int .u8 0)) true 1) (.cells (fL g) true 1);have cY:=gY (h:=G) (base:=H.next) (aR 8 (.int .u8 0)) (fL g);refine Y10 ?_;refine aG (Ar (by exact rfl) (by exact rfl) (by omega) (by assumption)) ?_;refine Y7 ?_;refine FW.pu C1 ?_;clear C1;refine aG (uG) ?_;refine aG (dg (by exact rfl) (by exact rfl) YG (by assumption) (by exact rfl) (by assumption)) ?_;refine y3 ?_;generalize((G.push (.cells (aR 8 (.int .u8 0)) true 1)).wr H.next G.next (.cells (fL g) true 1))=G2 at*;have C:=O.trans x3;have W2:=x3.wf WG;have d9:=x3.log.trans V;have B2:=BA.old Z (by omega) C.old;have Q2:=QA.ext A7 C;have e4:=B2.g4;have e5:=B2.g5;have e7:=B2.g7;have eq:=Q2.gq;have eb:=(C.old bb ae).trans gb;have C2:=tA F.op (h:={G2 with log:=[]}) (.of W2) (Q2.log []) I;generalize eG w l ns g=opn at*;clear h6;cases hcan:bsB w (l.zip g)with
  |false=>
   rw[hcan]at C2 d;rw[zd,Bool.or_false]at d;refine Y4 ?_;refine FW.pu C2 ?_;refine Y40 ?_;refine Y8 ?_;exact⟨2-(j+1),by omega,j+1,by omega,rfl,by rw[d],rfl,C⟩
  |true=>
   rw[hcan]at C2 d;rw[rn,X]at d;by_cases hle:c<=x.cost
   ·rw[decide_eq_true hle,Bool.true_or,Bool.or_true]at d;have ci:an .leq (.int .i64 c) (.int .i64 x.cost)=some (.bool true):=fq hle;refine Y4 ?_;refine FW.pu C2 ?_;refine Y40 ?_;refine Y3 ?_;refine bH ?_;refine Y7 ?_;exact⟨2-(j+1),by omega,j+1,by omega,rfl,by rw[d],rfl,C⟩
   ·rw[decide_eq_false hle,xc]at d;have ci:an .leq (.int .i64 c) (.int .i64 x.cost)=some (.bool false):=eS (by omega);have cX:an .sub (.int .i64 c) (.int .i64 x.cost)=some (.int .i64 (c-x.cost)):=mQ (bO (by omega) (by omega));have eJ:an .geq (.int .i64 (ji mm g)) (.int .i64 (c-x.cost))=some (.bool (decide (c-x.cost<=ji mm g))):=tg;generalize decide (c-x.cost<=ji mm g)=bge at*;cases bge with
    |true=>
     rw[Bool.or_true]at d;refine Y4 ?_;refine FW.pu C2 ?_;refine Y23 ?_;refine aO rfl rfl rfl (by exact rfl) (by exact rfl) (by exact rfl) (As (mm:=mm) (f:=g) (by exact rfl) (by exact rfl) B2.gm I h8) ?_;refine Y19 ?_;refine bH ?_;refine Y7 ?_;exact⟨2-(j+1),by omega,j+1,by omega,rfl,by rw[d],rfl,C⟩
    |false=>
     rw[Bool.or_false]at d;refine Y4 ?_;refine FW.pu C2 ?_;refine Y23 ?_;refine aO rfl rfl rfl (by exact rfl) (by exact rfl) (by exact rfl) (As (mm:=mm) (f:=g) (by exact rfl) (by exact rfl) B2.gm I h8) ?_;refine Y24 ?_;exact⟨2-(j+1),by omega,j+1,by omega,rfl,by rw[d],rfl,C⟩
 ·obtain rfl:j=2:=by omega
  have cj:an .lss (.int .i64 (2:Nat)) (.int .i64 2)=some (.bool false):=rfl;have bi:([1,2].take 2).any (λa=>rE w l (ji mm) f c p a)=okP w l (ji mm) f c p:=by
   unfold okP;simp
  rw[bi];have e8:=(BA.old Z (by omega) O.old).g8;have eL:=(O.old y (by omega)).trans A2;cases hk:okP w l (ji mm) f c p with
  |true=>
   refine Y17 ?_;exact⟨⟨_,eL,rfl⟩,λz J=>(by rw[V]at J;cases J), .inl ⟨rfl,λh5 be P Y=>⟨rfl,λz J=>by
    by_cases hzl:z=y
    ·subst hzl;rw[Y,gl];rfl
    ·exact(P z J hzl).trans ((O.old z (by omega)).trans (K z J hzl).symm),by omega⟩⟩⟩
  |false=>
   refine Y20 ?_;refine⟨⟨_,(z5 (by omega)).trans eL,rfl⟩,λz J=> ?_, .inr ⟨rfl,λh5 be P Y=>⟨rfl,λz J h1 h2=>(P z h2).trans ((z5 h1).trans ((O.old z (by omega)).trans (K z J h2).symm)),(P _ (by omega)).trans (Heap.aI e8),Y⟩⟩⟩;rcases dy J with rfl|J
   ·exact .inl rfl
   ·rw[V]at J;cases J
structure PHo (N b:Nat) (H0:Heap) (L:bM) (ok:Nat->Bool) (done:List Nat) (H:Heap):Prop where
 old:∀z,z<N->H.get z=H0.get z
 loop:H.get N=some L
 nx:N<H.next
 all:∀p∈done,ok p=true
structure SHo (N b:Nat) (H0:Heap) (L:bM) (ok:Nat->Bool) (all:List Nat) (H:Heap):Prop where
 ex:∃p∈all,ok p=false
 old:∀z,z<N->z≠b->H.get z=H0.get z
 b8:H.get b=some (.cells [.bool false] true 1)
 loop:H.get N=some L
variable{h:Heap}
theorem Kn(F:Jd T)(hr:Rdy h){q m:Nat}{l:List Pb}(hc:∀p∈l,1<=p.cost/\p.cost<=1000)(O:QuH h q m w pv nv ov l os ns)(V:f.length=8){c:Int}(aw:1<=c/\c<=100000){r:Nat}(h8:∀x∈mm,x.1.length=8)(cd:r<h.next)(gm:rT (h.get r)=some (fT mm)):
 Pu T 33 [.pointer (some ⟨q,0,none⟩), .map (some r),fV f, .int .i64 c] h (.bool (pJ w l (ji mm) f c)):=by
 have hp:=F.op.qu.p;refine .of hp F.f109 hr rfl ?_;have aE:=gu f;refine cI (E0:=[(4, .pointer (some ⟨h.next,0,none⟩)),(5, .pointer (some ⟨h.next+1,0,none⟩)),(6, .pointer (some ⟨h.next+2,0,none⟩)),(7, .pointer (some ⟨h.next+3,0,none⟩)),(8, .pointer (some ⟨h.next+4,0,none⟩))]) (P:=λU=>Ext h U∧U.next=h.next+5/\HoB U h.next q r f c mm) ?_ ?_
 ·refine Y6 ?_;refine bH ?_;refine y1 ?_;rw[aE];refine⟨rfl,rfl,rfl,(((((Ext.refl h).push _).push _).push _).push _).push _,rfl,⟨YH,YH,YH,YH,YH,?_⟩⟩;rw[z4 (by simp only[z1];omega),z4 (by simp only[z1];omega),z4 (by simp only[z1];omega),z4 (by simp only[z1];omega),z4 cd];exact gm
 rintro k ⟨X,n1,B1⟩;have W1:=X.wf hr.wf;have ar:=X.log.trans hr.log;have Q1:=O.ext hr.wf X;have C:=AU F.op (h:={k with log:=[]}) (.of W1) (.pointer (some ⟨q,0,none⟩)) f rfl;have H:=B1.g4;have e6:=B1.g6;have cj:=iE V;have cJ:=fP V;refine Y5 ?_;refine FW.al C (λv U m q=>q) ?_;clear C H e6;rintro _ a Z ⟨rfl,n5,t,u⟩;have n5:a.next=k.next+2:=n5
 have t:a.get k.next=some (.cells [.pointer (some ⟨q,0,none⟩)] true 1):=t
 have u:a.get (k.next+1)=some (.cells (fL f) true 1):=u;have W5:=Z.wf W1;have A:=Z.log.trans ar;have M:=X.trans Z;have B5:=B1.old (by omega) (by omega) Z.old;generalize hfn:(.func (.func 66) #[] #[.pointer (some ⟨k.next,0,none⟩), .pointer (some ⟨k.next+1,0,none⟩)]:Value)=fn;generalize hL0:(.loop (hoE h.next fn) [19] Cf Ck 0 .normal:bM)=L0;generalize hL2:(.loop (hoE h.next fn) [19] Cf Ck 2 .ret:bM)=L2;have D:∀done Ha N,PHo a.next (h.next+4) a L0 (okP w l (ji mm) f c) done Ha->a.next+1<=N.next->(∀x,x<a.next+1->N.get x=Ha.get x)->PHo a.next (h.next+4) a L0 (okP w l (ji mm) f c) done N:=λdone Ha N p n e=>
  ⟨λz g=>(e z (by omega)).trans (p.old z g),(e _ (by omega)).trans p.loop,by omega,p.all⟩
 have Y:Ji .ret T (λz=>z=h.next+4∨z=a.next) (a.next+1) a.next (λp=>[.int .i64 ((p:Nat):Int)]) (bG l.length f) (PHo a.next (h.next+4) a L0 (okP w l (ji mm) f c)) (SHo a.next (h.next+4) a L2 (okP w l (ji mm) f c) (bG l.length f)):=by
  refine⟨λdone p s hx bo hN i=> ?_,D,λs m p=>⟨p.ex,p.old,p.b8,p.loop⟩,λs p=> ?_,λz g=>by omega⟩
  ·obtain⟨bi,ci⟩:=fB.1 hx;have o5:∀z,z<a.next->s.get z=a.get z:=i.old
   have xh:∀z,z<h.next->s.get z=h.get z:=λz g=>(o5 z (by omega)).trans (M.old z g)
   obtain⟨cf,I,L⟩:=O.mem;have ae:QuH s q m w pv nv ov l os ns:=O.keep hr.wf (by omega) (λz g _=>xh z g) ⟨cf,(xh m (hr.wf.bP I)).trans I,L⟩;have K:=i.loop;rw[←hL0]at K;refine FW.mono' (Et F bo hc ae V aw h8 K (B5.old (by omega) (by omega) o5) bi (by omega) (by omega)) ?_;rintro r' H' ⟨r1,r2⟩;refine⟨r1,r2.imp (λ⟨e1,G,Q,H⟩=>⟨e1,⟨λz g=>(Q z (by have:=i.nx;omega)).trans (i.old z g),(Q _ i.nx).trans i.loop,hK i.nx H,λy E=> ?_⟩⟩) λ⟨e1,G,Q,H,e5,e6⟩=>⟨e1,G,⟨⟨p,hx,Q⟩,λz g ba=>(H z (by have:=i.nx;omega) ba (by omega)).trans (i.old z g),e5,by rw[←hL2];exact e6⟩⟩⟩;rcases List.mem_append.1 E with E|E
   ·exact i.all y E
   ·rw[wd]at E;subst E;exact G
  ·have:=p.loop;rw[←hL2]at this;exact⟨_,_,_,_,this⟩
 rw[←hfn];refine Y2 ?_;refine Am (px:= .ret) (W:=λz=>z=h.next+4∨z=a.next) (P:=PHo a.next (h.next+4) a L0 (okP w l (ji mm) f c) (bG l.length f)) (S:=SHo a.next (h.next+4) a L2 (okP w l (ji mm) f c) (bG l.length f)) rfl (by rfl) (by rw[F.op.f228];rfl) (by omega) W5 ?_ (λs p=>by
  have:=p.loop;rw[←hL0]at this;exact⟨_,_,_,_,this⟩) (λs p=>by
  have:=p.loop;rw[←hL2]at this;exact⟨_,_,_,_,this⟩) ?_ ?_
 ·have j:=hL0;rw[←hfn]at j;unfold hoE Cf Ck at j;rw[j];have x6:Ext a {a.push L0 with log:=[]}:=⟨ti _,by rw[A],λz g=>z4 g,λwf=>(wf.push L0).log _⟩;refine Gb F.op (h:={a.push L0 with log:=[]}) (.of (W5.push L0)) ((O.ext hr.wf M).ext W5 x6) V (b1:=k.next) (b2:=k.next+1) ((x6.old _ (by omega)).trans t) Y (bl _) (go _) (λd s p=>(p.old _ (by omega)).trans u) ⟨λz g=>x6.old z g,z3 _ _,go _,λp hp=>by cases hp⟩
 ·intro h4 h5 k1 k2 k3 k4 k5 k6 i;have J:pJ w l (ji mm) f c=true:=List.all_eq_true.2 i.all;rw[J];have D8:=(k5 (h.next+4) (by omega)).trans ((i.old _ (by omega)).trans B5.g8);have B:h5.log=[]:=List.eq_nil_iff_forall_not_mem.2 λz g=>by
   rcases k1 z g with e|⟨e,G⟩
   ·rw[A]at e;cases e
   ·omega
  refine Y6 ?_;exact au ((Heap.aD (by omega)).trans B) (p9 (b:=h.next+4) (o:=0) rfl (Heap.aI D8) rfl rfl) rfl
 ·intro h4 h5 k1 k2 k3 k4 k5 k6 i;have be:pJ w l (ji mm) f c=false:=by
   obtain⟨p,bj,e⟩:=i.ex;unfold pJ;rw[List.all_eq_false];exact⟨p,bj,by unfold okP at e;rw[e];simp⟩
  rw[be];have D8:=(k5 (h.next+4) (by omega)).trans i.b8;have B:h5.log=[]:=List.eq_nil_iff_forall_not_mem.2 λz g=>by
   rcases k1 z g with e|⟨e,G⟩
   ·rw[A]at e;cases e
   ·omega
  refine Y2 ?_;exact au B (p9 (b:=h.next+4) (o:=0) rfl D8 rfl rfl) rfl
def stE(x:Sta):List Nat×Int:=(eX x.found,x.cost)
def zu(n:Nat)(s:List Sta)(i:Nat)(x:Sta):Prop:=x.found.length≠n∨(x.found.any λk=>decide (2<k))=true∨inR x.cost 1 100000=false∨∃y,0<i/\s[i-1]? =some y/\0<=cmF y.found x.found
structure FmI (l:List Pb) (s:List Sta) (i:Nat):Prop where
 ok:∀x∈s.take i,x.found.length=l.length/\(∀k∈x.found,k<=2)/\1<=x.cost/\x.cost<=100000
 up:∀(j:Nat) x y,j+1<i->s[j]? =some x->s[j+1]? =some y->kX x.found<kX y.found
theorem FmI.zero(l:List Pb)(s:List Sta):FmI l s 0:=⟨λx a=>by simp at a,λj x y h=>by omega⟩
variable{s:List Sta}{x:Sta}
theorem FmI.succ{l:List Pb}{i:Nat}(F:FmI l s i)(n:s[i]? =some x)(hb:¬zu l.length s i x):FmI l s (i+1):=by
 unfold zu at hb;have h:x.found.length=l.length:=Classical.byContradiction λq=>hb (.inl q);have m:∀k∈x.found,k<=2:=λk v=>by
  rcases xG 2 k with q|q
  ·exact absurd (.inr (.inl (List.any_eq_true.2 ⟨k,v,decide_eq_true q⟩))) hb
  ·exact q
 have r:inR x.cost 1 100000=true:=by
  cases q:inR x.cost 1 100000 with
  |true=>rfl
  |false=>exact absurd (.inr (.inr (.inl q))) hb
 have t:1<=x.cost/\x.cost<=100000:=of_decide_eq_true r;refine⟨λy d=> ?_,λj a b w f c=> ?_⟩
 ·rw[fU n]at d;rcases List.mem_append.1 d with d|d
  ·exact F.ok y d
  ·rw[wd]at d;subst d;exact⟨h,m,t⟩
 ·by_cases hji:j+1<i
  ·exact F.up j a b hji f c
  ·obtain rfl:i=j+1:=by omega
   rw[n]at c;cases c;have u:¬0<=cmF a.found x.found:=λq=>hb (.inr (.inr (.inr ⟨a,by omega,by rw[Nat.add_sub_cancel];exact f,q⟩)));have g:a∈s.take (j+1):=eA (i:=j) (by rw[gS (by omega)];exact f);obtain⟨o,p,_⟩:=F.ok a g;have e:cmF a.found x.found<0:=by omega
   exact(AW (by rw[o,h]) p m).1 ((AA _ _).1 e)
theorem Kg{l:List Pb}{i:Nat}(d:s[i]? =some x)(hb:zu l.length s i x):¬CJ l s:=by
 intro ⟨c,g⟩;obtain⟨a,b,m,n⟩:=c x (eA d);rcases hb with q|q|q|⟨y,hi,hy,hc⟩
 ·exact q a
 ·obtain⟨k,j,h⟩:=List.any_eq_true.1 q;have:=b k j;have:=of_decide_eq_true h;omega
 ·have:=of_decide_eq_false q;omega
 ·obtain⟨e,f,_⟩:=c y (eA hy);have:=g (i-1) y x hy (by rw[show i-1+1=i by omega];exact d);have:=(AA _ _).2 ((AW (by rw[a,e]) f b).2 this);omega
theorem FmI.form{l:List Pb}(F:FmI l s s.length):CJ l s:=by
 refine⟨λx a=>F.ok x (by rw[q9];exact a),λi x y a b=>F.up i x y ?_ a b⟩;exact(List.getElem?_eq_some_iff.1 b).1
theorem FmI.lt{l:List Pb}{s:List Sta}{i:Nat}(F:FmI l s i):∀(d j:Nat) x y,j+d+1<i->s[j]? =some x->s[j+d+1]? =some y->kX x.found<kX y.found
 |0,j,x,y,h,hx,hy=>F.up j x y h hx hy
 |d+1,j,x,y,h,hx,hy=>by
  obtain⟨z,hz⟩:∃z,s[j+d+1]? =some z:=by
   have:=(List.getElem?_eq_some_iff.1 hy).1;exact⟨s[j+d+1]'(by omega),bx _⟩
  have a:=F.lt d j x z (by omega) hx hz;have b:=F.up (j+d+1) z y (by omega) hz (by rw[show j+d+1+1=j+(d+1)+1 by omega];exact hy);omega
theorem wP{f:List Nat}:∀{mm:List (List Nat×Int)} {i:Nat},(∀x∈mm,x.1≠f)->lu f i mm=none
 |[],_,_=>rfl
 |x::mm,i,h=>by
  unfold lu;rw[if_neg λe=>h x b6 e.symm];exact wP λy hy=>h y (bz _ hy)
theorem L9{a b:List Nat}(h1:a.length=b.length)(h:eX a=eX b):a=b:=by
 unfold eX at h;exact(List.append_inj h h1).1
theorem Dd{l:List Pb}{i:Nat}(F:FmI l s (i+1))(c:s[i]? =some x):AY ((s.take i).map stE) (eX x.found) x.cost=(s.take (i+1)).map stE:=by
 have h:lu (eX x.found) 0 ((s.take i).map stE)=none:=wP λy k e=>by
  obtain⟨z,m,rfl⟩:=List.mem_map.1 k;obtain⟨j,a⟩:=List.mem_iff_getElem?.1 m;have b:=(List.getElem?_eq_some_iff.1 a).1;rw[m6]at b;rw[gS (by omega)]at a;have f:z∈s.take (i+1):=eA (i:=j) (by rw[gS (show j<i+1 by omega)];exact a);have d:x∈s.take (i+1):=eA (i:=i) (by rw[gS (show i<i+1 by omega)];exact c);have g:z.found=x.found:=L9 (by rw[(F.ok z f).1,(F.ok x d).1]) e;have:=F.lt (i-j-1) j z x (by omega) a (by rw[show j+(i-j-1)+1=i by omega];exact c);rw[g]at this;omega
 unfold AY;rw[h,fU c,tk];rfl
theorem OL(s:List Sta)(g:List Nat):ji (s.map stE) g=lkS s g:=by
 unfold ji lkS;have a:∀(s:List Sta) (i:Nat),(match lu g i (s.map stE)with|some (_,v)=>v|none=>0)=(match s.find? (λx=>decide (eX x.found=g))with|some x=>x.cost|none=>0):=by
  intro s;induction s with
  |nil=>intro i;rfl
  |cons x s ih=>
   intro i;rw[pD,lu];by_cases e:eX x.found=g
   ·rw[if_pos (show g=(stE x).1 from e.symm),List.find?_cons_of_pos (by simpa using e)];rfl
   ·rw[if_neg (λq=>e q.symm),List.find?_cons_of_neg (by simpa using e)];exact ih (i+1)
 exact a s 0
theorem J7:∀{f g:List Nat},fL f=fL g->f=g
 |[],[],_=>rfl
 |[],_::_,h=>by cases h
 |_::_,[],h=>by cases h
 |a::f,b::g,h=>by
  have h1:(Value.int .u8 ((a:Nat):Int))= .int .u8 ((b:Nat):Int):=(List.cons.inj h).1;have c:=J7 (f:=f) (g:=g) (List.cons.inj h).2;have:((a:Nat):Int)=b:=by injection h1
  rw[c];congr 1;omega
theorem RW{g:List Nat}(h:fV f=fV g):f=g:=by
 have:=congrArg cellsOf h;rw[gu,gu]at this;exact J7 this
def kvE(x:Sta):Value×Value:=(fV (eX x.found), .int .i64 x.cost)
theorem Dg(s:List Sta):fT (s.map stE)=s.map kvE:=by unfold fT;rw[List.map_map];rfl
theorem OC{y:Sta}(h:kvE x=kvE y):eX x.found=eX y.found/\x.cost=y.cost:=by
 have a:=congrArg Prod.fst h;have b:(Value.int .i64 x.cost)= .int .i64 y.cost:=congrArg Prod.snd h;exact⟨RW a,by injection b⟩
variable{es:List (Value×Value)}
theorem PM{m z:Nat}(b:z<h.next)(a:z≠m):((roM h m es).push .dead).get z=h.get z:=by
 rw[z4 (show z<(roM h m es).next from b)];exact z5 (h:=h) (base:=0) (o:= .qX es) a
theorem MG{m:Nat}{o:bM}(b:h.get m=some o)(a:m<h.next):((roM h m es).push .dead).get m=some (.qX es):=by
 rw[z4 (show m<(roM h m es).next from a)];exact Heap.aI (h:=h) (base:=0) (o:= .qX es) b
theorem Ti{m:Nat}(w:WF h):WF ((roM h m es).push .dead):=((w.as (AS.wr 0 h m (.qX es))).log []).push .dead
structure Ja (T:Nat->Option aq):Prop where
 by':vI T
 ho:Jd T
 od:zh T
 f29:T 9=some f29
 f106:T 30=some f106
def caR(w:List Nat×List Nat)(l:List Pb)(os:List (List Nat))(s:List Sta)(b:Bool):Bool×Int:=if opE w l os≠0 then(false,opE w l os)else if 6561<s.length then(false,2)else(b,0)
def caT:aN:=tlC (tlC (tlC (tlC (tlC (tlC (cdF f29))))))
theorem Cb{l:List Pb}:(∀b∈fT (s.map stE),∀x∈s,b=kvE x->eG w l ns (eX x.found)=true/\pJ w l (lkS s) (eX x.found) x.cost=true)↔ ∀x∈s,eG w l ns (eX x.found)=true/\pJ w l (lkS s) (eX x.found) x.cost=true:=by
 rw[Dg];exact⟨λh x a=>h _ (List.mem_map.2 ⟨x,a,rfl⟩) x a rfl,λh b _ x a _=>h x a⟩
theorem QuH.Vu{h':Heap}{q m r:Nat}{o k n:Value}{l:List Pb}(Q:QuH h q m w o k n l os ns)(c:WF h)(b:h.get r=some (.map es))(g:r≠m)(f:h.next<=h'.next)(a:∀z,z<h.next->z≠r->h'.get z=h.get z):QuH h' q m w o k n l os ns:=by
 obtain⟨u,j,p⟩:=Q.mem;obtain⟨d,x,y⟩:=Q.sn.ex;refine⟨Q.hw,(a q (c.bP Q.gq) λe=> ?_).trans Q.gq,⟨aJ.uP Q.sp.sl b f a,Q.sp.ok⟩,Q.hl,⟨aJ.uP Q.so.sl b f a,Q.so.ok⟩,Q.hol,⟨d,aJ.uP x b f a,λi r s=> ?_⟩,Q.hns,Q.hrn,u,(a m (c.bP j) (λe=>g e.symm)).trans j,p⟩
 ·have:=Q.gq;rw[e,b]at this;cases this
 ·obtain⟨v,t,sv⟩:=y i r s;exact⟨v,t,⟨aJ.uP sv.sl b f a,sv.ok⟩⟩
variable{base:Nat}{rnd:Option Nat}
theorem Qq{Q:XQ}{e b:Env}{keep:List Nat}{a:Dfs}{c:aN}(d:bD e keep=b)(H:WE T base rnd c Q b a h):WE T base rnd c Q (bD e keep) a h:=by rw[d];exact H
theorem N0(F:Ja T){H:Heap}{q m r:Nat}{l:List Pb}(hc:∀p∈l,1<=p.cost/\p.cost<=1000)(W:WF H)(U:QuH H q m w pv nv ov l os ns)(a:CJ l s)(u:H.get r=some (.map (fT (s.map stE))))(O:r≠m)(cost:Int){b:Bool}(n:b=true↔Ca w l ns s cost){e:Env}
 (h4:geT e 4=some (.int .i64 cost))(G:geT e 12=some (.pointer (some ⟨q,0,none⟩)))(v:geT e 14=some (.map (some r))){Q:XQ}(E:∀(e':Env) (_:Unit),geT e' 10=some (.bool b)->geT e' 11=some (.int .i64 0)->Q .ret e' [] H):
 WE T base none caT Q e [] H:=by
 have N:=W.bP u;have K:=U.hl;have Y:∀x∈s.map stE,x.1.length=8:=λx D=>by
  obtain⟨y,hy,rfl⟩:=List.mem_map.1 D;exact nS (by rw[(a.1 y hy).1];exact K)
 have Z:bD ((86, .map (some r))::e) [4,12,14]=[(4, .int .i64 cost),(12, .pointer (some ⟨q,0,none⟩)),(14, .map (some r))]:=by
  simp only[bD,geT,Nat.beq,cond_false,h4,G,v]
 have B:ji (s.map stE)=lkS s:=funext λg=>OL s g;unfold caT tlC cdF f29;dsimp only;refine uz ?_;refine Ea (m:=r) (e0:=(86, .map (some r))::e) (E2:=[(10, .bool false),(11, .int .i64 0)]) (es:=fT (s.map stE)) (EvO.mov v) rfl u rfl rfl (λkv=>∀x∈s,kv=kvE x->eG w l ns (eX x.found)=true/\pJ w l (lkS s) (eX x.found) x.cost=true) ?_ ?_ ?_
 ·intro kv J;have j:=J;rw[Dg]at j;obtain⟨x,D,rfl⟩:=List.mem_map.1 j;obtain⟨f1,f2,f3,f4⟩:=a.1 x D;have i:(eX x.found).length=8:=nS (by omega);refine⟨eG w l ns (eX x.found)&&pJ w l (lkS s) (eX x.found) x.cost,⟨λh y hy e=> ?_,λh=> ?_⟩,?_⟩
  ·obtain⟨e1,e2⟩:=OC e;rw[ed]at h;rw[←e1,←e2];exact h
  ·have:=h x D rfl;rw[this.1,this.2];rfl
  rw[Z];have X:=Ti (m:=r) (es:=fT (s.map stE)) W;have oM:=λz hz L=>PM (h:=H) (m:=r) (z:=z) (es:=fT (s.map stE)) hz L;have sM:=MG (es:=fT (s.map stE)) u N;have nM:((roM H r (fT (s.map stE))).push .dead).next=H.next+1:=rfl
  have lM:((roM H r (fT (s.map stE))).push .dead).log=[]:=rfl;have QM:QuH ((roM H r (fT (s.map stE))).push .dead) q m w pv nv ov l os ns:=U.Vu W u O (by omega) oM;generalize(roM H r (fT (s.map stE))).push .dead=HM at*;unfold itE kvE;dsimp only;generalize hfp:eX x.found=f at*;have ar:=iE i;have aw:=fP i;have aE:(fL f).length=8:=by rw[dJ];exact i
  have ba:=ot f;have C:=fK (h:=HM) (base:=H.next+1) (by omega) (.cells (aR 8 (.int .u8 0)) true 1) (.cells (fL f) true 1);have ae:=gY (h:=HM) (base:=H.next+1) (aR 8 (.int .u8 0)) (fL f);refine Y3 ?_;refine aG (dg (by exact rfl) (by exact rfl) YG (by assumption) (by exact rfl) (by assumption)) ?_;refine yM ?_;refine bH ?_;refine⟨rfl,rfl,?_⟩;refine Qq (by simp only[bD,bN,geT,dM,cond_true,cond_false,Nat.beq];exact rfl) ?_;generalize((HM.push (.cells (aR 8 (.int .u8 0)) true 1)).wr (H.next+1) HM.next (.cells (fL f) true 1))=H2 at*;have V:=C.wf X;have k:=C.log.trans lM;have S:=QM.ext X C;have o:=tA F.ho.op (h:={H2 with log:=[]}) (.of V) (S.log []) i;have t:=Kn F.ho (h:={H2 with log:=[]}) (.of V) hc (S.log []) i (c:=x.cost) ⟨f3,f4⟩ (r:=r) (mm:=s.map stE) Y (by show r<H2.next;have:=C.next;omega) (by show rT (H2.get r)=_;rw[C.old r (by omega),sM];rfl);rw[B]at t;generalize bsB w (l.zip f)=can at*;cases ho:eG w l ns f with
  |false=>
   rw[ho]at o;refine Y4 ?_;refine FW.pu o ?_;refine Y24 ?_;exact⟨rfl,k, .inr ⟨rfl,rfl,rfl⟩⟩
  |true=>
   rw[ho]at o;cases hh:pJ w l (lkS s) f x.cost with
   |false=>
    rw[hh]at t;refine Y4 ?_;refine FW.pu o ?_;refine Y20 ?_;refine FW.pu t ?_;refine Y10 ?_;exact⟨rfl,k, .inr ⟨rfl,rfl,rfl⟩⟩
   |true=>
    rw[hh]at t;refine Y4 ?_;refine FW.pu o ?_;refine Y20 ?_;refine FW.pu t ?_;refine Y6 ?_;exact⟨rfl,k, .inl ⟨rfl,rfl,by simp only[itE,DY,geT,Nat.beq,cond_true,cond_false,aV,bY,Tn]⟩⟩
 ·intro A;rw[Z];refine KC ?_;have d:=Cb.1 A;by_cases hc0:cost<=0
  ·have P:an .leq (.int .i64 cost) (.int .i64 0)=some (.bool true):=fq hc0;have I:b=true:=n.2 ⟨a,d, .inl hc0⟩;subst I;refine Y14 ?_;exact E _ () rfl rfl
  ·have P:an .leq (.int .i64 cost) (.int .i64 0)=some (.bool false):=eS (by omega);have be:an .geq (.int .i64 (ji (s.map stE) z8)) (.int .i64 cost)=some (.bool b):=by
    rw[tg,B];congr 2;rw[vj,decide_eq_true_eq,n];exact⟨λq=>⟨a,d, .inr q⟩,λq=>q.2.2.resolve_left hc0⟩
   refine Y9 ?_;refine aG (As (mm:=s.map stE) (f:=z8) (by exact rfl) (by exact rfl) (by rw[u];rfl) rfl Y) ?_;refine Y9 ?_;exact E _ () rfl rfl
 ·intro M;have I:b=false:=by
   cases q:b with
   |false=>rfl
   |true=>exact absurd (Cb.2 (n.1 q).2.1) M
  subst I;refine Vs ?_;exact E _ () rfl rfl
theorem Ma(h:f.length<=8):cW (fL z8) 0 (cG (f.length*1) (fL f))=fL (eX f):=by
 have e:cG (f.length*1) (fL f)=fL f:=by rw[rt,bQ,gk (by rw[dJ];exact bl _)]
 have a:fL z8=List.replicate 8 (.int .u8 0):=rfl;rw[e,eY (by rw[dJ,dJ];exact(by show 0+f.length<=8;omega)),xp,vd,dJ,hX,a,List.drop_replicate];unfold eX fL;rw[tk,List.map_replicate];rfl
theorem WO.vh{Q:XQ}{ops:List aP}{e:Env}{a:Dfs}(b:∀hA,hA=h->WO T base rnd Q ops e a hA):WO T base rnd Q ops e a h:=b h rfl
theorem Az(F:Ja T)(hr:Rdy h)(hg:Tab h)(h2:0<h.next)(hw:IsW w){l:List Pb}(sp:PbS h pv l)(hl:l.length<1000000)(so:SsQ h ov os)(du:os.length<1000000){tv:Value}(S0:mZ h tv s)(fj:s.length<1000000)(bi:∀x∈s,x.found.length<1000000)(cost:Int){b:Bool}(be:b=true↔Ca w l (os.map (dR w)) s cost):
 Pu T 9 [wV w,pv,ov,tv, .int .i64 cost] h (.tuple #[.bool (caR w l os s b).1, .int .i64 (caR w l os s b).2]):=by
 have hp:=F.ho.op.qu.p;refine .of hp F.f29 hr rfl ?_;have dE:cellsOf (wV w)=wL w:=by show(wL w).toArray.toList=_;simp
 obtain⟨a,c,rfl⟩:=sp.form;obtain⟨a3,c3,rfl⟩:=so.sl.form;obtain⟨sa,sc,rfl⟩:=S0.form;have x0:Ext h (h.push (.cells (cellsOf (wV w)) true 1)):=(Ext.refl h).push _;have g0:(h.push (.cells (cellsOf (wV w)) true 1)).get h.next=some (.cells (wL w) true 1):=by rw[dE];exact z3 h _
 have n0:(h.push (.cells (cellsOf (wV w)) true 1)).next=h.next+1:=rfl
 refine Y5 ?_;generalize(h.push (.cells (cellsOf (wV w)) true 1))=H at*;have W:=x0.wf hr.wf;have hL:=x0.log.trans hr.log;have wk:=oN hw;have gt:=kM hw;have C1:=pW F.od (h:={H with log:=[]}) (.of W) (show Tab H from hg.ext x0 h2) (by show 0<H.next;omega) hw ((sp.ext x0).log []) hl ((so.ext x0).log []) du;unfold caR;refine Y5 ?_;refine FW.al C1 (λv r m q=> ?_) ?_
 ·rcases q with q|⟨e,q,m',nv,e1,e2,e3,e4,e5⟩
  ·exact .inl q
  ·exact .inr ⟨e,q,m',nv,e1,e2,e3,e4.log m,e5⟩
 clear C1;rintro _ B x1 hq;have W1:=x1.wf W;have V:=x1.log.trans hL;have n1:=x1.next
 clear g0;rcases hq with⟨he,rfl⟩|⟨he,q,m,nv,rfl,hq1,hq2,Q1,gm⟩
 ·simp only[if_pos he];generalize opE w l os=er at*;have mn:an .neq (.int .i64 er) (.int .i64 0)=some (.bool true):=jc he;refine Y19 ?_;exact au V rfl rfl
 simp only[if_neg (λq:opE w l os≠0=>q he)];have mn:an .neq (.int .i64 0) (.int .i64 0)=some (.bool false):=rfl;by_cases h65:6561<s.length
 ·have mg:an .gtr (.int .i64 (s.length:Nat)) (.int .i64 6561)=some (.bool true):=fM (by omega);simp only[if_pos h65];refine Y27 ?_;exact au V rfl rfl
 have mg:an .gtr (.int .i64 (s.length:Nat)) (.int .i64 6561)=some (.bool false):=gZ (by omega);simp only[if_neg h65];have cf:=x0.trans x1;have dv:=qP (j4.1 (nR.1 he).1).2.2.2.2;have dj:=Q1.hl;refine Y24 ?_;refine aG vm ?_;refine WO.vh ?_;intro H2 L;have x2:Ext B H2:=by rw[L];exact(Ext.refl B).push _
 have aE:H2.get B.next=some (.map (fT [])):=by rw[L];exact z3 B _
 have n2:H2.next=B.next+1:=by rw[L];rfl
 clear L;have W2:=x2.wf W1;have da:=x2.log.trans V;have hJ:=cf.trans x2;have Q2:=Q1.ext W1 x2;obtain⟨eI,aw,bj⟩:=Q1.mem;have dp:=W1.bP aw;refine Y9 ?_
 refine cT (λk e ds r=>∃i:Nat,i<=s.length/\k=s.length-i/\e=[(1, .slice a l.length c),(3, .slice sa s.length sc),(4, .int .i64 cost),(12, .pointer (some ⟨q,0,none⟩)),(14, .map (some B.next)),(36, .slice sa s.length sc),(37, .int .i64 (s.length:Nat)),(38, .int .i64 (i:Nat))]/\ds=[]/\r.log=[]/\WF r∧H2.next<=r.next/\(∀z,z<B.next->r.get z=B.get z)/\r.get B.next=some (.map (fT ((s.take i).map stE)))/\FmI l s i)
  ⟨0,md _,rfl,rfl,rfl,da,W2,bl _,x2.old,aE, .zero l s⟩ ?_
 clear aE;rintro k e ds G ⟨i,hi,rfl,rfl,rfl,ba,WG,nG,oG,U,FI⟩;have ci:∀z,z<h.next->G.get z=h.get z:=λz K=>(oG z (by omega)).trans (cf.old z K)
 have eK:h.next<=G.next:=by omega
 by_cases hlt:i<s.length
 ·obtain⟨x,Y⟩:∃x,s[i]? =some x:=⟨s[i],bx hlt⟩;have eh:an .lss (.int .i64 (i:Nat)) (.int .i64 (s.length:Nat))=some (.bool true):=dY (by omega);obtain⟨b0,o0,c0,vs,ge,tt,u,dC,gb,fg,kx,fX,su⟩:=(S0.uO eK ci).elem Y;cases dC;obtain⟨ua,uc,rfl⟩:=su.form;have cd:=bi x (eA Y);refine Y9 ?_;refine cI (E0:=[(1, .slice a l.length c),(3, .slice (some ⟨b0,o0,none⟩) s.length sc),(4, .int .i64 cost),(12, .pointer (some ⟨q,0,none⟩)),(14, .map (some B.next)),(15, .int .i64 (i:Nat)),(16, .pointer (some ⟨G.next,0,none⟩)),(36, .slice (some ⟨b0,o0,none⟩) s.length sc),(37, .int .i64 (s.length:Nat)),(38, .int .i64 (i:Nat))]) (P:=λr=>Ext G r∧r.next=G.next+1/\r.get G.next=some (.cells [.slice ua x.found.length uc, .int .i64 x.cost] true 1)) ?_ ?_
  ·refine Y3 ?_;refine aG (di (by exact rfl) (by assumption) (by assumption) (by exact rfl)) ?_;refine Y3 ?_;refine bH ?_;refine y1 ?_;exact⟨rfl,rfl,rfl,fK (by omega) _ _,rfl,gY _ _⟩
  rintro G1 ⟨f0,m1,cJ⟩;refine cI (E0:=[(1, .slice a l.length c),(3, .slice (some ⟨b0,o0,none⟩) s.length sc),(4, .int .i64 cost),(12, .pointer (some ⟨q,0,none⟩)),(14, .map (some B.next)),(15, .int .i64 (i:Nat)),(16, .pointer (some ⟨G.next,0,none⟩)),(17, .pointer (some ⟨G1.next,0,none⟩)),(36, .slice (some ⟨b0,o0,none⟩) s.length sc),(37, .int .i64 (s.length:Nat)),(38, .int .i64 (i:Nat))]) (P:=λr=>Ext G1 r∧r.next=G1.next+1/\r.get G1.next=some (.cells (fL z8) true 1)) ?_ ?_
  ·refine Y4 ?_;refine bH ?_;refine y1 ?_;exact⟨rfl,rfl,rfl,fK (by omega) _ _,rfl,gY _ _⟩
  rintro G2 ⟨cj,m2,ar⟩;have t:=f0.trans cj;have D:=t.wf WG;have g:=t.log.trans ba;have f7:=(cj.old _ (by omega)).trans cJ;have Q:=su.ext t;have d:zu l.length s i x->b=false:=λM=>by
   cases q:b with
   |false=>rfl
   |true=>exact absurd (be.1 q).1 (Kg Y M)
  have S:=Cs F.by' (h:={G2 with log:=[]}) (.of D) (SlJ.log Q []) cd
  have Z:=Ku hp F.f106 (h:={G2 with log:=[]}) (.of D) x.cost 1 100000;by_cases hc1:x.found.length=l.length;case neg=>
   have eJ:an .neq (.int .i64 (x.found.length:Nat)) (.int .i64 (l.length:Nat))=some (.bool true):=jc (by omega);have M:=d (.inl hc1);subst M;refine Y5 ?_;refine aO rfl rfl rfl (by exact rfl) (by exact rfl) (by exact rfl) (jE (by exact rfl)) ?_;refine qM ?_;refine aO rfl rfl rfl (by exact rfl) (by exact rfl) (by exact rfl) (jE (by exact rfl)) ?_;refine Y40 ?_;refine Y3 ?_;exact au g rfl rfl
  have eJ:an .neq (.int .i64 (x.found.length:Nat)) (.int .i64 (l.length:Nat))=some (.bool false):=oD (by omega);cases hc2:x.found.any (λk=>decide (2<k))with
  |true=>
   rw[hc2]at S;have M:=d (.inr (.inl hc2));subst M;refine Y5 ?_;refine aO rfl rfl rfl (by exact rfl) (by exact rfl) (by exact rfl) (jE (by exact rfl)) ?_;refine qM ?_;refine aO rfl rfl rfl (by exact rfl) (by exact rfl) (by exact rfl) (jE (by exact rfl)) ?_;refine Y5 ?_;refine FW.puD S (by(repeat apply aC rfl);exact aY) ?_;refine Y38 ?_;exact au g rfl rfl
  |false=>
  rw[hc2]at S;cases hc3:inR x.cost 1 100000 with
  |false=>
   rw[hc3]at Z;have M:=d (.inr (.inr (.inl hc3)));subst M;refine Y5 ?_;refine aO rfl rfl rfl (by exact rfl) (by exact rfl) (by exact rfl) (jE (by exact rfl)) ?_;refine qM ?_;refine aO rfl rfl rfl (by exact rfl) (by exact rfl) (by exact rfl) (jE (by exact rfl)) ?_;refine Y5 ?_;refine FW.puD S (by(repeat apply aC rfl);exact aY) ?_;refine Y5 ?_;refine FW.puD Z (by(repeat apply aC rfl);exact aY) ?_;refine aO rfl rfl rfl (by exact rfl) (by exact rfl) (by exact rfl) (sL (by exact rfl)) ?_;refine Y32 ?_;exact au g rfl rfl
  |true=>
  rw[hc3]at Z;have N:x.found.length<=8:=by omega
  have O:(eX x.found).length=8:=nS N;have fp:=iE O;have fw:=fP O;have E:=Ma N;have I:eC (cG (x.found.length*1) (fL x.found))=true:=by rw[rt,bQ,gk (by rw[dJ];exact bl _)];exact ot _
  have A:=(t.old _ (by omega)).trans U;have h8:∀y∈(s.take i).map stE,y.1.length=8:=λy hy=>by
   obtain⟨z,K,rfl⟩:=List.mem_map.1 hy;exact nS (by rw[(FI.ok z K).1];exact dj)
  rcases Nat.eq_zero_or_pos i with rfl|hpos
  ·have X:¬zu l.length s 0 x:=λq=>by
    rcases q with q|q|q|⟨y,q,_⟩
    ·exact q hc1
    ·rw[hc2]at q;cases q
    ·rw[hc3]at q;cases q
    ·omega
   have C:=FI.succ Y X;have J:=Dd C Y;have eg:an .gtr (.int .i64 ((0:Nat):Int)) (.int .i64 0)=some (.bool false):=rfl;refine Y5 ?_;refine aO rfl rfl rfl (by exact rfl) (by exact rfl) (by exact rfl) (jE (by exact rfl)) ?_;refine qM ?_;refine aO rfl rfl rfl (by exact rfl) (by exact rfl) (by exact rfl) (jE (by exact rfl)) ?_;refine Y5 ?_;refine FW.puD S (by(repeat apply aC rfl);exact aY) ?_;refine Y5 ?_;refine FW.puD Z (by(repeat apply aC rfl);exact aY) ?_;refine aO rfl rfl rfl (by exact rfl) (by exact rfl) (by exact rfl) (sL (by exact rfl)) ?_;refine Y25 ?_;refine aO rfl rfl rfl (by exact rfl) (by exact rfl) (by exact rfl) (j0 (i:=0) (j:=8) (by exact rfl) rfl rfl (by omega) (by omega) (by omega) (by omega)) ?_;refine Y2 ?_;refine GO (b:=G1.next) (o:=0) (n:=8) (c:=8) (m:=x.found.length) (sz:=1) (k:=x.found.length) (vs:=fL z8) (l:=fL x.found) (ws:=fL (eX x.found)) rfl rfl rfl (by exact rfl) (by exact rfl) (by exact rfl) (vE Q.src) ar (tp N) (by rw[dJ];show 0+x.found.length*1<=8;omega) I E (by omega) (by omega) (by(repeat apply aC rfl);exact aY) ?_;refine Y5 ?_;refine aG (di (by exact rfl) YG (by assumption) (by assumption)) ?_;refine Y2 ?_;refine aG (vP (mm:=(s.take 0).map stE) (f:=eX x.found) (n:=x.cost) (by exact rfl) (by exact rfl) (by exact rfl) ((z5 (by omega)).trans A) O h8) ?_;refine bH ?_;refine Y7 ?_;refine⟨s.length-(0+1),by omega,0+1,by omega,rfl,rfl,rfl,?_,(D.as (AS.wr h.next _ _ _)).as (AS.wr h.next _ _ _),(by show H2.next<=G2.next;omega),λz K=>(z5 (by omega)).trans ((z5 (by omega)).trans ((t.old z (by omega)).trans (oG z K))),?_,C⟩
   ·rw[Heap.aD (by omega),Heap.aD (by omega)];exact g
   ·rw[←J];exact Heap.aI ((z5 (by omega)).trans A)
  ·obtain⟨y,hy⟩:∃y,s[i-1]? =some y:=⟨s[i-1]'(by omega),bx _⟩;obtain⟨b5,o5,c5,gg,fb,t5,u5,bo,fd,f8,ky,fY,eQ⟩:=(S0.uO (h':=G2) (by omega) (λz K=>(t.old z (by omega)).trans (ci z K))).elem hy;cases bo;have eg:an .gtr (.int .i64 (i:Nat)) (.int .i64 0)=some (.bool true):=fM (by omega);have f9:an .sub (.int .i64 (i:Nat)) (.int .i64 1)=some (.int .i64 ((i-1:Nat):Int)):=by
    rw[show(((i-1:Nat)):Int)=(i:Int)-1 by omega];exact mQ (bO (by omega) (by omega))
   have dT:=bi y (eA hy);have C7:=Oa F.by' (h:={G2 with log:=[]}) (.of D) (SlJ.log eQ []) (SlJ.log Q []) dT cd
   by_cases hc4:0<=cmF y.found x.found
   ·have e9:an .geq (.int .i64 (cmF y.found x.found)) (.int .i64 0)=some (.bool true):=wQ hc4;have M:=d (.inr (.inr (.inr ⟨y,hpos,hy,hc4⟩)));subst M;refine Y5 ?_;refine aO rfl rfl rfl (by exact rfl) (by exact rfl) (by exact rfl) (jE (by exact rfl)) ?_;refine qM ?_;refine aO rfl rfl rfl (by exact rfl) (by exact rfl) (by exact rfl) (jE (by exact rfl)) ?_;refine Y5 ?_;refine FW.puD S (by(repeat apply aC rfl);exact aY) ?_;refine Y5 ?_;refine FW.puD Z (by(repeat apply aC rfl);exact aY) ?_;refine aO rfl rfl rfl (by exact rfl) (by exact rfl) (by exact rfl) (sL (by exact rfl)) ?_;refine Y14 ?_;refine FW.puD C7 (by(repeat apply aC rfl);exact aY) ?_;refine Y18 ?_;exact au g rfl rfl
   ·have e9:an .geq (.int .i64 (cmF y.found x.found)) (.int .i64 0)=some (.bool false):=ue (by omega);have X:¬zu l.length s i x:=λq=>by
     rcases q with q|q|q|⟨z,_,q,q2⟩
     ·exact q hc1
     ·rw[hc2]at q;cases q
     ·rw[hc3]at q;cases q
     ·rw[hy]at q;cases q;exact hc4 q2
    have C:=FI.succ Y X;have J:=Dd C Y;refine Y5 ?_;refine aO rfl rfl rfl (by exact rfl) (by exact rfl) (by exact rfl) (jE (by exact rfl)) ?_;refine qM ?_;refine aO rfl rfl rfl (by exact rfl) (by exact rfl) (by exact rfl) (jE (by exact rfl)) ?_;refine Y5 ?_;refine FW.puD S (by(repeat apply aC rfl);exact aY) ?_;refine Y5 ?_;refine FW.puD Z (by(repeat apply aC rfl);exact aY) ?_;refine aO rfl rfl rfl (by exact rfl) (by exact rfl) (by exact rfl) (sL (by exact rfl)) ?_;refine Y14 ?_;refine FW.puD C7 (by(repeat apply aC rfl);exact aY) ?_;refine Y11 ?_;refine aO rfl rfl rfl (by exact rfl) (by exact rfl) (by exact rfl) (j0 (i:=0) (j:=8) (by exact rfl) rfl rfl (by omega) (by omega) (by omega) (by omega)) ?_;refine Y2 ?_;refine GO (b:=G1.next) (o:=0) (n:=8) (c:=8) (m:=x.found.length) (sz:=1) (k:=x.found.length) (vs:=fL z8) (l:=fL x.found) (ws:=fL (eX x.found)) rfl rfl rfl (by exact rfl) (by exact rfl) (by exact rfl) (vE Q.src) ar (tp N) (by rw[dJ];show 0+x.found.length*1<=8;omega) I E (by omega) (by omega) (by(repeat apply aC rfl);exact aY) ?_;refine Y5 ?_;refine aG (di (by exact rfl) YG (by assumption) (by assumption)) ?_;refine Y2 ?_;refine aG (vP (mm:=(s.take i).map stE) (f:=eX x.found) (n:=x.cost) (by exact rfl) (by exact rfl) (by exact rfl) ((z5 (by omega)).trans A) O h8) ?_;refine bH ?_;refine Y7 ?_;refine⟨s.length-(i+1),by omega,i+1,by omega,rfl,rfl,rfl,?_,(D.as (AS.wr h.next _ _ _)).as (AS.wr h.next _ _ _),(by show H2.next<=G2.next;omega),λz K=>(z5 (by omega)).trans ((z5 (by omega)).trans ((t.old z (by omega)).trans (oG z K))),?_,C⟩
    ·rw[Heap.aD (by omega),Heap.aD (by omega)];exact g
    ·rw[←J];exact Heap.aI ((z5 (by omega)).trans A)
 ·obtain rfl:i=s.length:=by omega
  have eh:an .lss (.int .i64 (s.length:Nat)) (.int .i64 (s.length:Nat))=some (.bool false):=eM (by omega);rw[q9]at U;have QG:QuH G q m w (.slice a l.length c) nv (.slice a3 os.length c3) l os (os.map (dR w)):=Q1.keep W1 (by omega) (λz K _=>oG z K) ⟨eI,(oG m dp).trans aw,bj⟩;have ae:∀{e:Env},geT e 4=some (.int .i64 cost)->geT e 12=some (.pointer (some ⟨q,0,none⟩))->geT e 14=some (.map (some B.next))->WE T h.next none caT _ e [] G:=λh4 cY d9=>N0 F (base:=h.next) dv WG QG FI.form U (by omega) cost be h4 cY d9 (λe' _ cP cX=>au ba (tC cP (tC cX Bu)) rfl)
  refine Y10 ?_;exact ae rfl rfl rfl
end Go.A.Pk
end
section
namespace Go.A.Pk
section
variable {w:List Nat×List Nat} {l:List Pb} {ns:List (List (List Nat))}
theorem MY(i:∀p∈l,1<=p.cost/\p.cost<=1000):∀{k:Nat} {f:List Nat} {a:Nat},l.length<=f.length->bT w l ns f<100000->(eN w l ns k f a).2.length<2 ^ (bG l.length f).length:=by
 intro k;induction k with
 |zero=>intro f a _ _;exact xx (by omega)
 |succ k ih=>
  intro f a h o;unfold eN;by_cases h0:bT w l ns f=0
  ·rw[if_pos h0];exact xx (by omega)
  ·rw[if_neg h0];obtain⟨c,g⟩:=yy i h h0 o;obtain⟨e,_⟩:=fB.1 c;generalize fR (ei w l ns f) (bG l.length f)=b at*;have d:b<f.length:=by omega
   have q:=jm (n:=l.length) (f:=f) (a:=1) d (by omega) c;have r:=jm (n:=l.length) (f:=f) (a:=2) d (by omega) c;have j:=(lW i e).1;unfold ei at g;have s:=ih (f:=f.set b 1) (a:=a+1) (by rw[lp];exact h) (by omega);have t:=ih (f:=f.set b 2) (a:=a+1+(eN w l ns k (f.set b 1) (a+1)).2.length) (by rw[lp];exact h) (by omega);have u:2 ^ (bG l.length (f.set b 1)).length<=2 ^ ((bG l.length f).length-1):=rh (by omega) (by omega);have v:2 ^ (bG l.length (f.set b 2)).length<=2 ^ ((bG l.length f).length-1):=rh (by omega) (by omega);have x:2 ^ (bG l.length f).length=2*2 ^ ((bG l.length f).length-1):=by
    obtain⟨n,m⟩:∃n,(bG l.length f).length=n+1:=⟨(bG l.length f).length-1,by omega⟩;rw[m,ut,Nat.add_sub_cancel];omega
   simp only[pm,ec];omega
theorem Gq(d:∀p∈l,1<=p.cost/\p.cost<=1000)(a:l.length<=8){s:List Fk}{cost:Int}(h:se w l ns s cost):bT w l ns z8<=cost/\bT w l ns z8<100000:=by
 obtain⟨b,g,c⟩:=h;have:=Qm d a (f:=z8) a c (λe=>by
  unfold wB at e;split at e
  ·exact b (by assumption)
  ·omega)
 exact⟨by omega,this.2⟩
end
theorem SL(w:List Nat×List Nat)(l:List Pb)(os:List (List Nat)):opE w l os≠81:=by
 have h:pe w l os=0∨pe w l os=1∨pe w l os=2:=by
  unfold pe prE;repeat' split
  all_goals omega
 unfold opE;split
 ·omega
 ·split<;>omega
variable{s:List Fk}{b:Bool}
theorem RL{w:List Nat×List Nat}{l:List Pb}{os:List (List Nat)}(h:opE w l os≠0):mK w l os s b=(false,opE w l os):=by unfold mK;rw[if_pos h]
theorem RK{w:List Nat×List Nat}{l:List Pb}{os:List (List Nat)}{s:List Sta}(h:opE w l os≠0):caR w l os s b=(false,opE w l os):=by unfold caR;rw[if_pos h]
theorem U4{w:List Nat×List Nat}{l:List Pb}{os:List (List Nat)}(h1:(mK w l os s b).1=true):opE w l os=0/\(mK w l os s b).2=0/\b=true:=by
 by_cases h:opE w l os=0
 ·have e:mK w l os s b=if 256<s.length then(false,2)else(b,0):=by unfold mK;rw[if_neg (λq=>q h)]
  rw[e]at h1;rw[e];by_cases hn:256<s.length
  ·rw[if_pos hn]at h1;cases h1
  ·rw[if_neg hn]at h1;rw[if_neg hn];exact⟨h,rfl,h1⟩
 ·unfold mK at h1;rw[if_pos h]at h1;cases h1
theorem U3{w:List Nat×List Nat}{l:List Pb}{os:List (List Nat)}{s:List Sta}(h1:(caR w l os s b).1=true):opE w l os=0/\(caR w l os s b).2=0/\b=true:=by
 by_cases h:opE w l os=0
 ·have e:caR w l os s b=if 6561<s.length then(false,2)else(b,0):=by unfold caR;rw[if_neg (λq=>q h)]
  rw[e]at h1;rw[e];by_cases hn:6561<s.length
  ·rw[if_pos hn]at h1;cases h1
  ·rw[if_neg hn]at h1;rw[if_neg hn];exact⟨h,rfl,h1⟩
 ·unfold caR at h1;rw[if_pos h]at h1;cases h1
structure VaK (w:List Nat×List Nat) (l:List Pb) (os:List (List Nat)):Prop where
 hw:IsW w
 l5:l.length<=5
 ok:opE w l os=0
 hc:∀p∈l,1<=p.cost/\p.cost<=1000
 hs:∀p∈l,IsS p.cells
theorem VaK.of{w:List Nat×List Nat}{l:List Pb}{os:List (List Nat)}(d:IsW w)(c:∀p∈l,IsS p.cells)(b:Ep w l.length os.length=true)(h:opE w l os=0):VaK w l os:=by
 have a:=j4.1 (nR.1 h).1;refine⟨d,?_,h,qP a.2.2.2.2,c⟩;have:=a.2.2.2.1;unfold Ep at b;simp only[ed,oB,decide_eq_true_eq]at b;omega
section
variable {w:List Nat×List Nat} {l:List Pb} {os:List (List Nat)}
theorem VaK.cost(K:VaK w l os):pz w l os=if 100000<=bT w l (os.map (dR w)) z8 then(0,81)else(bT w l (os.map (dR w)) z8,0):=by
 rw[pE,if_neg (λq=>q K.ok)]
theorem VaK.str(K:VaK w l os)(c:bT w l (os.map (dR w)) z8<100000):(zb w l os).length<=31/\se w l (os.map (dR w)) (zb w l os) (bT w l (os.map (dR w)) z8):=by
 have b:l.length<=8:=by have:=K.l5;omega
 unfold zb;have d:(pz w l os).2=0:=by rw[K.cost,if_neg (by omega)]
 rw[if_pos d];refine⟨?_,Tm K.hc b c (Int.le_refl _)⟩;have e:=MY (w:=w) (ns:=os.map (dR w)) K.hc (k:=10) (f:=z8) (a:=0) b c;have g:2 ^ (bG l.length z8).length<=2 ^ 5:=rh (by omega) (by have:=jL l.length z8;have:=K.l5;omega);unfold Fu;have:(2:Nat) ^ 5=32:=by decide
 omega
theorem VaK.adv(K:VaK w l os){cost:Int}(d:cost<=bT w l (os.map (dR w)) z8)(b:bT w l (os.map (dR w)) z8=0->cost<=0):(Aw w l os).length<=243/\(∀x∈Aw w l os,x.found.length<=8)/\Ca w l (os.map (dR w)) (Aw w l os) cost:=by
 have c:l.length<=8:=by have:=K.l5;omega
 unfold Aw;by_cases hv:bT w l (os.map (dR w)) z8=0
 ·rw[if_neg (λe=>e.2 hv)];exact⟨by decide,λx a=>(by cases a),⟨⟨λx a=>(by cases a),λi x y h=>(by simp at h)⟩,λx a=>(by cases a), .inl (b hv)⟩⟩
 ·rw[if_pos ⟨K.ok,hv⟩];refine⟨?_,λx a=> ?_,NU K.hw K.hs K.hc c d⟩
  ·have g:=AK (w:=w) (l:=l) (ns:=os.map (dR w)) (k:=l.length) (i:=0) (f:=z8);have j:3 ^ l.length<=3 ^ 5:=rh (by omega) K.l5;unfold Av;rw[po];have:(3:Nat) ^ 5=243:=by decide
   omega
  ·unfold Av at a;obtain⟨f,_,rfl⟩:=List.mem_map.1 a;show(f.take l.length).length<=8;rw[m6];omega
end
variable{T:Nat->Option aq}
def slB(n:Nat)(d:List Sta):Bool:=(d.take 100).all (λx=>decide (x.found.length<=12))&&(decide (n<=40)||(decide (256<n)&&decide (n<=260)))&&decide (d.length<=90)
variable{n:Nat}{d:List Sta}
theorem Tk(h:slB n d=true):n<=260/\d.length<=90/\∀x∈d,x.found.length<=12:=by
 unfold slB at h;simp only[ed,oB,decide_eq_true_eq,zFS]at h;obtain⟨⟨a,e⟩,b⟩:=h;refine⟨by omega,b,λx c=>a x ?_⟩;rw[gk (by omega)];exact c
def sgT:aN:=tlC (tlC (cdF f26))
structure Q7 (T:Nat->Option aq):Prop where
 p:aF T
 f26:T 5=some f26
variable{h:Heap}{a:Option Addr}{c:Nat}
theorem MM(d:h.log=[]){i:Option Addr}{m j:Nat}{r:Env}{ok:Bool}(b:ok=((decide (n<=40)||(decide (256<n)&&decide (n<=260)))&&decide (m<=90))):
 WE T h.next none sgT (Oh [(4,none)] (.bool ok)) ((0, .slice a n c)::(1, .slice i m j)::r) [] h:=by
 unfold sgT tlC cdF f26;dsimp only;have k:an .leq (.int .i64 (m:Nat)) (.int .i64 90)=some (.bool (decide (m<=90))):=by
  by_cases hm:m<=90
  ·rw[decide_eq_true hm];exact fq (by omega)
  ·rw[decide_eq_false hm];exact eS (by omega)
 by_cases h1:n<=40
 ·have e:an .leq (.int .i64 (n:Nat)) (.int .i64 40)=some (.bool true):=fq (by omega);rw[b,decide_eq_true h1,Bool.true_or,rn];refine Y9 ?_;refine bS (by exact rfl) ?_;refine bS (by exact rfl) ?_;refine bS (by exact rfl) ?_;refine Y13 ?_;exact au d rfl rfl
 have e:an .leq (.int .i64 (n:Nat)) (.int .i64 40)=some (.bool false):=eS (by omega);by_cases h2:256<n
 ·have f:an .gtr (.int .i64 (n:Nat)) (.int .i64 256)=some (.bool true):=fM (by omega);by_cases h3:n<=260
  ·have g:an .leq (.int .i64 (n:Nat)) (.int .i64 260)=some (.bool true):=fq (by omega);rw[b,decide_eq_false h1,decide_eq_true h2,decide_eq_true h3,xc,rn,rn];refine Y33 ?_;exact au d rfl rfl
  ·have g:an .leq (.int .i64 (n:Nat)) (.int .i64 260)=some (.bool false):=eS (by omega);rw[b,decide_eq_false h1,decide_eq_true h2,decide_eq_false h3,xc,rn,zd];refine Y30 ?_;exact au d rfl rfl
 ·have f:an .gtr (.int .i64 (n:Nat)) (.int .i64 256)=some (.bool false):=gZ (by omega);rw[b,decide_eq_false h1,decide_eq_false h2,xc,zd,zd];refine Y27 ?_;exact au d rfl rfl
theorem MO(F:Q7 T)(hr:Rdy h){z:Value}(m:mZ h z d)(S:d.length<4611686018427387904):
 Pu T 5 [.slice a n c,z] h (.bool (slB n d)):=by
 refine .of F.p F.f26 hr rfl ?_;obtain⟨K,L,rfl⟩:=m.form;refine Y8 ?_;refine cT (λs e q A=>∃j:Nat,j<=d.length/\j<=100/\100-j=s∧e=[(0, .slice a n c),(1, .slice K d.length L),(5, .int .i64 (j:Nat))]/\q=[]/\A=h/\∀x∈d.take j,x.found.length<=12) ⟨0,md _,by omega,rfl,rfl,rfl,rfl,λx g=>by simp at g⟩ ?_;rintro s e q U ⟨j,B,l,C,rfl,rfl,rfl,f⟩;by_cases hlt:j<d.length/\j<100
 ·obtain⟨r,P⟩:=hlt;have v:an .lss (.int .i64 (j:Nat)) (.int .i64 (d.length:Nat))=some (.bool true):=dY (by omega);have G:an .lss (.int .i64 (j:Nat)) (.int .i64 100)=some (.bool true):=dY (by omega);obtain⟨x,g⟩:∃x,d[j]? =some x:=⟨d[j],bx r⟩;obtain⟨b,o,N,vs,I,t,u,E,O,Q,W,V,M⟩:=m.elem g;cases E;obtain⟨Y,Z,rfl⟩:=M.form;have w:an .add (.int .i64 (j:Nat)) (.int .i64 1)=some (.int .i64 ((j+1:Nat):Int)):=by
   have:=jM (a:=(j:Nat)) (b:=1) (bO (by omega) (by omega));exact this
  by_cases hx12:x.found.length<=12
  ·have H:an .gtr (.int .i64 (x.found.length:Nat)) (.int .i64 12)=some (.bool false):=gZ (by omega);refine Y36 ?_;refine⟨100-(j+1),by omega,j+1,by omega,by omega,rfl,rfl,rfl,rfl,?_⟩;rw[BT,g];intro y k;rcases List.mem_append.1 k with k|k
   ·exact f y k
   ·simp at k;subst k;exact hx12
  ·have H:an .gtr (.int .i64 (x.found.length:Nat)) (.int .i64 12)=some (.bool true):=fM (by omega);have e:slB n d=false:=by
    have D:x∈d.take 100:=by
     rw[List.mem_take_iff_getElem];obtain⟨X,J⟩:=List.getElem?_eq_some_iff.1 g;exact⟨j,by omega,J⟩
    unfold slB;rw[Bool.and_assoc,pC];exact .inl (by rw[List.all_eq_false];exact⟨x,D,by simpa using hx12⟩)
   rw[e];refine Y37 ?_;exact au hr.log rfl rfl
 ·have i:(d.take 100).all (λx=>decide (x.found.length<=12))=true:=by
   rw[zFS];intro x g;refine decide_eq_true (f x ?_);by_cases e:j=100
   ·rw[e];exact g
   ·have e:j=d.length:=by omega
    rw[e,q9];exact wt g
  have e:slB n d=((decide (n<=40)||(decide (256<n)&&decide (n<=260)))&&decide (d.length<=90)):=by
   unfold slB;rw[i,rn]
  by_cases r:j<d.length
  ·have v:an .lss (.int .i64 (j:Nat)) (.int .i64 (d.length:Nat))=some (.bool true):=dY (by omega);have G:an .lss (.int .i64 (j:Nat)) (.int .i64 100)=some (.bool false):=eM (by omega);refine Y19 ?_;exact MM hr.log e
  ·have v:an .lss (.int .i64 (j:Nat)) (.int .i64 (d.length:Nat))=some (.bool false):=eM (by omega);refine Y17 ?_;exact MM hr.log e
theorem IS{a:Int}(h: -9223372036854775808<=a/\a<9223372036854775808):∃u:Nat,fE .u64 a=(u:Int):=by
 cases a with
 |ofNat n=>exact⟨n,by rw[show Int.ofNat n=(n:Int)from rfl];exact nX (by have:=h.2;simp at this;omega)⟩
 |negSucc n=>
  refine⟨18446744073709551615-n,?_⟩;have:=h.1;have e:fE .u64 (Int.negSucc n)=Int.negSucc n % 18446744073709551616:=by
   show(bif Nat.blt n 0 then Int.negSucc n else IntKind.u64.wrap (Int.negSucc n))=_;rw[show Nat.blt n 0=false by cases n<;>rfl,cond_false];simp[IntKind.wrap,IntKind.bits,IntKind.signed]
  rw[e];omega
theorem Sk{u:Nat}(h:n≠0):an .rem (.int .u64 (u:Nat)) (.int .u64 (n:Nat))=some (.int .u64 ((u % n:Nat):Int)):=by
 have e:(u:Int).tmod n=((u % n:Nat):Int):=by rw[Int.tmod_eq_emod_of_nonneg (by omega)];rfl
 have a:¬ (n:Int)=0:=by omega
 simp[an,arith,e,a,h]
structure Je (T:Nat->Option aq):Prop where
 co:QX T
 fe:QT T
 sg:Q7 T
 ck:FG T
 ca:Ja T
 av:I8 T
 st:Q8 T
 f13:T 3=some f13
 f21:T 6=some (.lD pSd)
def vaT:aN:=tlC (tlC (tlC (tlC (tlC (tlC (tlC (tlC (cdF f13))))))))
theorem ny(f21:T 6=some (.lD pSd)){base:Nat}{H:Heap}(d:H.log=[])(j:Tab H){n o p h i e:Value}{cost b f g:Int}{ok a:Bool}(k:f≠0∨g≠0∨ok=false∨a=false∨b<=cost):
 WE T base none vaT (Oh [(14,none)] (.bool true)) [(1,n),(2,o),(5, .int .i64 cost),(6, .int .i64 b),(7,p),(17, .bool ok),(18, .int .i64 f),(19, .bool a),(20, .int .i64 g),(21,h),(22,i),(150,e)] [] H:=by
 have c:Pu T 6 [] {H with log:=[]} (.bool true):=S6 f21 (show Tab H from j);unfold vaT tlC cdF f13;dsimp only;by_cases hf:f=0;case neg=>
  have l:an .neq (.int .i64 f) (.int .i64 0)=some (.bool true):=jc hf;refine Y2 ?_;refine FW.pu c ?_;refine Y34 ?_;exact au d rfl rfl
 have l:an .neq (.int .i64 f) (.int .i64 0)=some (.bool false):=oD hf;by_cases hg:g=0;case neg=>
  have m:an .neq (.int .i64 g) (.int .i64 0)=some (.bool true):=jc hg;refine Y2 ?_;refine FW.pu c ?_;refine Y36 ?_;exact au d rfl rfl
 have m:an .neq (.int .i64 g) (.int .i64 0)=some (.bool false):=oD hg;cases ok with
 |false=>
  refine Y2 ?_;refine FW.pu c ?_;refine Y38 ?_;exact au d rfl rfl
 |true=>
  cases a with
  |false=>
   refine Y2 ?_;refine FW.pu c ?_;refine Y40 ?_;exact au d rfl rfl
  |true=>
   have r:an .leq (.int .i64 b) (.int .i64 cost)=some (.bool true):=fq (by
    rcases k with q|q|q|q|q
    ·exact absurd hf q
    ·exact absurd hg q
    ·cases q
    ·cases q
    ·exact q)
   refine Y2 ?_;refine FW.pu c ?_;refine Y40 ?_;refine Y3 ?_;exact au d rfl rfl
theorem Vv(F:Je T)(hr:Rdy h)(hg:Tab h)(h2:0<h.next){w:List Nat×List Nat}(o:IsW w){pv:Value}{l:List Pb}(sp:PbS h pv l)(cJ:l.length<4611686018427387904){ov:Value}{os:List (List Nat)}(so:SsQ h ov os)(cX:os.length<4611686018427387904)
 {sv:Value}{s:List Fk}(S0:FkS h sv s){tv:Value}(D0:mZ h tv d)(ci:d.length<4611686018427387904){cost e:Int}(cP: -9223372036854775808<=e/\e<9223372036854775808):
 Pu T 3 [wV w,pv,ov,sv,tv, .int .i64 cost, .int .i64 e] h (.bool true):=by
 have hp:=F.fe.p;refine .of hp F.f13 hr rfl ?_;have cY:cellsOf (wV w)=wL w:=by show(wL w).toArray.toList=_;simp
 obtain⟨a,c,rfl⟩:=sp.form;obtain⟨a2,c2,rfl⟩:=so.sl.form;obtain⟨a3,c3,rfl⟩:=aJ.form S0;obtain⟨a4,c4,rfl⟩:=D0.form;refine cI (E0:=[(1, .slice a l.length c),(2, .slice a2 os.length c2),(3, .slice a3 s.length c3),(4, .slice a4 d.length c4),(5, .int .i64 cost),(6, .int .i64 e),(7, .pointer (some ⟨h.next,0,none⟩))]) (P:=λZ=>Ext h Z∧Z.next=h.next+1/\Z.get h.next=some (.cells (wL w) true 1)) ?_ ?_
 ·refine Y3 ?_;refine bH ?_;refine y1 ?_;rw[cY];exact⟨rfl,rfl,rfl,(Ext.refl h).push _,rfl,z3 _ _⟩
 rintro H ⟨Q,n0,g7⟩;have W:=Q.wf hr.wf;have hL:=Q.log.trans hr.log;have wk:=oN o;have eg:=kM o;have k:Tab H:=hg.ext Q h2;have z:=sp.ext Q;have y:=so.ext Q;have S1:FkS H (.slice a3 s.length c3) s:=aJ.ext S0 Q;have D1:=D0.ext Q;have U:=Vd F.fe (h:={H with log:=[]}) (.of W) o (a:=a) (n:=l.length) (c:=c) (a2:=a2) (m:=os.length) (c2:=c2) cJ cX;have Y:=MO F.sg (h:={H with log:=[]}) (.of W) (a:=a3) (n:=s.length) (c:=c3) (D1.log []) ci;have CS:Pu T 6 [] {H with log:=[]} (.bool true):=S6 F.f21 (show Tab H from k);cases hfb:Ep w l.length os.length with
 |false=>
  rw[hfb]at U;refine Y6 ?_;refine FW.pu U ?_;refine Y11 ?_;refine FW.pu CS ?_;refine Y4 ?_;exact au hL rfl rfl
 |true=>
 have du:=Oj hfb;rw[hfb]at U;cases hsb:slB s.length d with
 |false=>
  rw[hsb]at Y;refine Y6 ?_;refine FW.pu U ?_;refine Y8 ?_;refine FW.pu Y ?_;refine Y7 ?_;refine FW.pu CS ?_;refine Y4 ?_;exact au hL rfl rfl
 |true=>
 obtain⟨dC,dv,aE⟩:=Tk hsb;rw[hsb]at Y;clear CS;obtain⟨b,hb⟩:∃b:Bool,b=true↔se w l (os.map (dR w)) s cost:=by
  by_cases q:se w l (os.map (dR w)) s cost
  ·exact⟨true,by simp[q]⟩
  ·exact⟨false,by simp[q]⟩
 obtain⟨B,ar⟩:∃b:Bool,b=true↔Ca w l (os.map (dR w)) d e:=by
  by_cases q:Ca w l (os.map (dR w)) d e
  ·exact⟨true,by simp[q]⟩
  ·exact⟨false,by simp[q]⟩
 have C2:=RN F.co (h:={H with log:=[]}) (.of W) (show Tab H from k) (by show 0<H.next;omega) o (z.log []) (by omega) (y.log []) (by omega);have C3:=FZ F.ck (h:={H with log:=[]}) (.of W) (show Tab H from k) (by show 0<H.next;omega) o (z.log []) (by omega) (y.log []) (by omega) (aJ.log S1 []) (by omega) cost hb;have C4:=Az F.ca (h:={H with log:=[]}) (.of W) (show Tab H from k) (by show 0<H.next;omega) o (z.log []) (by omega) (y.log []) (by omega) (D1.log []) (by omega) (λx hx=>by have:=aE x hx;omega) e ar;have C5:=Cc F.av (h:={H with log:=[]}) (.of W) (show Tab H from k) (by show 0<H.next;omega) o (z.log []) (by omega) (y.log []) (by omega);refine Y6 ?_;refine FW.pu U ?_;clear U;refine Y8 ?_;refine FW.pu Y ?_;clear Y;refine Y12 ?_;refine FW.pu C2 ?_;clear C2;refine Y13 ?_;refine FW.pu C3 ?_;clear C3;refine Y13 ?_;refine FW.pu C4 ?_;clear C4;refine Y11 ?_;refine FW.al C5 (λv Z lg ⟨v1,e1,e2⟩=>⟨v1,e1,e2.log lg⟩) ?_;clear C5;rintro _ A S ⟨u,rfl,O1⟩;have n1:=S.next
 have W1:=S.wf W;have r:=S.log.trans hL;have t:Tab A:=k.ext S (by omega);have bo:=(S.old _ (by omega)).trans g7;have O:=z.ext S;have N:=y.ext S;obtain⟨a5,c5,hu⟩:=O1.form;subst hu;have k1:(mK w l os s b).1=true->opE w l os=0/\(mK w l os s b).2=0/\se w l (os.map (dR w)) s cost:=λq=>by
  obtain⟨q1,q2,q3⟩:=U4 q;exact⟨q1,q2,hb.1 q3⟩
 have k2:(caR w l os d B).1=true->opE w l os=0/\(caR w l os d B).2=0/\Ca w l (os.map (dR w)) d e:=λq=>by
  obtain⟨q1,q2,q3⟩:=U3 q;exact⟨q1,q2,ar.1 q3⟩
 by_cases he:opE w l os=0;case neg=>
  rw[RL he,RK he,pE,if_pos he];have cd:=SL w l os;generalize opE w l os=er at*;have m0:an .eql (.int .i64 er) (.int .i64 0)=some (.bool false):=iH he;have d9:an .eql (.int .i64 er) (.int .i64 81)=some (.bool false):=iH cd;refine Y22 ?_;exact ny F.f21 r t (.inl he)
 have K:=VaK.of o sp.ok hfb he;have h8:l.length<=8:=by have:=K.l5;omega
 rw[K.cost];generalize hV:bT w l (os.map (dR w)) z8=V at*;have dj:0<=V:=by rw[←hV];exact(gN (hc0 K.hc) z8).1
 by_cases hge:100000<=V
 ·rw[if_pos hge];have ba:(mK w l os s b).1=false:=by
   cases q:(mK w l os s b).1 with
   |false=>rfl
   |true=>
    have:=(Gq K.hc h8 (k1 q).2.2).2;omega
  obtain⟨u,hu⟩:=IS cP;have mr:an .rem (.int .u64 (u:Nat)) (.int .u64 100000)=some (.int .u64 ((u % 100000:Nat):Int)):=Sk (n:=100000) (by decide);have ha:=K.adv (cost:=1+((u % 100000:Nat):Int)) (by rw[hV];omega) (λq=>by rw[hV]at q;omega);obtain⟨dp,cf,ae⟩:=ha;have X:=Az F.ca (h:={A with log:=[]}) (.of W1) (show Tab A from t) (by show 0<A.next;omega) o (O.log []) (by omega) (N.log []) (by omega) (O1.log []) (by omega) (λx hx=>by have:=cf x hx;omega) (1+((u % 100000:Nat):Int)) (b:=true) (by simp only[true_iff];exact ae);have e6:caR w l os (Aw w l os) true=(true,0):=by unfold caR;rw[if_neg (λq=>q he),if_neg (by omega)]
  rw[e6]at X;have mw:fE .i64 ((u % 100000:Nat):Int)=((u % 100000:Nat):Int):=bO (by omega) (by omega);have ma:an .add (.int .i64 1) (.int .i64 ((u % 100000:Nat):Int))=some (.int .i64 (1+((u % 100000:Nat):Int))):=jM (bO (by omega) (by omega));have I:Pu T 6 [] {A with log:=[]} (.bool true):=S6 F.f21 (show Tab A from t);generalize(mK w l os s b).2=f at*;generalize(caR w l os d B).1=held at*;generalize(caR w l os d B).2=g at*;rw[ba,he];clear ba k1 k2 ae e6;refine Y22 ?_;refine aG (vO (by exact rfl) (by assumption)) ?_;refine yW ?_;refine aG (vO (by exact rfl) (by assumption)) ?_;refine Y10 ?_;refine FW.pu X ?_;clear X;by_cases hf0:f=0;case neg=>
   have mf:an .neq (.int .i64 f) (.int .i64 0)=some (.bool true):=jc hf0;refine Y31 ?_;refine FW.pu I ?_;refine Y34 ?_;exact au r rfl rfl
  have mf:an .neq (.int .i64 f) (.int .i64 0)=some (.bool false):=oD hf0;by_cases hg0:g=0;case neg=>
   have M:an .neq (.int .i64 g) (.int .i64 0)=some (.bool true):=jc hg0;refine Y31 ?_;refine FW.pu I ?_;refine Y36 ?_;exact au r rfl rfl
  have M:an .neq (.int .i64 g) (.int .i64 0)=some (.bool false):=oD hg0;refine Y31 ?_;refine FW.pu I ?_;refine Y38 ?_;exact au r rfl rfl
 rw[if_neg hge];have cj:V<100000:=by omega
 have X:=Fv F.st (h:={A with log:=[]}) (.of W1) (show Tab A from t) (by show 0<A.next;omega) o (O.log []) (by omega) (N.log []) (by omega);have hE:(pz w l os).2=0:=by rw[K.cost,hV,if_neg hge]
 refine Y17 ?_;refine FW.al X (λv Z lg ⟨v1,e1,e2⟩=>⟨v1,e1,e2.log lg⟩) ?_;clear X;rintro _ E G ⟨u,rfl,B2⟩;rw[hE];have n2:=G.next
 have W2:=G.wf W1;have j:=G.log.trans r;have i:Tab E:=t.ext G (by omega);have da:=(G.old _ (by omega)).trans bo;have bj:=O.ext G;have bi:=N.ext G;have O2:=O1.ext G;have L:=K.str (by rw[hV];exact cj);have J:=K.adv (cost:=V) (by rw[hV];exact Int.le_refl _) (λq=>by rw[hV]at q;omega);rw[hV]at L;have B3:FkS E u (zb w l os):=B2.slice (by omega);obtain⟨a6,c6,hu⟩:=aJ.form B3;subst hu;have C7:=FZ F.ck (h:={E with log:=[]}) (.of W2) (show Tab E from i) (by show 0<E.next;omega) o (bj.log []) (by omega) (bi.log []) (by omega) (aJ.log B3 []) (by omega) V (b:=true) (by simp only[true_iff];exact L.2);have e7:mK w l os (zb w l os) true=(true,0):=by unfold mK;rw[if_neg (λq=>q he),if_neg (by omega)]
 rw[e7]at C7;have C8:=Az F.ca (h:={E with log:=[]}) (.of W2) (show Tab E from i) (by show 0<E.next;omega) o (bj.log []) (by omega) (bi.log []) (by omega) (O2.log []) (by omega) (λx hx=>by have:=J.2.1 x hx;omega) V (b:=true) (by simp only[true_iff];exact J.2.2);have e8:caR w l os (Aw w l os) true=(true,0):=by unfold caR;rw[if_neg (λq=>q he),if_neg (by omega)]
 rw[e8]at C8;refine Y13 ?_;refine FW.pu C7 ?_;clear C7;refine Y13 ?_;refine FW.pu C8 ?_;clear C8;have aw:(mK w l os s b).1=true->V<=cost:=λq=>by rw[←hV];exact(Gq K.hc h8 (k1 q).2.2).1
 have C:(caR w l os d B).1=true->e<=V:=λq=>by rw[←hV];exact NV K.hc h8 (k2 q).2.2
 have dE:(mK w l os s b).1=true->(mK w l os s b).2=0:=λq=>(k1 q).2.1;have dT:(caR w l os d B).1=true->(caR w l os d B).2=0:=λq=>(k2 q).2.1;clear k1 k2 e7 e8 L J;rw[he];generalize(mK w l os s b).1=ok at*;generalize(mK w l os s b).2=f at*;generalize(caR w l os d B).1=held at*;generalize(caR w l os d B).2=g at*;have D:f≠0∨g≠0∨ok=false∨held=false∨e<=cost:=by
  cases ok with
  |false=>exact .inr (.inr (.inl rfl))
  |true=>
   cases held with
   |false=>exact .inr (.inr (.inr (.inl rfl)))
   |true=>exact .inr (.inr (.inr (.inr (Int.le_trans (C rfl) (aw rfl)))))
 have d9:an .eql (.int .i64 0) (.int .i64 81)=some (.bool false):=rfl;by_cases hf0:f=0;case neg=>
  have mf:an .eql (.int .i64 f) (.int .i64 0)=some (.bool false):=iH hf0;by_cases hg0:g=0;case neg=>
   have M:an .eql (.int .i64 g) (.int .i64 0)=some (.bool false):=iH hg0;refine Y40 ?_;refine Y40 ?_;refine Y7 ?_;exact ny F.f21 j i D
  have M:an .eql (.int .i64 g) (.int .i64 0)=some (.bool true):=mD hg0;cases held with
  |false=>
   refine Y40 ?_;refine Y40 ?_;refine Y8 ?_;exact ny F.f21 j i D
  |true=>
   have be:an .gtr (.int .i64 e) (.int .i64 V)=some (.bool false):=gZ (by have:=C rfl;omega);refine Y40 ?_;refine Y40 ?_;refine Y11 ?_;exact ny F.f21 j i D
 have mf:an .eql (.int .i64 f) (.int .i64 0)=some (.bool true):=mD hf0;cases ok with
 |false=>
  by_cases hg0:g=0;case neg=>
   have M:an .eql (.int .i64 g) (.int .i64 0)=some (.bool false):=iH hg0;refine Y40 ?_;refine Y40 ?_;refine Y8 ?_;exact ny F.f21 j i D
  have M:an .eql (.int .i64 g) (.int .i64 0)=some (.bool true):=mD hg0;cases held with
  |false=>
   refine Y40 ?_;refine Y40 ?_;refine Y9 ?_;exact ny F.f21 j i D
  |true=>
   have be:an .gtr (.int .i64 e) (.int .i64 V)=some (.bool false):=gZ (by have:=C rfl;omega);refine Y40 ?_;refine Y40 ?_;refine Y12 ?_;exact ny F.f21 j i D
 |true=>
  have e9:an .lss (.int .i64 cost) (.int .i64 V)=some (.bool false):=eM (by have:=aw rfl;omega);by_cases hg0:g=0;case neg=>
   have M:an .eql (.int .i64 g) (.int .i64 0)=some (.bool false):=iH hg0;refine Y40 ?_;refine Y40 ?_;refine Y11 ?_;exact ny F.f21 j i D
  have M:an .eql (.int .i64 g) (.int .i64 0)=some (.bool true):=mD hg0;cases held with
  |false=>
   refine Y40 ?_;refine Y40 ?_;refine Y12 ?_;exact ny F.f21 j i D
  |true=>
   have be:an .gtr (.int .i64 e) (.int .i64 V)=some (.bool false):=gZ (by have:=C rfl;omega);refine Y40 ?_;refine Y40 ?_;refine Y15 ?_;exact ny F.f21 j i D
end Go.A.Pk
end
