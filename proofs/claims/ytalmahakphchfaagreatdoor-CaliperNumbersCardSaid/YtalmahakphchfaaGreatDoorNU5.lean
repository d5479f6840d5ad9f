/- Walks of functions, plain laws, the table. -/
import Derived.Test.YtalmahakphchfaaGreatDoorNU4
import Derived.Test.YtalmahakphchfaaGreatDoorND
import Derived.Test.YtalmahakphchfaaGreatDoorNU1
set_option linter.all false
set_option maxHeartbeats 16000000
set_option maxRecDepth 100000
section
namespace Go.A.Pk
structure Fk where
 probe:Int
 yes:Int
 no:Int
end Go.A.Pk
end
section
namespace Go.A.Pk
variable {T:Nat->Option af}
def TN(mm:List (List Nat×Int)):List (Value×Value):=mm.map λx=>(fV x.1, .int .i64 x.2)
def Pz(w:List Nat×List Nat)(l:List Pb)(ns:List (List (List Nat)))(mm:List (List Nat×Int)):Prop:=∀x∈mm,x.1.length=8/\x.2=T5 w l ns x.1
structure QuH (h:Heap) (q m:Nat) (w:List Nat×List Nat) (pv nv ov:Value) (l:List Pb) (os:List (List Nat)) (ns:List (List (List Nat))):Prop where
 hw:IsW w
 gq:h.get q=some (.cells (quL w pv nv ov (.map (some m))) true 1)
 sp:PbS h pv l
 hl:l.length<=8
 so:SsQ h ov os
 hol:os.length<1000000
 sn:NdS h nv ns
 hns:ns.length=os.length
 hrn:∀r∈ns,r.length<1000000
 mem:∃mm,h.get m=some (.map (TN mm))/\Pz w l ns mm
def T7(bq bs bn bc bv:Nat):Value:= .func (.func 95) #[] #[.pointer (some ⟨bq,0,none⟩), .pointer (some ⟨bs,0,none⟩), .pointer (some ⟨bn,0,none⟩), .pointer (some ⟨bc,0,none⟩), .pointer (some ⟨bv,0,none⟩)]
structure VsH (h0 h:Heap) (q:Nat) (sv:Value) (cost:Int) (n0:Int) (bq bs bn bc bv:Nat):Prop where
 wf:WF h
 nx:h0.next<=h.next
 old:∀z,z<h0.next->h.get z=h0.get z
 gq:h.get bq=some (.cells [.pointer (some ⟨q,0,none⟩)] true 1)
 gs:h.get bs=some (.cells [sv] true 1)
 gn:h.get bn=some (.cells [.int .i64 n0] true 1)
 gc:h.get bc=some (.cells [.int .i64 cost] true 1)
 gv:h.get bv=some (.cells [T7 bq bs bn bc bv] true 1)
def cdF:af->aQ
 | .code c _=>c
 |_=> .skip
def tlC:aQ->aQ
 | .seq _ b=>b
 |c=>c
end Go.A.Pk
end
section
namespace Go.A.Pk
variable {T:Nat->Option af}
section
open I
end
end Go.A.Pk
end
section
namespace Go.A.Pk
variable {T:Nat->Option af}
def uG(ks:List Int):List (Value×Value):=ks.map λc=>(.int .i64 c, .bool true)
theorem QA(a b:Int):lZ false [.i .i64] (.int .i64 a) (.int .i64 b)=some (decide (a=b)):=by
 show bG [.i .i64] [.int .i64 a] [.int .i64 b]=_;simp only[bG,iy,if_true];by_cases h:a=b
 ·subst h;simp
 ·have e:(a==b)=false:=by simpa using h
  rw[e,decide_eq_false h]
theorem BI(a:Int):iQ false [.i .i64] (.int .i64 a)=true:=by
 unfold iQ;have e:bG [.i .i64] (cellsOf (.int .i64 a)) (cellsOf (.int .i64 a))=some true:=by
  show bG [.i .i64] [.int .i64 a] [.int .i64 a]=_;simp[bG,iy]
 rw[e];rfl
def j5(c:Int):Nat->List Int->Option Nat
 |_,[]=>none
 |i,x::ks=>if c=x then some i else j5 c (i+1) ks
theorem GC{c:Int}:∀{ks:List Int} {i:Nat},jq false [.i .i64] (.int .i64 c) i (uG ks)=some ((j5 c i ks).map λp=>(p, .bool true))
 |[],_=>rfl
 |x::ks,i=>by
  show jq false [.i .i64] (.int .i64 c) i ((.int .i64 x, .bool true)::uG ks)=_;unfold jq j5;rw[QA];by_cases e:c=x
  ·rw[decide_eq_true e,if_pos e];rfl
  ·rw[decide_eq_false e,if_neg e];exact GC
theorem kM{c:Int}:∀{ks:List Int} {i j:Nat},j5 c i ks=some j->i<=j/\ks[j-i]? =some c
 |x::ks,i,j,h=>by
  unfold j5 at h;split at h
  ·rename_i e;cases h;rw[Nat.sub_self];exact⟨Nat.le_refl _,by rw[e];rfl⟩
  ·obtain⟨h1,h2⟩:=kM h;refine⟨by omega,?_⟩;rw[show j-i=(j-(i+1))+1 by omega];exact h2
theorem pK{c:Int}:∀{ks:List Int} {i:Nat},j5 c i ks=none->c ∉ ks
 |[],_,_=>by simp
 |x::ks,i,h=>by
  unfold j5 at h;split at h
  ·cases h
  ·rename_i e;intro hm;rcases List.mem_cons.1 hm with q|q
   ·exact e q
   ·exact pK h q
theorem Ee(c:Int)(ks:List Int):(match j5 c 0 ks with|some _=>true|none=>false)=decide (c∈ks):=by
 cases h:j5 c 0 ks with
 |none=>exact(decide_eq_false (pK h)).symm
 |some j=>exact(decide_eq_true (List.mem_of_getElem? (kM h).2)).symm
def xZ(ks:List Int)(c:Int):List Int:=if c∈ks then ks else ks++[c]
theorem GW{ks:List Int}{c x:Int}:x∈xZ ks c↔x=c∨x∈ks:=by
 unfold xZ;split
 ·rename_i h;exact⟨.inr,λq=>q.elim (λe=>e▸h) id⟩
 ·rw[List.mem_append,List.mem_singleton];exact⟨λq=>q.symm,λq=>q.symm⟩
theorem CL{base:Nat}{h:Heap}{e:Env}{m k:Operand}{r:Nat}{ks:List Int}{c:Int}(hm:ev h e m=some (.map (some r)))(hk:ev h e k=some (.int .i64 c))(hr:h.get r=some (.map (uG ks))):aop h base e (.lookup false [.i .i64] (.bool false) false m k)=some (.val (.bool (decide (c∈ks))) h):=by
 rw[←Ee];simp only[aop,hm,hk,hr,uD,BI,cond_true,GC];cases j5 c 0 ks<;>rfl
theorem A9{α:Type}:∀{l:List α} {i:Nat} {x:α},l[i]? =some x->l.set i x=l
 |[],i,x,h=>by simp at h
 |y::l,0,x,h=>by simp at h;rw[h];rfl
 |y::l,i+1,x,h=>by rw[List.set_cons_succ,A9 (by simpa using h)]
theorem zN{base:Nat}{h:Heap}{e:Env}{m k v:Operand}{r:Nat}{ks:List Int}{c:Int}(hm:ev h e m=some (.map (some r)))(hk:ev h e k=some (.int .i64 c))(hv:ev h e v=some (.bool true))(hr:h.get r=some (.map (uG ks))):
 aop h base e (.iE false [.i .i64] m k v)=some (.val (.tuple #[]) (h.wr base r (.map (uG (xZ ks c))))):=by
 simp only[aop,hm,hk,hv,hr,BI,cond_true,GC];cases hf:j5 c 0 ks with
 |none=>
  have e:xZ ks c=ks++[c]:=if_neg (pK hf);rw[e];simp only[Option.map_none,dQ];unfold uG;rw[List.map_append];rfl
 |some j=>
  have hj:=(kM hf).2;rw[Nat.sub_zero]at hj;have e:xZ ks c=ks:=if_pos (List.mem_of_getElem? hj);rw[e];simp only[z7,j9];rw[A9 (by unfold uG;rw[List.getElem?_map,hj];rfl)]
structure Ub (R ks:List Int):Prop where
 mem:∀c,c∈ks↔c∈R
 nd:(R.filter λi=>decide (i≠ -1)).Nodup
def mH{α:Type}(ok:α->Bool)(id:α->Int):List Int->List α->Bool
 |_,[]=>true
 |ks,x::l=>if ok x=false∨id x∈ks then false else mH ok id (xZ ks (id x)) l
theorem vV{α:Type}{ok:α->Bool}{id:α->Int}{ks:List Int}{x:α}{l:List α}:mH ok id ks (x::l)=if ok x=false∨id x∈ks then false else mH ok id (xZ ks (id x)) l:=rfl
theorem kI{α:Type}{ok:α->Bool}{id:α->Int}:∀{l:List α} {ks:List Int},mH ok id ks l=true↔(∀x∈l,ok x=true)/\(l.map id).Nodup/\∀x∈l,id x ∉ ks
 |[],ks=>by simp[mH]
 |x::l,ks=>by
  unfold mH;by_cases h:ok x=false∨id x∈ks
  ·rw[if_pos h];constructor
   ·intro q;cases q
   ·rintro⟨q1,_,q3⟩;rcases h with h|h
    ·rw[q1 x List.mem_cons_self]at h;cases h
    ·exact absurd h (q3 x List.mem_cons_self)
  ·rw[if_neg h,kI];have h1:ok x=true:=by cases q:ok x with
    |true=>rfl
    |false=>exact absurd (.inl q) h
   have h2:id x ∉ ks:=λq=>h (.inr q);simp only[List.map_cons,List.nodup_cons,List.mem_map,List.mem_cons,forall_eq_or_imp,GW];constructor
   ·rintro⟨a,b,c⟩;exact⟨⟨h1,a⟩,⟨λ⟨y,hy,e⟩=>c y hy (.inl e),b⟩,h2,λy hy q=>c y hy (.inr q)⟩
   ·rintro⟨⟨_,a⟩,⟨b1,b2⟩,_,c⟩;exact⟨a,b2,λy hy q=>q.elim (λe=>b1 ⟨y,hy,e⟩) (c y hy)⟩
structure FD (T:Nat->Option af):Prop where
 rt:tQ T
 f272:T 106=some f272
 f275:T 109=some f275
theorem Kk(F:FD T){h:Heap}(hr:Rdy h){v:Value}{l:List Od}(s:OdS h v l)(hl:l.length<4611686018427387904):
 Pu T 106 [v, .func (.func 107) #[] #[], .func (.func 108) #[] #[]] h (.bool (mH odB Od.id [] l)):=by
 refine .of F.rt.p F.f272 hr rfl ?_;obtain⟨a,c,rfl⟩:=s.form;have x0:Ext h (h.push (.map [])):=(Ext.refl h).push _;have g0:(h.push (.map [])).get h.next=some (.map (uG [])):=z3 _ _
 have n0:(h.push (.map [])).next=h.next+1:=rfl
 refine Y4 ?_;refine aA qk ?_;refine Y2 ?_;generalize(h.push (.map []))=H at*;have s0:=s.ext x0;refine Y7 ?_
 refine bW (λm e ds h'=>∃i:Nat,∃ks:List Int,i<=l.length/\l.length-i=m/\e=[(1, .func (.func 107) #[] #[]),(2, .func (.func 108) #[] #[]),(7, .map (some h.next)),(11, .slice a l.length c),(12, .int .i64 (l.length:Nat)),(13, .int .i64 (i:Nat))]/\ds=[]/\Ext h h'∧h.next<h'.next/\h'.get h.next=some (.map (uG ks))/\mH odB Od.id [] l=mH odB Od.id ks (l.drop i))
  ⟨0,[],Nat.zero_le _,rfl,rfl,rfl,x0,by omega,g0,rfl⟩ ?_
 rintro m e ds G ⟨i,ks,hi,rfl,rfl,rfl,x,hn,gm,hd⟩;rw[hd];clear hd g0;have W:=x.wf hr.wf;have hL:=x.log.trans hr.log;by_cases hlt:i<l.length
 ·obtain⟨y,hy⟩:∃r,l[i]? =some r:=⟨l[i],List.getElem?_eq_getElem hlt⟩;have hyw:=s.ok y (List.mem_of_getElem? hy);obtain⟨b,o,cc,vs,own,tt,hv,gl,hbl,el⟩:=(s.ext x).elem hy;cases hv;have hdr:l.drop i=y::l.drop (i+1):=by
   obtain⟨h1,rfl⟩:=List.getElem?_eq_some_iff.1 hy;exact List.drop_eq_getElem_cons h1
  rw[hdr];have mlt:ah .lss (.int .i64 (i:Nat)) (.int .i64 (l.length:Nat))=some (.bool true):=dG (by omega);have k1:=je hyw;have k2:=lH hyw;have k3:=eY hyw;have k4:=jT y;refine Y9 ?_;refine aX (E0:=[(1, .func (.func 107) #[] #[]),(2, .func (.func 108) #[] #[]),(7, .map (some h.next)),(9, .pointer (some ⟨G.next,0,none⟩)),(11, .slice (some ⟨b,o,none⟩) l.length c),(12, .int .i64 (l.length:Nat)),(13, .int .i64 (i:Nat))]) (P:=λh'=>Ext G h'∧h'.next=G.next+1/\h'.get G.next=some (.cells (odL y) true 1)) ?_ ?_
  ·refine Y4 ?_;refine aA (bh (by exact rfl) (by exact rfl) YG (by assumption) (by exact rfl) (by exact cg _)) ?_;refine aO ?_;refine y1 ?_;exact⟨rfl,rfl,rfl,dI (by omega) _ _,rfl,ef _ _⟩
  rintro G1 ⟨x1,n1,g9⟩;have W1:=x1.wf W;have hL1:=x1.log.trans hL;have xx:=x.trans x1;have gm1:=(x1.old _ hn).trans gm;have C1:=Ja F.rt (h:={G1 with log:=[]}) (.of W1) hyw;have C2:=Qu F.rt (h:={G1 with log:=[]}) (.of W1) hyw;rw[vV];cases h1:odB y with
  |false=>
   rw[h1]at C1;rw[if_pos (.inl rfl)];refine Y5 ?_;refine FW.pu C1 ?_;refine Y20 ?_;exact ak hL1 rfl rfl
  |true=>
   rw[h1]at C1;refine Y5 ?_;refine FW.pu C1 ?_;clear C1;refine Y10 ?_;refine FW.pu C2 ?_;refine JL rfl ?_;refine aA (CL (ks:=ks) (by exact rfl) (by exact rfl) gm1) ?_;by_cases h2:y.id∈ks
   ·rw[if_pos (.inr h2),decide_eq_true h2];refine Y13 ?_;exact ak hL1 rfl rfl
   ·rw[if_neg (λq=>q.elim (λq=>by cases q) h2),decide_eq_false h2];refine Y10 ?_;refine FW.pu C2 ?_;clear C2;skip;refine aA (zN (ks:=ks) (by exact rfl) (by exact rfl) (by exact rfl) gm1) ?_;refine aO ?_;refine Y7 ?_;exact⟨l.length-(i+1),by omega,i+1,xZ ks y.id,by omega,rfl,rfl,rfl,xx.wr (Nat.le_refl _) (Nat.le_refl _),by show h.next<G1.next;omega,by rw[z6,gm1];rfl,rfl⟩
 ·obtain rfl:i=l.length:=by omega
  have mlt:ah .lss (.int .i64 (l.length:Nat)) (.int .i64 (l.length:Nat))=some (.bool false):=dJ (by omega);rw[List.drop_length];refine Y14 ?_;exact ak hL rfl rfl
theorem Kl(F:FD T){h:Heap}(hr:Rdy h){v:Value}{l:List Sp}(s:SpS h v l)(hl:l.length<4611686018427387904):
 Pu T 109 [v, .func (.func 110) #[] #[], .func (.func 112) #[] #[]] h (.bool (mH spB Sp.id [] l)):=by
 refine .of F.rt.p F.f275 hr rfl ?_;obtain⟨a,c,rfl⟩:=s.form;have x0:Ext h (h.push (.map [])):=(Ext.refl h).push _;have g0:(h.push (.map [])).get h.next=some (.map (uG [])):=z3 _ _
 have n0:(h.push (.map [])).next=h.next+1:=rfl
 refine Y4 ?_;refine aA qk ?_;refine Y2 ?_;generalize(h.push (.map []))=H at*;have s0:=s.ext x0;refine Y7 ?_
 refine bW (λm e ds h'=>∃i:Nat,∃ks:List Int,i<=l.length/\l.length-i=m/\e=[(1, .func (.func 110) #[] #[]),(2, .func (.func 112) #[] #[]),(7, .map (some h.next)),(11, .slice a l.length c),(12, .int .i64 (l.length:Nat)),(13, .int .i64 (i:Nat))]/\ds=[]/\Ext h h'∧h.next<h'.next/\h'.get h.next=some (.map (uG ks))/\mH spB Sp.id [] l=mH spB Sp.id ks (l.drop i))
  ⟨0,[],Nat.zero_le _,rfl,rfl,rfl,x0,by omega,g0,rfl⟩ ?_
 rintro m e ds G ⟨i,ks,hi,rfl,rfl,rfl,x,hn,gm,hd⟩;rw[hd];clear hd g0;have W:=x.wf hr.wf;have hL:=x.log.trans hr.log;by_cases hlt:i<l.length
 ·obtain⟨y,hy⟩:∃r,l[i]? =some r:=⟨l[i],List.getElem?_eq_getElem hlt⟩;have hyw:=s.ok y (List.mem_of_getElem? hy);obtain⟨b,o,cc,vs,own,tt,hv,gl,hbl,el⟩:=(s.ext x).elem hy;cases hv;have hdr:l.drop i=y::l.drop (i+1):=by
   obtain⟨h1,rfl⟩:=List.getElem?_eq_some_iff.1 hy;exact List.drop_eq_getElem_cons h1
  rw[hdr];have mlt:ah .lss (.int .i64 (i:Nat)) (.int .i64 (l.length:Nat))=some (.bool true):=dG (by omega);have k1:=iH hyw;have k2:=kn hyw;have k3:=dV hyw;have k4:=jj y;refine Y9 ?_;refine aX (E0:=[(1, .func (.func 110) #[] #[]),(2, .func (.func 112) #[] #[]),(7, .map (some h.next)),(9, .pointer (some ⟨G.next,0,none⟩)),(11, .slice (some ⟨b,o,none⟩) l.length c),(12, .int .i64 (l.length:Nat)),(13, .int .i64 (i:Nat))]) (P:=λh'=>Ext G h'∧h'.next=G.next+1/\h'.get G.next=some (.cells (spL y) true 1)) ?_ ?_
  ·refine Y4 ?_;refine aA (bh (by exact rfl) (by exact rfl) YG (by assumption) (by exact rfl) (by exact cg _)) ?_;refine aO ?_;refine y1 ?_;exact⟨rfl,rfl,rfl,dI (by omega) _ _,rfl,ef _ _⟩
  rintro G1 ⟨x1,n1,g9⟩;have W1:=x1.wf W;have hL1:=x1.log.trans hL;have xx:=x.trans x1;have gm1:=(x1.old _ hn).trans gm;have C1:=Rb F.rt (h:={G1 with log:=[]}) (.of W1) hyw;have C2:=Qv F.rt (h:={G1 with log:=[]}) (.of W1) hyw;rw[vV];cases h1:spB y with
  |false=>
   rw[h1]at C1;rw[if_pos (.inl rfl)];refine Y5 ?_;refine FW.pu C1 ?_;refine Y20 ?_;exact ak hL1 rfl rfl
  |true=>
   rw[h1]at C1;refine Y5 ?_;refine FW.pu C1 ?_;clear C1;refine Y10 ?_;refine FW.pu C2 ?_;refine JL rfl ?_;refine aA (CL (ks:=ks) (by exact rfl) (by exact rfl) gm1) ?_;by_cases h2:y.id∈ks
   ·rw[if_pos (.inr h2),decide_eq_true h2];refine Y13 ?_;exact ak hL1 rfl rfl
   ·rw[if_neg (λq=>q.elim (λq=>by cases q) h2),decide_eq_false h2];refine Y10 ?_;refine FW.pu C2 ?_;clear C2;skip;refine aA (zN (ks:=ks) (by exact rfl) (by exact rfl) (by exact rfl) gm1) ?_;refine aO ?_;refine Y7 ?_;exact⟨l.length-(i+1),by omega,i+1,xZ ks y.id,by omega,rfl,rfl,rfl,xx.wr (Nat.le_refl _) (Nat.le_refl _),by show h.next<G1.next;omega,by rw[z6,gm1];rfl,rfl⟩
 ·obtain rfl:i=l.length:=by omega
  have mlt:ah .lss (.int .i64 (l.length:Nat)) (.int .i64 (l.length:Nat))=some (.bool false):=dJ (by omega);rw[List.drop_length];refine Y14 ?_;exact ak hL rfl rfl
def seL(ov sv:Value)(r:Int):List Value:=[ov,sv, .int .i64 r]
def seV(ov sv:Value)(r:Int):Value:= .agg (seL ov sv r).toArray
def seB(os:List Od)(ss:List Sp)(r:Int):Bool:=mH odB Od.id [] os&&mH spB Sp.id [] ss&&decide (os.length<=40)&&decide (ss.length<=20)&&inR r 0 1000
def seE(os:List Od)(ss:List Sp)(r:Int):Int:=if seB os ss r then 0 else 1
structure Ms (T:Nat->Option af):Prop where
 df:FD T
 f237:T 63=some f237
theorem Nj(F:Ms T){h:Heap}(hr:Rdy h){ov sv:Value}{os:List Od}{ss:List Sp}{r:Int}(so:OdS h ov os)(ho:os.length<4611686018427387904)(sp:SpS h sv ss)(hs:ss.length<4611686018427387904):
 Pu T 63 [seV ov sv r] h (.int .i64 (seE os ss r)):=by
 refine .of F.df.rt.p F.f237 hr rfl ?_;obtain⟨a,c,rfl⟩:=so.form;obtain⟨a2,c2,rfl⟩:=sp.form;have hc:cellsOf (seV (.slice a os.length c) (.slice a2 ss.length c2) r)=seL (.slice a os.length c) (.slice a2 ss.length c2) r:=by show(seL _ _ r).toArray.toList=_;simp
 have x0:Ext h (h.push (.cells (cellsOf (seV (.slice a os.length c) (.slice a2 ss.length c2) r)) true 1)):=(Ext.refl h).push _;have g0:(h.push (.cells (cellsOf (seV (.slice a os.length c) (.slice a2 ss.length c2) r)) true 1)).get h.next=some (.cells (seL (.slice a os.length c) (.slice a2 ss.length c2) r) true 1):=by rw[hc];exact z3 _ _
 refine Y4 ?_;generalize(h.push (.cells (cellsOf (seV (.slice a os.length c) (.slice a2 ss.length c2) r)) true 1))=H at*;have W:=x0.wf hr.wf;have hL:=x0.log.trans hr.log;have k0:aT (seL (.slice a os.length c) (.slice a2 ss.length c2) r) (0+0)=some (.slice a os.length c):=rfl;have k1:aT (seL (.slice a os.length c) (.slice a2 ss.length c2) r) (0+1)=some (.slice a2 ss.length c2):=rfl;have k2:aT (seL (.slice a os.length c) (.slice a2 ss.length c2) r) (0+2)=some (.int .i64 r):=rfl;generalize seL (.slice a os.length c) (.slice a2 ss.length c2) r=sl at*;have C1:=Kk F.df (h:={H with log:=[]}) (.of W) ((so.ext x0).log []) ho;have C2:=Kl F.df (h:={H with log:=[]}) (.of W) ((sp.ext x0).log []) hs;have C3:=Dg F.df.rt (h:={H with log:=[]}) (.of W) r 0 1000;unfold seE seB;generalize mH odB Od.id [] os=b1 at*;generalize mH spB Sp.id [] ss=b2 at*;generalize inR r 0 1000=b3 at*;refine Y4 ?_;refine FW.pu C1 ?_;clear C1;refine Y6 ?_;refine FW.pu C2 ?_;clear C2;cases b1 with
 |false=>
  refine Y35 ?_;exact ak hL rfl rfl
 |true=>
 cases b2 with
 |false=>
  refine Y37 ?_;exact ak hL rfl rfl
 |true=>
 by_cases h40:os.length<=40;case neg=>
  have m1:ah .gtr (.int .i64 (os.length:Nat)) (.int .i64 40)=some (.bool true):=kP (by omega);rw[decide_eq_false h40];refine Y39 ?_;refine Y2 ?_;exact ak hL rfl rfl
 have m1:ah .gtr (.int .i64 (os.length:Nat)) (.int .i64 40)=some (.bool false):=jB (by omega);rw[decide_eq_true h40];by_cases h20:ss.length<=20;case neg=>
  have m2:ah .gtr (.int .i64 (ss.length:Nat)) (.int .i64 20)=some (.bool true):=kP (by omega);rw[decide_eq_false h20];refine Y40 ?_;refine Y5 ?_;exact ak hL rfl rfl
 have m2:ah .gtr (.int .i64 (ss.length:Nat)) (.int .i64 20)=some (.bool false):=jB (by omega);rw[decide_eq_true h20];cases b3 with
 |false=>
  refine Y39 ?_;refine FW.pu C3 ?_;refine Y10 ?_;exact ak hL rfl rfl
 |true=>
  refine Y39 ?_;refine FW.pu C3 ?_;refine Y11 ?_;exact ak hL rfl rfl
def vG(ks:List (List Nat×List Nat)):List (Value×Value):=ks.map λk=>(wV k, .bool (iU k.1 k.2))
theorem M5(w:List Nat×List Nat):wL w=us (w.1++w.2):=by unfold wL us;rw[List.map_append]
theorem mh(w:List Nat×List Nat):cellsOf (wV w)=wL w:=by show(wL w).toArray.toList=_;simp
theorem Dj{a b:List Nat×List Nat}(ha:IsW a)(hb:IsW b):bG (aL 16 (.i .u64)) (wL a) (wL b)=some (decide (a=b)):=by
 have e1:(a.1++a.2).length=16:=by rw[List.length_append,ha.a.len,ha.b.len]
 have e2:(b.1++b.2).length=16:=by rw[List.length_append,hb.a.len,hb.b.len]
 have:=sF (a.1++a.2) (b.1++b.2) (by omega);rw[e1]at this;rw[M5,M5,this];congr 1;refine decide_eq_decide.2 ⟨λq=> ?_,λq=>by rw[q]⟩;obtain⟨q1,q2⟩:=List.append_inj q (by rw[ha.a.len,hb.a.len]);exact Prod.ext q1 q2
theorem G0{a:List Nat×List Nat}(ha:IsW a):iQ true (aL 16 (.i .u64)) (wV a)=true:=by
 unfold iQ;rw[mh,Dj ha ha];rfl
theorem NB{a b:List Nat×List Nat}(ha:IsW a)(hb:IsW b):lZ true (aL 16 (.i .u64)) (wV a) (wV b)=some (decide (a=b)):=by
 unfold lZ;rw[mh,mh,Dj ha hb];rfl
def ux(k:List Nat×List Nat):Nat->List (List Nat×List Nat)->Option Nat
 |_,[]=>none
 |i,x::ks=>if k=x then some i else ux k (i+1) ks
theorem GD{k:List Nat×List Nat}(hk:IsW k):∀{ks:List (List Nat×List Nat)} {i:Nat},(∀x∈ks,IsW x)->jq true (aL 16 (.i .u64)) (wV k) i (vG ks)=some ((ux k i ks).map λj=>(j, .bool (iU k.1 k.2)))
 |[],_,_=>rfl
 |x::ks,i,h=>by
  show jq true (aL 16 (.i .u64)) (wV k) i ((wV x, .bool (iU x.1 x.2))::vG ks)=_;unfold jq ux;rw[NB hk (h x List.mem_cons_self)];by_cases e:k=x
  ·rw[decide_eq_true e,if_pos e,e];rfl
  ·rw[decide_eq_false e,if_neg e];exact GD hk λy hy=>h y (List.mem_cons_of_mem _ hy)
theorem CM{base:Nat}{h:Heap}{e:Env}{m k:Operand}{r:Nat}{ks:List (List Nat×List Nat)}{f:List Nat×List Nat}{u:Value}(hm:ev h e m=some (.map (some r)))(hk:ev h e k=some (wV f))(hr:h.get r=some (.map (vG ks)))(hf:IsW f)(h8:∀x∈ks,IsW x)
 (hu:(match ux f 0 ks with|some _=>Value.tuple #[.bool (iU f.1 f.2), .bool true]|none=> .tuple #[.bool false, .bool false])=u):aop h base e (.lookup true (aL 16 (.i .u64)) (.bool false) true m k)=some (.val u h):=by
 subst hu;simp only[aop,hm,hk,hr,uD,G0 hf,cond_true,GD hf h8];cases ux f 0 ks<;>rfl
theorem FO{base:Nat}{h:Heap}{e:Env}{m k v:Operand}{r:Nat}{ks:List (List Nat×List Nat)}{f:List Nat×List Nat}(hm:ev h e m=some (.map (some r)))(hk:ev h e k=some (wV f))(hv:ev h e v=some (.bool (iU f.1 f.2)))(hr:h.get r=some (.map (vG ks)))(hf:IsW f)(h8:∀x∈ks,IsW x)(hn:ux f 0 ks=none):
 aop h base e (.iE true (aL 16 (.i .u64)) m k v)=some (.val (.tuple #[]) (h.wr base r (.map (vG (ks++[f]))))):=by
 simp only[aop,hm,hk,hv,hr,G0 hf,cond_true,GD hf h8,hn,Option.map_none,dQ];unfold vG;rw[List.map_append];rfl
theorem FK{base:Nat}{h:Heap}{e:Env}{x y:Operand}{a b:List Nat}(hx:ev h e x=some (sv a))(hy:ev h e y=some (sv b))(ha:IsS a)(hb:IsS b):aop h base e (.build (aL 16 (.int .u64 0)) [(0,8,x),(8,8,y)])=some (.val (wV (a,b)) h):=by
 refine lE ?_;have e1:bZ (aL 16 (.int .u64 0)) 0 (us a)=wL (a,s0):=Mc (w:=(s0,s0)) ⟨om,om⟩ ha;have e2:bZ (wL (a,s0)) 8 (us b)=wL (a,b):=Md (w:=(a,s0)) ⟨ha,om⟩ hb;have ca:cellsOf (sv a)=us a:=by show(us a).toArray.toList=_;simp
 have cb:cellsOf (sv b)=us b:=by show(us b).toArray.toList=_;simp
 have f1:Nat.ble (0+8) (bK (aL 16 (Value.int .u64 0)))=true:=rfl;have f2:Nat.ble (8+8) (bK (wL (a,s0)))=true:=by rw[bM,iq (w:=(a,s0)) ⟨ha,om⟩];rfl
 simp only[iO,hx,hy,ca,cb,aR ha.len,aR hb.len,cond_true,e1,e2,f1,f2,Bool.and_self]
structure Mv (T:Nat->Option af):Prop where
 fi:CH T
 f238:T 64=some f238
def FrQ(m:Nat)(b:Bool)(v:Value)(h':Heap):Prop:=v= .bool b/\∃ks,h'.get m=some (.map (vG ks))/\∀k∈ks,IsW k
theorem De(F:Mv T){h:Heap}(hr:Rdy h)(hg:Tab h)(h2:0<h.next){m:Nat}{ks:List (List Nat×List Nat)}(gm:h.get m=some (.map (vG ks)))(hks:∀k∈ks,IsW k){a b:List Nat}(ha:IsS a)(hb:IsS b):
 Gs T 64 [.map (some m),sv a,sv b] h (λz=>z=m) (FrQ m (iU a b)):=by
 have hp:=F.fi.ft.li.p;have hmn:=hr.wf.fU gm;refine .of hp F.f238 (λv h1 h2 _ hn hx ⟨e,ks',q1,q2⟩=>⟨e,ks',(hx m hmn).trans q1,q2⟩) ?_;have hca:cellsOf (sv a)=us a:=by show(us a).toArray.toList=_;simp
 have hcb:cellsOf (sv b)=us b:=by show(us b).toArray.toList=_;simp
 have x0:Ext h ((h.push (.cells (cellsOf (sv a)) true 1)).push (.cells (cellsOf (sv b)) true 1)):=((Ext.refl h).push _).push _;have g4:((h.push (.cells (cellsOf (sv a)) true 1)).push (.cells (cellsOf (sv b)) true 1)).get h.next=some (.cells (us a) true 1):=by rw[hca];exact(z4 (Nat.lt_succ_self _)).trans (z3 h _)
 have g5:((h.push (.cells (cellsOf (sv a)) true 1)).push (.cells (cellsOf (sv b)) true 1)).get (h.next+1)=some (.cells (us b) true 1):=by rw[hcb];exact z3 _ _
 have n0:((h.push (.cells (cellsOf (sv a)) true 1)).push (.cells (cellsOf (sv b)) true 1)).next=h.next+2:=rfl
 have hnx:(h.push (.cells (cellsOf (sv a)) true 1)).next=h.next+1:=rfl
 refine Y5 ?_;rw[hnx];generalize((h.push (.cells (cellsOf (sv a)) true 1)).push (.cells (cellsOf (sv b)) true 1))=H at*;clear hnx;have W:=x0.wf hr.wf;have hL:=x0.log.trans hr.log;have k1:=aR ha.len;have k2:=bR ha.len;have k3:=aR hb.len;have k4:=bR hb.len;have hw:IsW (a,b):=⟨ha,hb⟩;have wk:=zI hw;have wkl:=mU hw;refine aX (E0:=[(0, .map (some m)),(4, .pointer (some ⟨h.next,0,none⟩)),(5, .pointer (some ⟨h.next+1,0,none⟩)),(7, .pointer (some ⟨H.next,0,none⟩))]) (P:=λh'=>Ext H h'∧h'.next=H.next+1/\h'.get H.next=some (.cells (wL (a,b)) true 1)) ?_ ?_
 ·refine Y3 ?_;refine aA (FK (by exact rfl) (by exact rfl) ha hb) ?_;have wk1:=DO (a,b);have wkn:=iq hw;refine aA (sO) ?_;refine aA (bh (by exact rfl) (by exact rfl) YG (by assumption) (by exact rfl) (by assumption)) ?_;refine aO ?_;refine y1 ?_;exact⟨rfl,rfl,rfl,dI (by omega) _ _,rfl,ef _ _⟩
 rintro G ⟨x1,n1,g7⟩;have xx:=x0.trans x1;have WG:=x1.wf W;have hLG:=x1.log.trans hL;have g4G:=(x1.old _ (by omega)).trans g4;have g5G:=(x1.old _ (by omega)).trans g5;have gmG:=(xx.old _ hmn).trans gm;clear g4 g5;cases hf:ux (a,b) 0 ks with
 |some j=>
  refine Y3 ?_;refine aA (CM (ks:=ks) (f:=(a,b)) (u:= .tuple #[.bool (iU a b), .bool true]) (by exact rfl) (by exact rfl) gmG hw hks (by rw[hf])) ?_;refine Y19 ?_;refine kJ (λz hz=>by rw[hLG]at hz;cases hz) rfl ⟨rfl,ks,gmG,hks⟩
 |none=>
  refine Y3 ?_;refine aA (CM (ks:=ks) (f:=(a,b)) (u:= .tuple #[.bool false, .bool false]) (by exact rfl) (by exact rfl) gmG hw hks (by rw[hf])) ?_;refine Y15 ?_;have C:=Ns F.fi (h:={G with log:=[]}) (.of WG) (show Tab G from hg.ext xx h2) (by show 0<G.next;omega) ha hb;refine yC ?_;refine FW.al C (λv h' lg q=>q) ?_;clear C;rintro _ G2 x2 ⟨t',x',y',z',rfl⟩;have n2:=x2.next
  have hLG2:=x2.log.trans hLG;have g72:=(x2.old _ (by omega)).trans g7;have gm2:=(x2.old _ (by omega)).trans gmG;refine Y9 ?_;refine aA (FO (ks:=ks) (f:=(a,b)) (by exact rfl) (by exact rfl) (by exact rfl) gm2 hw hks hf) ?_;refine Y6 ?_;refine kJ (Pr (λz hz=>by rw[hLG2]at hz;cases hz) rfl) rfl ⟨rfl,ks++[(a,b)],by rw[z6,gm2];rfl,λk hk=> ?_⟩;rcases List.mem_append.1 hk with q|q
  ·exact hks k q
  ·rw[List.mem_singleton.1 q];exact hw
end Go.A.Pk
end
section
namespace Go.A.Pk
variable {T:Nat->Option af}
def bos(l:List Bool):List Value:=l.map .bool
theorem dS(l:List Bool):(bos l).length=l.length:=by simp[bos]
theorem tC(l:List Bool)(i:Nat)(b:Bool):(bos l).set i (.bool b)=bos (l.set i b):=by simp[bos,List.map_set]
theorem fW{l:List Value}{n:Nat}{v:Value}(h:n<l.length):bZ l n [v]=l.set n v:=by
 rw[gM (by simp;omega),List.set_eq_take_append_cons_drop,if_pos h];simp
def bkL(ov sv:Value)(r:Int)(fo be:List Bool)(mo ms:Nat):List Value:=([ov,sv, .int .i64 r]++bos fo)++(bos be++[.map (some mo), .map (some ms)])
section
variable {ov sv:Value} {r:Int} {fo be:List Bool} {mo ms:Nat}
theorem mD(h1:fo.length=1600)(h2:be.length=800):(bkL ov sv r fo be mo ms).length=2405:=by
 unfold bkL;simp only[List.length_append,dS,h1,h2];rfl
theorem Nd:aT (bkL ov sv r fo be mo ms) (0+0+0)=some ov:=rfl
theorem RC:aT (bkL ov sv r fo be mo ms) (0+0+1)=some sv:=rfl
theorem PG(h1:fo.length=1600){i k:Nat}(hi:i<40)(hk:k<40):aT (bkL ov sv r fo be mo ms) (0+3+i*40+k*1)=some (.bool (fo.getD (i*40+k) false)):=by
 have e:fo[i*40+k]? =some (fo.getD (i*40+k) false):=by
  rw[List.getD_eq_getElem?_getD,List.getElem?_eq_getElem (by omega)];rfl
 rw[cA];unfold bkL;rw[List.getElem?_append_left (by rw[List.length_append,dS,h1];show _<3+1600;omega),List.getElem?_append_right (by show 3<=_;omega)];show(bos fo)[0+3+i*40+k*1-3]? =_;rw[show 0+3+i*40+k*1-3=i*40+k by omega];unfold bos;rw[List.getElem?_map,e];rfl
theorem PF(h1:fo.length=1600)(h2:be.length=800){i k:Nat}(hi:i<20)(hk:k<40):aT (bkL ov sv r fo be mo ms) (0+1603+i*40+k*1)=some (.bool (be.getD (i*40+k) false)):=by
 have e:be[i*40+k]? =some (be.getD (i*40+k) false):=by
  rw[List.getD_eq_getElem?_getD,List.getElem?_eq_getElem (by omega)];rfl
 have hl:([ov,sv,Value.int .i64 r]++bos fo).length=1603:=by rw[List.length_append,dS,h1];rfl
 rw[cA];unfold bkL;rw[List.getElem?_append_right (by omega),hl,show 0+1603+i*40+k*1-1603=i*40+k by omega,List.getElem?_append_left (by rw[dS];omega)];unfold bos;rw[List.getElem?_map,e];rfl
theorem CU(h1:fo.length=1600)(h2:be.length=800):aT (bkL ov sv r fo be mo ms) (0+2403)=some (.map (some mo))/\aT (bkL ov sv r fo be mo ms) (0+2404)=some (.map (some ms)):=by
 have hl:([ov,sv,Value.int .i64 r]++bos fo).length=1603:=by rw[List.length_append,dS,h1];rfl
 have hb:(bos be).length=800:=by rw[dS,h2]
 constructor
 ·rw[cA];unfold bkL;rw[List.getElem?_append_right (by omega),hl,List.getElem?_append_right (by omega),hb];rfl
 ·rw[cA];unfold bkL;rw[List.getElem?_append_right (by omega),hl,List.getElem?_append_right (by omega),hb];rfl
theorem Ke(h1:fo.length=1600)(h2:be.length=800){i k:Nat}(hi:i<40)(hk:k<40)(b:Bool):bZ (bkL ov sv r fo be mo ms) (0+3+i*40+k*1) (cellsOf (.bool b))=bkL ov sv r (fo.set (i*40+k) b) be mo ms:=by
 show bZ _ _ [Value.bool b]=_;rw[fW (by rw[mD h1 h2];omega)];unfold bkL;rw[List.set_append_left _ _ (by rw[List.length_append,dS,h1];show _<3+1600;omega),List.set_append_right _ _ (by show 3<=_;omega)];show([ov,sv,Value.int .i64 r]++(bos fo).set (0+3+i*40+k*1-3) (.bool b))++_=_;rw[show 0+3+i*40+k*1-3=i*40+k by omega,tC]
theorem Kc(h1:fo.length=1600)(h2:be.length=800){i k:Nat}(hi:i<20)(hk:k<40)(b:Bool):bZ (bkL ov sv r fo be mo ms) (0+1603+i*40+k*1) (cellsOf (.bool b))=bkL ov sv r fo (be.set (i*40+k) b) mo ms:=by
 have hl:([ov,sv,Value.int .i64 r]++bos fo).length=1603:=by rw[List.length_append,dS,h1];rfl
 show bZ _ _ [Value.bool b]=_;rw[fW (by rw[mD h1 h2];omega)];unfold bkL;rw[List.set_append_right _ _ (by omega),hl,show 0+1603+i*40+k*1-1603=i*40+k by omega,List.set_append_left _ _ (by rw[dS];omega),tC]
end
def kU(ids:List Int):List (Value×Value):=ids.zipIdx.map λx=>(.int .i64 x.1, .int .i64 ((x.2:Nat):Int))
theorem MO:∀{ids:List Int} {c:Int} {i j:Nat},jq false [.i .i64] (.int .i64 c) i (((ids.zipIdx j).map λx=>((.int .i64 x.1:Value),(.int .i64 ((x.2:Nat):Int):Value))))=some ((j5 c i ids).map λp=>(p, .int .i64 ((p-i+j:Nat):Int)))
 |[],_,_,_=>rfl
 |x::ids,c,i,j=>by
  rw[List.zipIdx_cons,List.map_cons];unfold jq j5;have ke:lZ false [.i .i64] (.int .i64 c) (.int .i64 x)=some (decide (c=x)):=by
   exact QA c x
  rw[ke];by_cases e:c=x
  ·rw[decide_eq_true e,if_pos e];simp
  ·rw[decide_eq_false e,if_neg e];have ih:=MO (ids:=ids) (c:=c) (i:=i+1) (j:=j+1);dsimp only;rw[ih];cases hq:j5 c (i+1) ids with
   |none=>rfl
   |some p=>
    have:=(kM hq).1;simp only[z7,Option.some.injEq,Prod.mk.injEq,true_and];congr 2;omega
end Go.A.Pk
end
section
namespace Go.A.Pk
variable {T:Nat->Option af}
theorem Bj{α:Type}(l:List α)(x:α):(l++[x]).zipIdx=l.zipIdx++[(x,l.length)]:=by
 rw[List.zipIdx_append];simp
theorem FN{base:Nat}{h:Heap}{e:Env}{m k v:Operand}{r n:Nat}{ids:List Int}{c:Int}(hm:ev h e m=some (.map (some r)))(hk:ev h e k=some (.int .i64 c))(hv:ev h e v=some (.int .i64 (n:Nat)))(hl:ids.length=n)(hr:h.get r=some (.map (kU ids)))(hn:c ∉ ids):
 aop h base e (.iE false [.i .i64] m k v)=some (.val (.tuple #[]) (h.wr base r (.map (kU (ids++[c]))))):=by
 subst hl;have hf:=MO (ids:=ids) (c:=c) (i:=0) (j:=0);have hi:j5 c 0 ids=none:=by
  cases q:j5 c 0 ids with
  |none=>rfl
  |some j=>exact absurd (List.mem_of_getElem? (kM q).2) hn
 rw[hi]at hf;have e1:kU (ids++[c])=kU ids++[(.int .i64 c, .int .i64 ((ids.length:Nat):Int))]:=by unfold kU;rw[Bj,List.map_append];rfl
 have hf':jq false [.i .i64] (.int .i64 c) 0 (kU ids)=some none:=hf;simp only[aop,hm,hk,hv,hr,BI,cond_true,hf',dQ,e1]
theorem wX{base:Nat}{e:Env}{h:Heap}{ops:List bg}{bf:List Nat}{rs rs':List Rec}{Q:Env->Heap->Prop}{i mask:Nat}{is:List Nat}{dst:Option Nat}{m k v:Operand}{g:Option (Nat×Bool)}{er:Env}{r n:Nat}{ids:List Int}{c:Int}(ho:aT ops i=some ⟨dst, .iE false [.i .i64] m k v,g⟩)(hm:aT bf i=some mask)
 (he:cE e (cV ⟨dst, .iE false [.i .i64] m k v,g⟩)=er)(hw:bX er g=some true)(hmv:ev {h with log:=[]} er m=some (.map (some r)))(hk:ev {h with log:=[]} er k=some (.int .i64 c))(hv:ev {h with log:=[]} er v=some (.int .i64 (n:Nat)))(hl:ids.length=n)(hr:h.get r=some (.map (kU ids)))(hn:c ∉ ids)(hlt:r<h.next)
 (hrs:bL (h.wr base r (.map (kU (ids++[c])))) base [r] mask rs=some rs')
 (H:WD T base ops bf Q is rs' (cI e dst (.tuple #[])) (h.wr base r (.map (kU (ids++[c]))))):WD T base ops bf Q (i::is) rs e h:=
 rz ho hm he hw rfl (FN (h:={h with log:=[]}) hmv hk hv hl hr hn) (GA hlt _) (uz hlt _) hrs H
def TbS(R n:Nat)(f:Nat->Nat->Bool)(i k:Nat)(l:List Bool):Prop:=l.length=R*40/\∀a b,a<R->b<40->l.getD (a*40+b) false=(decide ((a<i∨a=i/\b<k)/\b<n)&&f a b)
theorem Eb{l:List Bool}{i j:Nat}{x:Bool}(h:i<l.length):(l.set i x).getD j false=if i=j then x else l.getD j false:=by
 rw[List.getD_eq_getElem?_getD,List.getD_eq_getElem?_getD,List.getElem?_set];by_cases e:i=j
 ·rw[if_pos e,if_pos e,if_pos h];rfl
 ·rw[if_neg e,if_neg e]
theorem TbS.zero(R n:Nat)(f:Nat->Nat->Bool):TbS R n f 0 0 (List.replicate (R*40) false):=by
 refine⟨List.length_replicate,λa b ha hb=> ?_⟩;rw[List.getD_eq_getElem?_getD,List.getElem?_replicate,if_pos (by omega),decide_eq_false (by omega)];rfl
theorem TbS.put{R n i k:Nat}{f:Nat->Nat->Bool}{l:List Bool}(h:TbS R n f i k l)(hi:i<R)(hk:k<40)(hn:k<n):TbS R n f i (k+1) (l.set (i*40+k) (f i k)):=by
 refine⟨by rw[List.length_set];exact h.1,λa b ha hb=> ?_⟩;rw[Eb (by rw[h.1];omega)];by_cases e:i*40+k=a*40+b
 ·obtain rfl:i=a:=by omega
  obtain rfl:k=b:=by omega
  rw[if_pos rfl,decide_eq_true ⟨.inr ⟨rfl,by omega⟩,hn⟩];rfl
 ·rw[if_neg e,h.2 a b ha hb];congr 1;refine decide_eq_decide.2 ?_;omega
theorem TbS.row{R n i k:Nat}{f:Nat->Nat->Bool}{l:List Bool}(h:TbS R n f i k l)(hk:n<=k):TbS R n f (i+1) 0 l:=by
 refine⟨h.1,λa b ha hb=> ?_⟩;rw[h.2 a b ha hb];congr 1;refine decide_eq_decide.2 ?_;omega
def pI(x y:Od):Bool:=decide (y.fr>x.to)&&decide (x.size=y.size)&&iU x.cB y.cB
def ud(x:Sp)(y:Od):Bool:=decide (x.size=y.size)&&iU x.cB y.cB
def iw(os:List Od)(i k:Nat):Bool:=match os[i]?,os[k]? with|some x,some y=>pI x y|_,_=>false
def iT(ss:List Sp)(os:List Od)(i k:Nat):Bool:=match ss[i]?,os[k]? with|some x,some y=>ud x y|_,_=>false
structure OpI (h G:Heap) (p1 q mo ms mc:Nat) (ov sv:Value) (r:Int) (fo be:List Bool) (io is':List Int):Prop where
 wf:WF G
 log:G.log=[]
 np:h.next<=p1/\p1<G.next
 nq:h.next<=q/\q<G.next
 no:h.next<=mo/\mo<G.next
 ns:h.next<=ms/\ms<G.next
 nc:h.next<=mc/\mc<G.next
 old:∀z,z<h.next->G.get z=h.get z
 g1:G.get p1=some (.cells (seL ov sv r) true 1)
 gq:G.get q=some (.cells (bkL ov sv r fo be mo ms) true 1)
 l1:fo.length=1600
 l2:be.length=800
 gmo:G.get mo=some (.map (kU io))
 gms:G.get ms=some (.map (kU is'))
 gmc:∃ks,G.get mc=some (.map (vG ks))/\∀k∈ks,IsW k
section
variable {h G:Heap} {p1 q mo ms mc:Nat} {ov sv:Value} {r:Int} {fo be:List Bool} {io is':List Int}
theorem OpI.ext(I:OpI h G p1 q mo ms mc ov sv r fo be io is'){G':Heap}(x:Ext G G'):OpI h G' p1 q mo ms mc ov sv r fo be io is':=by
 have n:=x.next
 obtain⟨ks,a,b⟩:=I.gmc;have:=I.np;have:=I.nq;have:=I.no;have:=I.ns;have:=I.nc;exact⟨x.wf I.wf,x.log.trans I.log,by omega,by omega,by omega,by omega,by omega,λz hz=>(x.old z (by omega)).trans (I.old z hz),(x.old _ (by omega)).trans I.g1,(x.old _ (by omega)).trans I.gq,I.l1,I.l2,(x.old _ (by omega)).trans I.gmo,(x.old _ (by omega)).trans I.gms,ks,(x.old _ (by omega)).trans a,b⟩
theorem OpI.wr(I:OpI h G p1 q mo ms mc ov sv r fo be io is'){base b:Nat}{o:bO}(hb:base<=h.next)(hbn:h.next<=b){fo' be':List Bool}{io' is2:List Int}(n1:p1≠b)(n5:mc≠b)(gq:(G.wr base b o).get q=some (.cells (bkL ov sv r fo' be' mo ms) true 1))(l1:fo'.length=1600)(l2:be'.length=800)
 (gmo:(G.wr base b o).get mo=some (.map (kU io')))(gms:(G.wr base b o).get ms=some (.map (kU is2))):OpI h (G.wr base b o) p1 q mo ms mc ov sv r fo' be' io' is2:=by
 obtain⟨ks,a,c⟩:=I.gmc;exact⟨I.wf.as (AS.wr base _ _ _),(Heap.aq (by omega)).trans I.log,I.np,I.nq,I.no,I.ns,I.nc,λz hz=>(z5 (by omega)).trans (I.old z hz),(z5 n1).trans I.g1,gq,l1,l2,gmo,gms,ks,(z5 n5).trans a,c⟩
theorem OpI.mem(I:OpI h G p1 q mo ms mc ov sv r fo be io is'){G':Heap}{base:Nat}(x:WsL base (λz=>z=mc) G G')(hb:base<=mc)(n1:p1≠mc)(n2:q≠mc)(n3:mo≠mc)(n4:ms≠mc)(gm:∃ks,G'.get mc=some (.map (vG ks))/\∀k∈ks,IsW k):OpI h G' p1 q mo ms mc ov sv r fo be io is':=by
 have n:=x.next
 have:=I.np;have:=I.nq;have:=I.no;have:=I.ns;have:=I.nc;refine⟨x.wf I.wf,List.eq_nil_iff_forall_not_mem.2 λz hz=> ?_,by omega,by omega,by omega,by omega,by omega,λz hz=>(x.old z (by omega) (show¬z=mc by omega)).trans (I.old z hz),(x.old _ (by omega) n1).trans I.g1,(x.old _ (by omega) n2).trans I.gq,I.l1,I.l2,(x.old _ (by omega) n3).trans I.gmo,(x.old _ (by omega) n4).trans I.gms,gm⟩;rcases x.QD z hz with e|⟨e,e2⟩
 ·rw[I.log]at e;cases e
 ·have:z=mc:=e;omega
end
theorem Ho{a b c x y z:Value}{X:List Value}:bZ ([a,b,c]++X) 0 [x,y,z]=[x,y,z]++X:=by
 rw[gM (by rw[List.length_append];show 0+3<=3+X.length;omega)];rfl
theorem Dl{P:List Value}{n:Nat}(h:P.length=n){u w v:Value}:bZ (P++[u,w]) n [v]=P++[v,w]/\bZ (P++[u,w]) (n+1) [v]=P++[u,v]:=by
 subst h;have hl:(P++[u,w]).length=P.length+2:=by rw[List.length_append];rfl
 constructor
 ·rw[fW (by omega),List.set_append_right _ _ (Nat.le_refl _),Nat.sub_self];rfl
 ·rw[fW (by omega),List.set_append_right _ _ (Nat.le_succ _),show P.length+1-P.length=1 by omega];rfl
theorem Ko{h:Heap}{e:Env}{x y z:Operand}{ov sv:Value}{r:Int}{mo ms n:Nat}{A:List Value}(hA:A.length=n){a b c u w:Value}(hx:ev h e x=some (seV ov sv r))(hy:ev h e y=some (.map (some mo)))(hz:ev h e z=some (.map (some ms))):
 iO h e ([a,b,c]++(A++[u,w])) [(0,3,x),(n+3,1,y),(n+4,1,z)]=some ([ov,sv, .int .i64 r]++(A++[.map (some mo), .map (some ms)])):=by
 have cx:cellsOf (seV ov sv r)=[ov,sv, .int .i64 r]:=rfl;have cy:cellsOf (.map (some mo))=[.map (some mo)]:=rfl;have cz:cellsOf (.map (some ms))=[.map (some ms)]:=rfl;have b1:Nat.beq (bK [ov,sv,Value.int .i64 r]) 3=true:=rfl;have b2:∀v:Value,Nat.beq (bK [v]) 1=true:=λ_=>rfl;have hl:∀(p q s u w:Value),([p,q,s]++(A++[u,w])).length=n+5:=λp q s u w=>by rw[List.length_append,List.length_append,hA];show 3+(n+2)=_;omega
 have k0:Nat.ble (0+3) (bK ([a,b,c]++(A++[u,w])))=true:=by rw[bM,hl];exact eT (by omega)
 have k1:∀u w:Value,Nat.ble (n+3+1) (bK ([ov,sv,Value.int .i64 r]++(A++[u,w])))=true:=λu w=>by rw[bM,hl];exact eT (by omega)
 have k2:∀u w:Value,Nat.ble (n+4+1) (bK ([ov,sv,Value.int .i64 r]++(A++[u,w])))=true:=λu w=>by rw[bM,hl];exact eT (by omega)
 have hP:([ov,sv,Value.int .i64 r]++A).length=n+3:=by rw[List.length_append,hA];show 3+n=_;omega
 have e1:=λv:Value=>(Dl hP (u:=u) (w:=w) (v:=v)).1;have e2:=λv1 v:Value=>(Dl hP (u:=v1) (w:=w) (v:=v)).2;simp only[List.append_assoc]at e1 e2;simp only[iO,hx,hy,hz,cx,cy,cz,b1,b2,k0,k1,k2,Bool.and_self,cond_true,Ho,e1,e2]
theorem DW{base:Nat}{h:Heap}{e:Env}{x y z:Operand}{ov sv:Value}{r:Int}{mo ms:Nat}(hx:ev h e x=some (seV ov sv r))(hy:ev h e y=some (.map (some mo)))(hz:ev h e z=some (.map (some ms))):
 aop h base e (.build (dP [.slice none 0 0, .slice none 0 0,I.O] (dP (aL 2400 (.bool false)) [.map none, .map none])) [(0,3,x),(2403,1,y),(2404,1,z)])=some (.val (.agg (bkL ov sv r (List.replicate 1600 false) (List.replicate 800 false) mo ms).toArray) h):=by
 refine lE ?_;rw[dQ,dQ,yc];have e3:bkL ov sv r (List.replicate 1600 false) (List.replicate 800 false) mo ms=[ov,sv,Value.int .i64 r]++(List.replicate 2400 (Value.bool false)++[.map (some mo), .map (some ms)]):=by
  unfold bkL bos;rw[List.map_replicate,List.map_replicate,List.append_assoc,←List.append_assoc (List.replicate 1600 _),List.replicate_append_replicate]
 rw[e3];exact Ko (n:=2400) List.length_replicate hx hy hz
def BkH(h':Heap)(q:Nat)(ov sv:Value)(r:Int)(os:List Od)(ss:List Sp):Prop:=∃fo be mo ms,h'.get q=some (.cells (bkL ov sv r fo be mo ms) true 1)/\fo.length=1600/\be.length=800/\(∀a b,a<40->b<40->fo.getD (a*40+b) false=iw os a b)/\(∀a b,a<20->b<40->be.getD (a*40+b) false=iT ss os a b)/\h'.get mo=some (.map (kU (os.map Od.id)))/\h'.get ms=some (.map (kU (ss.map Sp.id)))
def OpQ(lo:Nat)(ov sv:Value)(r:Int)(os:List Od)(ss:List Sp)(v:Value)(h':Heap):Prop:=(seB os ss r=false/\v= .tuple #[.pointer none, .int .i64 1])∨(seB os ss r=true/\∃q,v= .tuple #[.pointer (some ⟨q,0,none⟩), .int .i64 0]/\lo<=q/\q<h'.next/\BkH h' q ov sv r os ss)
structure CF (T:Nat->Option af):Prop where
 cs:Ms T
 fm:Mv T
 f164:T 35=some f164
theorem Jh{os:List Od}{ss:List Sp}{r:Int}(h:seB os ss r=true):os.length<=40/\ss.length<=20/\(os.map Od.id).Nodup/\(ss.map Sp.id).Nodup/\(∀x∈os,odB x=true)/\(∀x∈ss,spB x=true)/\inR r 0 1000=true:=by
 unfold seB at h;simp only[Bool.and_eq_true,decide_eq_true_eq]at h;obtain⟨⟨⟨⟨h1,h2⟩,h3⟩,h4⟩,h5⟩:=h;have a:=kI.1 h1;have b:=kI.1 h2;exact⟨h3,h4,a.2.1,b.2.1,a.1,b.1,h5⟩
theorem pq{α:Type}{f:α->Int}{l:List α}{i:Nat}{x:α}(h:l[i]? =some x):(l.take (i+1)).map f=(l.take i).map f++[f x]:=by
 obtain⟨hlt,rfl⟩:=List.getElem?_eq_some_iff.1 h;rw[List.take_succ_eq_append_getElem hlt,List.map_append];rfl
theorem qQ{α:Type}{f:α->Int}{l:List α}{i:Nat}{x:α}(hn:(l.map f).Nodup)(h:l[i]? =some x):f x ∉ (l.take i).map f:=by
 intro hm;obtain⟨y,hy,e⟩:=List.mem_map.1 hm;obtain⟨j,hj⟩:=List.getElem?_of_mem hy;have hji:j<i:=by
  have:=(List.getElem?_eq_some_iff.1 hj).1;rw[List.length_take]at this;omega
 rw[List.getElem?_take_of_lt hji]at hj;obtain⟨h1,e1⟩:=List.getElem?_eq_some_iff.1 hj;obtain⟨h2,e2⟩:=List.getElem?_eq_some_iff.1 h;have:=List.pairwise_iff_getElem.1 hn j i (by rw[List.length_map];exact h1) (by rw[List.length_map];exact h2) hji;apply this;rw[List.getElem_map,List.getElem_map,e1,e2,e]
def hdQ:aQ->aQ
 | .seq a _=>a
 |_=> .skip
def opA:aQ:=hdQ (tlC (tlC (tlC (tlC (cdF f164)))))
theorem Ol(F:CF T){h G:Heap}(hr:Rdy h)(hg:Tab h)(h2:0<h.next){a:Option Addr}{c:Nat}{ov sv:Value}{os:List Od}{r:Int}(so:OdS h ov os)(hov:(.slice a os.length c:Value)=ov)(hov1:cK [ov]=true)(hsv1:cK [sv]=true)(h40:os.length<=40)(hno:(os.map Od.id).Nodup)
 {p1 q mo ms mc:Nat}(d:p1<mo/\mo<ms/\ms<q/\q<mc){be:List Bool}{is':List Int}(I:OpI h G p1 q mo ms mc ov sv r (List.replicate 1600 false) be [] is'):
 WE T h.next none opA (λx e' ds' h'=>x= .normal/\(∃r,e'=(1, .pointer (some ⟨p1,0,none⟩))::(5, .pointer (some ⟨q,0,none⟩))::(6, .map (some mc))::r)/\ds'=[]/\∃fo,OpI h h' p1 q mo ms mc ov sv r fo be (os.map Od.id) is'∧TbS 40 os.length (iw os) os.length 0 fo) [(1, .pointer (some ⟨p1,0,none⟩)),(5, .pointer (some ⟨q,0,none⟩)),(6, .map (some mc))] [] G:=by
 have b0:=I.np;have b1:=I.nq;have b2:=I.nc;have g1:=I.g1;have s0:aT (seL ov sv r) (0+0)=some ov:=rfl;unfold opA hdQ tlC cdF f164;dsimp only;subst hov;refine Y7 ?_
 refine bW (λm e ds h'=>∃i:Nat,∃fo,i<=os.length/\os.length-i=m/\e=[(1, .pointer (some ⟨p1,0,none⟩)),(5, .pointer (some ⟨q,0,none⟩)),(6, .map (some mc)),(27, .slice a os.length c),(28, .int .i64 (os.length:Nat)),(29, .int .i64 (i:Nat))]/\ds=[]/\OpI h h' p1 q mo ms mc (.slice a os.length c) sv r fo be ((os.take i).map Od.id) is'∧TbS 40 os.length (iw os) i 0 fo)
  ⟨0,_,Nat.zero_le _,rfl,rfl,rfl,I, .zero _ _ _⟩ ?_
 rintro m e ds G1 ⟨i,fo,hi,rfl,rfl,rfl,I1,T1⟩;clear I g1;have W1:=I1.wf;have hL1:=I1.log;have c1:=I1.np;have c2':=I1.no;have c3:=I1.nc;have c4:=I1.nq;by_cases hlt:i<os.length
 ·obtain⟨x,hx⟩:∃r,os[i]? =some r:=⟨os[i],List.getElem?_eq_getElem hlt⟩;have hxw:=so.ok x (List.mem_of_getElem? hx);obtain⟨b,o,cc,vs,own,tt,hv,gl,hbl,el⟩:=so.elem hx;cases hv;have gl1:=(I1.old _ hbl).trans gl;have mlt:ah .lss (.int .i64 (i:Nat)) (.int .i64 (os.length:Nat))=some (.bool true):=dG (by omega);have k1:=je hxw;have k2:=lH hxw;have k3:=eY hxw;have k4:=jT x;refine Y9 ?_;refine aX (E0:=[(1, .pointer (some ⟨p1,0,none⟩)),(5, .pointer (some ⟨q,0,none⟩)),(6, .map (some mc)),(7, .int .i64 (i:Nat)),(8, .pointer (some ⟨G1.next,0,none⟩)),(27, .slice (some ⟨b,o,none⟩) os.length c),(28, .int .i64 (os.length:Nat)),(29, .int .i64 (i:Nat))]) (P:=λh'=>Ext G1 h'∧h'.next=G1.next+1/\h'.get G1.next=some (.cells (odL x) true 1)) ?_ ?_
  ·refine Y6 ?_;refine aA (bh (by exact rfl) (by exact rfl) YG (by assumption) (by exact rfl) (by exact cg _)) ?_;refine aO ?_;refine y1 ?_;exact⟨rfl,rfl,rfl,dI (by omega) _ _,rfl,ef _ _⟩
  rintro G2 ⟨x2,n2,g8⟩;have I2:=I1.ext x2;have gq2:=I2.gq;have gmo2:=I2.gmo;have kt:=(CU (ov:= .slice (some ⟨b,o,none⟩) os.length c) (sv:=sv) (r:=r) (mo:=mo) (ms:=ms) I2.l1 I2.l2).1;have ki:aT (odL x) (0+0)=some (.int .i64 x.id):=rfl;have hnm:=qQ (f:=Od.id) hno hx;have htl:((os.take i).map Od.id).length=i:=by rw[List.length_map,List.length_take];omega
  clear k1 k2 k3 k4 I1 gl1 hL1 W1;refine Y9 ?_;refine wX (ids:=(os.take i).map Od.id) (c:=x.id) (n:=i) rfl rfl rfl (by exact rfl) (by exact rfl) (by exact rfl) (by exact rfl) htl gmo2 hnm (by omega) (by(repeat apply aK rfl);exact bV) ?_;refine Y3 ?_;rw[←pq hx];have I3:OpI h (G2.wr h.next mo (.map (kU ((os.take (i+1)).map Od.id)))) p1 q mo ms mc (.slice (some ⟨b,o,none⟩) os.length c) sv r fo be ((os.take (i+1)).map Od.id) is':=
   I2.wr (Nat.le_refl _) (by omega) (by omega) (by omega) ((z5 (by omega)).trans gq2) I2.l1 I2.l2 (by rw[z6,gmo2];rfl) ((z5 (by omega)).trans I2.gms)
  have g83:(G2.wr h.next mo (.map (kU ((os.take (i+1)).map Od.id)))).get G1.next=some (.cells (odL x) true 1):=(z5 (by omega)).trans g8
  have n3:(G2.wr h.next mo (.map (kU ((os.take (i+1)).map Od.id)))).next=G2.next:=rfl
  generalize(G2.wr h.next mo (.map (kU ((os.take (i+1)).map Od.id))))=G3 at*;have g13:=I3.g1;clear I2 gq2 gmo2 kt ki hnm htl g8;refine Y7 ?_
  refine bW (λm e ds h'=>∃k:Nat,∃fo,k<=os.length/\os.length-k=m/\e=[(1, .pointer (some ⟨p1,0,none⟩)),(5, .pointer (some ⟨q,0,none⟩)),(6, .map (some mc)),(7, .int .i64 (i:Nat)),(8, .pointer (some ⟨G1.next,0,none⟩)),(27, .slice (some ⟨b,o,none⟩) os.length c),(28, .int .i64 (os.length:Nat)),(29, .int .i64 (i:Nat)),(42, .slice (some ⟨b,o,none⟩) os.length c),(43, .int .i64 (os.length:Nat)),(44, .int .i64 (k:Nat))]/\ds=[]/\OpI h h' p1 q mo ms mc (.slice (some ⟨b,o,none⟩) os.length c) sv r fo be ((os.take (i+1)).map Od.id) is'∧TbS 40 os.length (iw os) i k fo/\h'.get G1.next=some (.cells (odL x) true 1)/\G1.next<h'.next)
   ⟨0,fo,Nat.zero_le _,rfl,rfl,rfl,I3,T1,g83,by omega⟩ ?_
  clear I3 T1 g83 g13 n3;rintro m e ds J ⟨k,fo,hk,rfl,rfl,rfl,IJ,TJ,g8J,nJ⟩;have WJ:=IJ.wf;have hLJ:=IJ.log;by_cases hkt:k<os.length
  ·obtain⟨y,hy⟩:∃r,os[k]? =some r:=⟨os[k],List.getElem?_eq_getElem hkt⟩;have hyw:=so.ok y (List.mem_of_getElem? hy);obtain⟨b',o',cc',vs',own',tt',hv,gl',hbl',el'⟩:=so.elem hy;cases hv;have gl1:=(IJ.old _ hbl).trans gl';have mlt:ah .lss (.int .i64 (k:Nat)) (.int .i64 (os.length:Nat))=some (.bool true):=dG (by omega);have k1:=je hyw;have k2:=lH hyw;have k3:=eY hyw;have k4:=jT y;refine Y9 ?_;refine aX (E0:=[(1, .pointer (some ⟨p1,0,none⟩)),(5, .pointer (some ⟨q,0,none⟩)),(6, .map (some mc)),(7, .int .i64 (i:Nat)),(8, .pointer (some ⟨G1.next,0,none⟩)),(9, .int .i64 (k:Nat)),(10, .pointer (some ⟨J.next,0,none⟩)),(27, .slice (some ⟨b,o,none⟩) os.length c),(28, .int .i64 (os.length:Nat)),(29, .int .i64 (i:Nat)),(42, .slice (some ⟨b,o,none⟩) os.length c),(43, .int .i64 (os.length:Nat)),(44, .int .i64 (k:Nat))]) (P:=λh'=>Ext J h'∧h'.next=J.next+1/\h'.get J.next=some (.cells (odL y) true 1)) ?_ ?_
   ·refine Y6 ?_;refine aA (bh (by exact rfl) (by exact rfl) YG (by assumption) (by exact rfl) (by exact cg _)) ?_;refine aO ?_;refine y1 ?_;exact⟨rfl,rfl,rfl,dI (by omega) _ _,rfl,ef _ _⟩
   rintro J2 ⟨xJ2,nJ2,g10⟩;have IJ2:=IJ.ext xJ2;have g8J2:=(xJ2.old _ nJ).trans g8J;clear k1 k2 k3 k4 IJ gl1 hLJ WJ g8J;have hf:iw os i k=pI x y:=by unfold iw;rw[hx,hy]
   have TP:=TJ.put (by omega) (by omega) hkt;rw[hf]at TP;have l1:=IJ2.l1;have l2:=IJ2.l2;have gq:=IJ2.gq;have kw:=λbb=>Ke (ov:= .slice (some ⟨b,o,none⟩) os.length c) (sv:=sv) (r:=r) (mo:=mo) (ms:=ms) l1 l2 (i:=i) (k:=k) (by omega) (by omega) bb;have kc:∀bb:Bool,(Nat.beq (bK (cellsOf (.bool bb))) 1&&Nat.ble (0+3+i*40+k*1+1) (bK (bkL (.slice (some ⟨b,o,none⟩) os.length c) sv r fo be mo ms))&&cK (cellsOf (.bool bb)))=true:=λbb=>by
    rw[bM (bkL _ _ _ _ _ _ _),mD l1 l2,eT (by omega)];rfl
   have wy1:aT (odL y) (0+1)=some (.int .i64 y.fr):=rfl;have x2':aT (odL x) (0+2)=some (.int .i64 x.to):=rfl;have wy3:aT (odL y) (0+3)=some (.int .i64 y.size):=rfl;have x3':aT (odL x) (0+3)=some (.int .i64 x.size):=rfl;have wy5:=iF hyw;have x5:=iF hxw;have yl:=aR hyw.len;have xl:=aR hxw.len;by_cases h1:y.fr>x.to;case neg=>
    have m1:ah .gtr (.int .i64 y.fr) (.int .i64 x.to)=some (.bool false):=jB (by omega);rw[show pI x y=false by unfold pI;rw[decide_eq_false h1];rfl]at TP;refine Y28 ?_;refine eG (vs:=bkL (.slice (some ⟨b,o,none⟩) os.length c) sv r fo be mo ms) (ws:=bkL (.slice (some ⟨b,o,none⟩) os.length c) sv r (fo.set (i*40+k) false) be mo ms) rfl rfl rfl (by exact rfl) (by exact rfl) (by exact rfl) gq (kc false) (kw false) (by omega) (by(repeat apply aK rfl);exact bV) ?_;refine Y8 ?_;exact⟨os.length-(k+1),by omega,k+1,_,by omega,rfl,rfl,rfl,IJ2.wr (Nat.le_refl _) (by omega) (by omega) (by omega) (Heap.aB gq) (by rw[List.length_set];exact l1) l2 ((z5 (by omega)).trans IJ2.gmo) ((z5 (by omega)).trans IJ2.gms),TP,(z5 (by omega)).trans g8J2,by show G1.next<J2.next;omega⟩
   have m1:ah .gtr (.int .i64 y.fr) (.int .i64 x.to)=some (.bool true):=kP (by omega);by_cases h3:x.size=y.size;case neg=>
    have m2:ah .eql (.int .i64 x.size) (.int .i64 y.size)=some (.bool false):=pN h3;rw[show pI x y=false by unfold pI;rw[decide_eq_false h3,Bool.and_false];rfl]at TP;refine Y28 ?_;refine eG (vs:=bkL (.slice (some ⟨b,o,none⟩) os.length c) sv r fo be mo ms) (ws:=bkL (.slice (some ⟨b,o,none⟩) os.length c) sv r (fo.set (i*40+k) false) be mo ms) rfl rfl rfl (by exact rfl) (by exact rfl) (by exact rfl) gq (kc false) (kw false) (by omega) (by(repeat apply aK rfl);exact bV) ?_;refine Y8 ?_;exact⟨os.length-(k+1),by omega,k+1,_,by omega,rfl,rfl,rfl,IJ2.wr (Nat.le_refl _) (by omega) (by omega) (by omega) (Heap.aB gq) (by rw[List.length_set];exact l1) l2 ((z5 (by omega)).trans IJ2.gmo) ((z5 (by omega)).trans IJ2.gms),TP,(z5 (by omega)).trans g8J2,by show G1.next<J2.next;omega⟩
   have m2:ah .eql (.int .i64 x.size) (.int .i64 y.size)=some (.bool true):=nU h3;rw[show pI x y=iU x.cB y.cB by unfold pI;rw[decide_eq_true h1,decide_eq_true h3];rfl]at TP;obtain⟨ks,gm,hks⟩:=IJ2.gmc;have C:=De F.fm (h:={J2 with log:=[]}) (.of IJ2.wf) (show Tab J2 from(IJ2.old 0 h2).trans hg) (by show 0<J2.next;omega) gm hks hxw hyw;refine Y26 ?_;refine FW.Nu C (λv h' lg q=>q) ?_;clear C;rintro _ J3 lg x3 hlg ⟨rfl,gm3⟩;have nx3:=x3.next
   have I3:=IJ2.mem x3 (by omega) (by omega) (by omega) (by omega) (by omega) gm3;have g83:=(x3.old _ (by omega) (show¬G1.next=mc by omega)).trans g8J2;have g103:=(x3.old _ (by omega) (show¬J.next=mc by omega)).trans g10;have gq3:=I3.gq;clear g8J2 g10 gq gm;refine⟨_,by apply aM rfl (aG rfl (lW (by exact rfl) (by exact rfl) (by omega)) (by exact dz _)) rfl;apply aM rfl (aG rfl (ez (by exact rfl)) (by exact dz _)) rfl;apply aM rfl (aG rfl (ni (by exact rfl)) (by exact dz _)) rfl;(repeat apply aK rfl);apply aM rfl (aG rfl (gG (by exact rfl)) (by exact eR _ _)) rfl;apply aM rfl (aG rfl (gG (by exact rfl)) (by exact eR _ _)) rfl;apply aM rfl (aG rfl (gG (by exact rfl)) (by exact dz _)) rfl;exact bV,?_⟩;refine Y2 ?_;refine eG (vs:=bkL (.slice (some ⟨b,o,none⟩) os.length c) sv r fo be mo ms) (ws:=bkL (.slice (some ⟨b,o,none⟩) os.length c) sv r (fo.set (i*40+k) (iU x.cB y.cB)) be mo ms) rfl rfl rfl (by exact rfl) (by exact rfl) (by exact rfl) gq3 (kc (iU x.cB y.cB)) (kw (iU x.cB y.cB)) (by omega) (by(repeat apply aK rfl);exact bV) ?_;refine Y8 ?_;exact⟨os.length-(k+1),by omega,k+1,_,by omega,rfl,rfl,rfl,I3.wr (Nat.le_refl _) (by omega) (by omega) (by omega) (Heap.aB gq3) (by rw[List.length_set];exact l1) l2 ((z5 (by omega)).trans I3.gmo) ((z5 (by omega)).trans I3.gms),TP,(z5 (by omega)).trans g83,by show G1.next<J3.next;omega⟩
  ·obtain rfl:k=os.length:=by omega
   have mlt:ah .lss (.int .i64 (os.length:Nat)) (.int .i64 (os.length:Nat))=some (.bool false):=dJ (by omega);refine Y15 ?_;exact⟨os.length-(i+1),by omega,i+1,fo,by omega,rfl,rfl,rfl,IJ,TJ.row (Nat.le_refl _)⟩
 ·obtain rfl:i=os.length:=by omega
  have mlt:ah .lss (.int .i64 (os.length:Nat)) (.int .i64 (os.length:Nat))=some (.bool false):=dJ (by omega);rw[List.take_length]at I1;refine Y9 ?_;exact⟨rfl,⟨_,rfl⟩,rfl,fo,I1,T1⟩
def opB:aQ:=hdQ (tlC (tlC (tlC (tlC (tlC (cdF f164))))))
theorem Om(F:CF T){h G:Heap}(hr:Rdy h)(hg:Tab h)(h2:0<h.next){a a2:Option Addr}{c c2:Nat}{os:List Od}{ss:List Sp}{r:Int}(so:OdS h (.slice a os.length c) os)(sp:SpS h (.slice a2 ss.length c2) ss)(h40:os.length<=40)(h20:ss.length<=20)(hns:(ss.map Sp.id).Nodup)
 {p1 q mo ms mc:Nat}(d:p1<mo/\mo<ms/\ms<q/\q<mc){fo:List Bool}{io:List Int}{er:Env}(I:OpI h G p1 q mo ms mc (.slice a os.length c) (.slice a2 ss.length c2) r fo (List.replicate 800 false) io []):
 WE T h.next none opB (λx e' ds' h'=>x= .normal/\(∃r,e'=(1, .pointer (some ⟨p1,0,none⟩))::(5, .pointer (some ⟨q,0,none⟩))::(6, .map (some mc))::r)/\ds'=[]/\∃be,OpI h h' p1 q mo ms mc (.slice a os.length c) (.slice a2 ss.length c2) r fo be io (ss.map Sp.id)/\TbS 20 os.length (iT ss os) ss.length 0 be) ((1, .pointer (some ⟨p1,0,none⟩))::(5, .pointer (some ⟨q,0,none⟩))::(6, .map (some mc))::er) [] G:=by
 have b0:=I.np;have b1:=I.nq;have b2:=I.nc;have g1:=I.g1;have s0:aT (seL (.slice a os.length c) (.slice a2 ss.length c2) r) (0+0)=some (.slice a os.length c):=rfl;have s1:aT (seL (.slice a os.length c) (.slice a2 ss.length c2) r) (0+1)=some (.slice a2 ss.length c2):=rfl;unfold opB hdQ tlC cdF f164;dsimp only;refine Y7 ?_
 refine bW (λm e ds h'=>∃i:Nat,∃be,i<=ss.length/\ss.length-i=m/\e=[(1, .pointer (some ⟨p1,0,none⟩)),(5, .pointer (some ⟨q,0,none⟩)),(6, .map (some mc)),(79, .slice a2 ss.length c2),(80, .int .i64 (ss.length:Nat)),(81, .int .i64 (i:Nat))]/\ds=[]/\OpI h h' p1 q mo ms mc (.slice a os.length c) (.slice a2 ss.length c2) r fo be io ((ss.take i).map Sp.id)/\TbS 20 os.length (iT ss os) i 0 be)
  ⟨0,_,Nat.zero_le _,rfl,rfl,rfl,I, .zero _ _ _⟩ ?_
 rintro m e ds G1 ⟨i,be,hi,rfl,rfl,rfl,I1,T1⟩;clear I g1;have W1:=I1.wf;have hL1:=I1.log;have c1:=I1.np;have c2':=I1.no;have c3:=I1.nc;have c4:=I1.nq;have c5:=I1.ns;by_cases hlt:i<ss.length
 ·obtain⟨x,hx⟩:∃r,ss[i]? =some r:=⟨ss[i],List.getElem?_eq_getElem hlt⟩;have hxw:=sp.ok x (List.mem_of_getElem? hx);obtain⟨b,o,cc,vs,own,tt,hv,gl,hbl,el⟩:=sp.elem hx;cases hv;have gl1:=(I1.old _ hbl).trans gl;have mlt:ah .lss (.int .i64 (i:Nat)) (.int .i64 (ss.length:Nat))=some (.bool true):=dG (by omega);have k1:=iH hxw;have k2:=kn hxw;have k3:=dV hxw;have k4:=jj x;refine Y9 ?_;refine aX (E0:=[(1, .pointer (some ⟨p1,0,none⟩)),(5, .pointer (some ⟨q,0,none⟩)),(6, .map (some mc)),(11, .int .i64 (i:Nat)),(12, .pointer (some ⟨G1.next,0,none⟩)),(79, .slice (some ⟨b,o,none⟩) ss.length c2),(80, .int .i64 (ss.length:Nat)),(81, .int .i64 (i:Nat))]) (P:=λh'=>Ext G1 h'∧h'.next=G1.next+1/\h'.get G1.next=some (.cells (spL x) true 1)) ?_ ?_
  ·refine Y6 ?_;refine aA (bh (by exact rfl) (by exact rfl) YG (by assumption) (by exact rfl) (by exact cg _)) ?_;refine aO ?_;refine y1 ?_;exact⟨rfl,rfl,rfl,dI (by omega) _ _,rfl,ef _ _⟩
  rintro G2 ⟨x2,n2,g8⟩;have I2:=I1.ext x2;have gq2:=I2.gq;have gms2:=I2.gms;have kt:=(CU (ov:= .slice a os.length c) (sv:= .slice (some ⟨b,o,none⟩) ss.length c2) (r:=r) (mo:=mo) (ms:=ms) I2.l1 I2.l2).2;have ki:aT (spL x) (0+0)=some (.int .i64 x.id):=rfl;have hnm:=qQ (f:=Sp.id) hns hx;have htl:((ss.take i).map Sp.id).length=i:=by rw[List.length_map,List.length_take];omega
  clear k1 k2 k3 k4 I1 gl1 hL1 W1;refine Y9 ?_;refine wX (ids:=(ss.take i).map Sp.id) (c:=x.id) (n:=i) rfl rfl rfl (by exact rfl) (by exact rfl) (by exact rfl) (by exact rfl) htl gms2 hnm (by omega) (by(repeat apply aK rfl);exact bV) ?_;refine Y3 ?_;rw[←pq hx];have I3:OpI h (G2.wr h.next ms (.map (kU ((ss.take (i+1)).map Sp.id)))) p1 q mo ms mc (.slice a os.length c) (.slice (some ⟨b,o,none⟩) ss.length c2) r fo be io ((ss.take (i+1)).map Sp.id):=
   I2.wr (Nat.le_refl _) (by omega) (by omega) (by omega) ((z5 (by omega)).trans gq2) I2.l1 I2.l2 ((z5 (by omega)).trans I2.gmo) (by rw[z6,gms2];rfl)
  have g83:(G2.wr h.next ms (.map (kU ((ss.take (i+1)).map Sp.id)))).get G1.next=some (.cells (spL x) true 1):=(z5 (by omega)).trans g8
  have n3:(G2.wr h.next ms (.map (kU ((ss.take (i+1)).map Sp.id)))).next=G2.next:=rfl
  generalize(G2.wr h.next ms (.map (kU ((ss.take (i+1)).map Sp.id))))=G3 at*;have g13:=I3.g1;clear I2 gq2 gms2 kt ki hnm htl g8;refine Y7 ?_
  refine bW (λm e ds h'=>∃k:Nat,∃be,k<=os.length/\os.length-k=m/\e=[(1, .pointer (some ⟨p1,0,none⟩)),(5, .pointer (some ⟨q,0,none⟩)),(6, .map (some mc)),(11, .int .i64 (i:Nat)),(12, .pointer (some ⟨G1.next,0,none⟩)),(79, .slice (some ⟨b,o,none⟩) ss.length c2),(80, .int .i64 (ss.length:Nat)),(81, .int .i64 (i:Nat)),(94, .slice a os.length c),(95, .int .i64 (os.length:Nat)),(96, .int .i64 (k:Nat))]/\ds=[]/\OpI h h' p1 q mo ms mc (.slice a os.length c) (.slice (some ⟨b,o,none⟩) ss.length c2) r fo be io ((ss.take (i+1)).map Sp.id)/\TbS 20 os.length (iT ss os) i k be/\h'.get G1.next=some (.cells (spL x) true 1)/\G1.next<h'.next)
   ⟨0,be,Nat.zero_le _,rfl,rfl,rfl,I3,T1,g83,by omega⟩ ?_
  clear I3 T1 g83 g13 n3;rintro m e ds J ⟨k,be,hk,rfl,rfl,rfl,IJ,TJ,g8J,nJ⟩;have WJ:=IJ.wf;have hLJ:=IJ.log;by_cases hkt:k<os.length
  ·obtain⟨y,hy⟩:∃r,os[k]? =some r:=⟨os[k],List.getElem?_eq_getElem hkt⟩;have hyw:=so.ok y (List.mem_of_getElem? hy);obtain⟨b',o',cc',vs',own',tt',hv,gl',hbl',el'⟩:=so.elem hy;cases hv;have gl1:=(IJ.old _ hbl').trans gl';have mlt:ah .lss (.int .i64 (k:Nat)) (.int .i64 (os.length:Nat))=some (.bool true):=dG (by omega);have k1:=je hyw;have k2:=lH hyw;have k3:=eY hyw;have k4:=jT y;refine Y9 ?_;refine aX (E0:=[(1, .pointer (some ⟨p1,0,none⟩)),(5, .pointer (some ⟨q,0,none⟩)),(6, .map (some mc)),(11, .int .i64 (i:Nat)),(12, .pointer (some ⟨G1.next,0,none⟩)),(13, .int .i64 (k:Nat)),(14, .pointer (some ⟨J.next,0,none⟩)),(79, .slice (some ⟨b,o,none⟩) ss.length c2),(80, .int .i64 (ss.length:Nat)),(81, .int .i64 (i:Nat)),(94, .slice (some ⟨b',o',none⟩) os.length c),(95, .int .i64 (os.length:Nat)),(96, .int .i64 (k:Nat))]) (P:=λh'=>Ext J h'∧h'.next=J.next+1/\h'.get J.next=some (.cells (odL y) true 1)) ?_ ?_
   ·refine Y6 ?_;refine aA (bh (by exact rfl) (by exact rfl) YG (by assumption) (by exact rfl) (by exact cg _)) ?_;refine aO ?_;refine y1 ?_;exact⟨rfl,rfl,rfl,dI (by omega) _ _,rfl,ef _ _⟩
   rintro J2 ⟨xJ2,nJ2,g10⟩;have IJ2:=IJ.ext xJ2;have g8J2:=(xJ2.old _ nJ).trans g8J;clear k1 k2 k3 k4 IJ gl1 hLJ WJ g8J;have hf:iT ss os i k=ud x y:=by unfold iT;rw[hx,hy]
   have TP:=TJ.put (by omega) (by omega) hkt;rw[hf]at TP;have l1:=IJ2.l1;have l2:=IJ2.l2;have gq:=IJ2.gq;have kw:=λbb=>Kc (ov:= .slice (some ⟨b',o',none⟩) os.length c) (sv:= .slice (some ⟨b,o,none⟩) ss.length c2) (r:=r) (mo:=mo) (ms:=ms) l1 l2 (i:=i) (k:=k) (by omega) (by omega) bb;have kc:∀bb:Bool,(Nat.beq (bK (cellsOf (.bool bb))) 1&&Nat.ble (0+1603+i*40+k*1+1) (bK (bkL (.slice (some ⟨b',o',none⟩) os.length c) (.slice (some ⟨b,o,none⟩) ss.length c2) r fo be mo ms))&&cK (cellsOf (.bool bb)))=true:=λbb=>by
    rw[bM (bkL _ _ _ _ _ _ _),mD l1 l2,eT (by omega)];rfl
   have x1':aT (spL x) (0+1)=some (.int .i64 x.size):=rfl;have wy3:aT (odL y) (0+3)=some (.int .i64 y.size):=rfl;have wy5:=iF hyw;have x5:=lu hxw;have yl:=aR hyw.len;have xl:=aR hxw.len;by_cases h3:x.size=y.size;case neg=>
    have m2:ah .eql (.int .i64 x.size) (.int .i64 y.size)=some (.bool false):=pN h3;rw[show ud x y=false by unfold ud;rw[decide_eq_false h3];rfl]at TP;refine Y21 ?_;refine eG (vs:=bkL (.slice (some ⟨b',o',none⟩) os.length c) (.slice (some ⟨b,o,none⟩) ss.length c2) r fo be mo ms) (ws:=bkL (.slice (some ⟨b',o',none⟩) os.length c) (.slice (some ⟨b,o,none⟩) ss.length c2) r fo (be.set (i*40+k) false) mo ms) rfl rfl rfl (by exact rfl) (by exact rfl) (by exact rfl) gq (kc false) (kw false) (by omega) (by(repeat apply aK rfl);exact bV) ?_;refine Y8 ?_;exact⟨os.length-(k+1),by omega,k+1,_,by omega,rfl,rfl,rfl,IJ2.wr (Nat.le_refl _) (by omega) (by omega) (by omega) (Heap.aB gq) l1 (by rw[List.length_set];exact l2) ((z5 (by omega)).trans IJ2.gmo) ((z5 (by omega)).trans IJ2.gms),TP,(z5 (by omega)).trans g8J2,by show G1.next<J2.next;omega⟩
   have m2:ah .eql (.int .i64 x.size) (.int .i64 y.size)=some (.bool true):=nU h3;rw[show ud x y=iU x.cB y.cB by unfold ud;rw[decide_eq_true h3];rfl]at TP;obtain⟨ks,gm,hks⟩:=IJ2.gmc;have C:=De F.fm (h:={J2 with log:=[]}) (.of IJ2.wf) (show Tab J2 from(IJ2.old 0 h2).trans hg) (by show 0<J2.next;omega) gm hks hxw hyw;refine Y19 ?_;refine FW.Nu C (λv h' lg q=>q) ?_;clear C;rintro _ J3 lg x3 hlg ⟨rfl,gm3⟩;have nx3:=x3.next
   have I3:=IJ2.mem x3 (by omega) (by omega) (by omega) (by omega) (by omega) gm3;have g83:=(x3.old _ (by omega) (show¬G1.next=mc by omega)).trans g8J2;have g103:=(x3.old _ (by omega) (show¬J.next=mc by omega)).trans g10;have gq3:=I3.gq;clear g8J2 g10 gq gm;refine⟨_,by apply aM rfl (aG rfl (lW (by exact rfl) (by exact rfl) (by omega)) (by exact dz _)) rfl;apply aM rfl (aG rfl (ez (by exact rfl)) (by exact dz _)) rfl;apply aM rfl (aG rfl (ni (by exact rfl)) (by exact dz _)) rfl;(repeat apply aK rfl);apply aM rfl (aG rfl (gG (by exact rfl)) (by exact eR _ _)) rfl;apply aM rfl (aG rfl (gG (by exact rfl)) (by exact eR _ _)) rfl;apply aM rfl (aG rfl (gG (by exact rfl)) (by exact dz _)) rfl;exact bV,?_⟩;refine Y2 ?_;refine eG (vs:=bkL (.slice (some ⟨b',o',none⟩) os.length c) (.slice (some ⟨b,o,none⟩) ss.length c2) r fo be mo ms) (ws:=bkL (.slice (some ⟨b',o',none⟩) os.length c) (.slice (some ⟨b,o,none⟩) ss.length c2) r fo (be.set (i*40+k) (iU x.cB y.cB)) mo ms) rfl rfl rfl (by exact rfl) (by exact rfl) (by exact rfl) gq3 (kc (iU x.cB y.cB)) (kw (iU x.cB y.cB)) (by omega) (by(repeat apply aK rfl);exact bV) ?_;refine Y8 ?_;exact⟨os.length-(k+1),by omega,k+1,_,by omega,rfl,rfl,rfl,I3.wr (Nat.le_refl _) (by omega) (by omega) (by omega) (Heap.aB gq3) l1 (by rw[List.length_set];exact l2) ((z5 (by omega)).trans I3.gmo) ((z5 (by omega)).trans I3.gms),TP,(z5 (by omega)).trans g83,by show G1.next<J3.next;omega⟩
  ·obtain rfl:k=os.length:=by omega
   have mlt:ah .lss (.int .i64 (os.length:Nat)) (.int .i64 (os.length:Nat))=some (.bool false):=dJ (by omega);refine Y15 ?_;exact⟨ss.length-(i+1),by omega,i+1,be,by omega,rfl,rfl,rfl,IJ,TJ.row (Nat.le_refl _)⟩
 ·obtain rfl:i=ss.length:=by omega
  have mlt:ah .lss (.int .i64 (ss.length:Nat)) (.int .i64 (ss.length:Nat))=some (.bool false):=dJ (by omega);rw[List.take_length]at I1;refine Y9 ?_;exact⟨rfl,⟨_,rfl⟩,rfl,be,I1,T1⟩
theorem K3{h G:Heap}{p1 q mo ms mc:Nat}{ov sv:Value}{r:Int}{fo be:List Bool}{os:List Od}{ss:List Sp}(hb:seB os ss r=true)(I:OpI h G p1 q mo ms mc ov sv r fo be (os.map Od.id) (ss.map Sp.id))(TF:TbS 40 os.length (iw os) os.length 0 fo)(TB:TbS 20 os.length (iT ss os) ss.length 0 be):OpQ h.next ov sv r os ss (.tuple #[.pointer (some ⟨q,0,none⟩), .int .i64 0]) G:=by
 refine .inr ⟨hb,q,rfl,I.nq.1,I.nq.2,fo,be,mo,ms,I.gq,I.l1,I.l2,λa b ha hb'=> ?_,λa b ha hb'=> ?_,I.gmo,I.gms⟩
 ·rw[TF.2 a b ha hb'];by_cases h1:a<os.length/\b<os.length
  ·rw[decide_eq_true (by omega),Bool.true_and]
  ·rw[decide_eq_false (by omega),Bool.false_and];unfold iw;rcases(show os.length<=a∨os.length<=b by omega)with q'|q'
   ·rw[List.getElem?_eq_none q']
   ·rw[List.getElem?_eq_none q'];cases os[a]? <;>rfl
 ·rw[TB.2 a b ha hb'];by_cases h1:a<ss.length/\b<os.length
  ·rw[decide_eq_true (by omega),Bool.true_and]
  ·rw[decide_eq_false (by omega),Bool.false_and];unfold iT;rcases(show ss.length<=a∨os.length<=b by omega)with q'|q'
   ·rw[List.getElem?_eq_none q']
   ·rw[List.getElem?_eq_none q'];cases ss[a]? <;>rfl
theorem EL(F:CF T){h:Heap}(hr:Rdy h)(hg:Tab h)(h2:0<h.next){ov sv:Value}{os:List Od}{ss:List Sp}{r:Int}(so:OdS h ov os)(ho:os.length<4611686018427387904)(sp:SpS h sv ss)(hs:ss.length<4611686018427387904):
 Al T 35 [seV ov sv r] h (OpQ h.next ov sv r os ss):=by
 have hp:=F.cs.df.rt.p;refine .of hp F.f164 hr ?_ ?_
 ·rintro v h1 hv (q|⟨_,q,rfl,_⟩)
  ·exact .inl q
  ·cases hv
 obtain⟨a,c,rfl⟩:=so.form;obtain⟨a2,c2,rfl⟩:=sp.form;generalize hov:(.slice a os.length c:Value)=ov at*;generalize hsv:(.slice a2 ss.length c2:Value)=sv at*;have hov1:cK [ov]=true:=by rw[←hov];rfl
 have hsv1:cK [sv]=true:=by rw[←hsv];rfl
 have hc:cellsOf (seV ov sv r)=seL ov sv r:=rfl;have x0:Ext h (h.push (.cells (cellsOf (seV ov sv r)) true 1)):=(Ext.refl h).push _;have g0:(h.push (.cells (cellsOf (seV ov sv r)) true 1)).get h.next=some (.cells (seL ov sv r) true 1):=by rw[hc];exact z3 _ _
 have n0:(h.push (.cells (cellsOf (seV ov sv r)) true 1)).next=h.next+1:=rfl
 refine Y5 ?_;generalize(h.push (.cells (cellsOf (seV ov sv r)) true 1))=H at*;have W:=x0.wf hr.wf;have hL:=x0.log.trans hr.log;have k0:bB 3 (bA 0 (seL ov sv r))=seL ov sv r:=rfl;have k1:Nat.beq (bK (seL ov sv r)) 3=true:=rfl;have C:=Nj F.cs (h:={H with log:=[]}) (.of W) (r:=r) ((so.ext x0).log []) ho ((sp.ext x0).log []) hs;unfold seE at C;cases hb:seB os ss r with
 |false=>
  rw[hb,if_neg (by simp)]at C;refine Y4 ?_;refine FW.pu C ?_;refine Y14 ?_;exact fA hL rfl (.inl ⟨hb,rfl⟩)
 |true=>
 rw[hb,if_pos rfl]at C;obtain⟨h40,h20,hno,hns,_,_,_⟩:=Jh hb;refine Y4 ?_;refine FW.pu C ?_;clear C;have hcb:cellsOf (.agg (bkL ov sv r (List.replicate 1600 false) (List.replicate 800 false) H.next (H.next+1)).toArray)=bkL ov sv r (List.replicate 1600 false) (List.replicate 800 false) H.next (H.next+1):=by show(bkL _ _ _ _ _ _ _).toArray.toList=_;simp
 refine Y9 ?_;refine aX (E0:=[(1, .pointer (some ⟨h.next,0,none⟩)),(5, .pointer (some ⟨H.next+2,0,none⟩))]) (P:=λh'=>Ext H h'∧h'.next=H.next+3/\h'.get (H.next+2)=some (.cells (bkL ov sv r (List.replicate 1600 false) (List.replicate 800 false) H.next (H.next+1)) true 1)/\h'.get H.next=some (.map [])/\h'.get (H.next+1)=some (.map [])) ?_ ?_
 ·refine Y2 ?_;refine aA qk ?_;refine aA qk ?_;refine aA (DW (ov:=ov) (sv:=sv) (r:=r) (mo:=H.next) (ms:=H.next+1) (by exact rfl) (by exact rfl) (by exact rfl)) ?_;refine Y2 ?_;refine aO ?_;refine y1 ?_;refine⟨rfl,rfl,rfl,(((Ext.refl H).push _).push _).push _,rfl,?_,?_,?_⟩
  ·rw[hcb];exact z3 _ _
  ·exact(z4 (by show H.next<H.next+2;omega)).trans ((z4 (by show H.next<H.next+1;omega)).trans (z3 _ _))
  ·exact(z4 (by show H.next+1<H.next+2;omega)).trans (z3 _ _)
 rintro H1 ⟨x1,n1,gq,gmo,gms⟩;clear hcb;have xa:=x0.trans x1;refine y4 ?_;refine aA qk ?_;have I0:OpI h (H1.push (.map [])) h.next (H.next+2) H.next (H.next+1) H1.next ov sv r (List.replicate 1600 false) (List.replicate 800 false) [] []:=by
  have xb:=xa.push (.map []);exact⟨xb.wf hr.wf,xb.log.trans hr.log,by show _/\_<H1.next+1;omega,by show _/\_<H1.next+1;omega,by show _/\_<H1.next+1;omega,by show _/\_<H1.next+1;omega,by show _/\_<H1.next+1;omega,xb.old,((Ext.refl H1).push _).old _ (by omega)|>.trans ((x1.old _ (by omega)).trans g0),((Ext.refl H1).push _).old _ (by omega)|>.trans gq,List.length_replicate,List.length_replicate,((Ext.refl H1).push _).old _ (by omega)|>.trans gmo,((Ext.refl H1).push _).old _ (by omega)|>.trans gms,[],z3 _ _,λk hk=>by cases hk⟩
 have nI:(H1.push (.map [])).next=H1.next+1:=rfl
 generalize(H1.push (.map []))=H2 at*;clear gq gmo gms g0;refine Y2 ?_;rw[←hov,←hsv]at I0;have so':OdS h (.slice a os.length c) os:=by rw[hov];exact so
 have sp':SpS h (.slice a2 ss.length c2) ss:=by rw[hsv];exact sp
 refine sG (E0:=λr=>(1, .pointer (some ⟨h.next,0,none⟩))::(5, .pointer (some ⟨H.next+2,0,none⟩))::(6, .map (some H1.next))::r) (P:=λh'=>∃fo,OpI h h' h.next (H.next+2) H.next (H.next+1) H1.next (.slice a os.length c) (.slice a2 ss.length c2) r fo (List.replicate 800 false) (os.map Od.id) []/\TbS 40 os.length (iw os) os.length 0 fo) ?_ ?_
 ·exact Ol F hr hg h2 so' rfl rfl rfl h40 hno (by omega) I0
 rintro er G1 ⟨fo,I1,TF⟩;refine sG (E0:=λr=>(1, .pointer (some ⟨h.next,0,none⟩))::(5, .pointer (some ⟨H.next+2,0,none⟩))::(6, .map (some H1.next))::r) (P:=λh'=>∃be,OpI h h' h.next (H.next+2) H.next (H.next+1) H1.next (.slice a os.length c) (.slice a2 ss.length c2) r fo be (os.map Od.id) (ss.map Sp.id)/\TbS 20 os.length (iT ss os) ss.length 0 be) ?_ ?_
 ·exact Om F hr hg h2 so' sp' h40 h20 hns (by omega) I1
 rintro er2 G2 ⟨be,I2,TB⟩;rw[hov,hsv]at I2;refine Y6 ?_;exact fA I2.log rfl (K3 hb I2 TF TB)
end Go.A.Pk
end
