/- Walks of functions, plain laws, the table. -/
import Derived.Test.YtgffeapobcfigaaGreatDoorFU3
import Derived.Test.YtgffeapobcfigaaGreatDoorFU4
import Derived.Test.YtgffeapobcfigaaGreatDoorFU0
import Derived.Test.YtgffeapobcfigaaGreatDoorFH
import Derived.Test.YtgffeapobcfigaaGreatDoorFT
import Derived.KernelRfl
import Derived.Test.YtgffeapobcfigaaGreatDoorFD
set_option linter.all false
set_option maxHeartbeats 16000000
set_option maxRecDepth 100000
section
namespace Go.A.Pk
variable {T:Nat->Option af}
theorem O9{base:Nat}{h:Heap}{e:Env}{x y:Operand}{a:Bool}(hx:ev h e x=some (.bool a))(hy:ev h e y=some (.bool a)):aop h base e (.bin (.beq true) x y)=some (.val (.bool false) h):=by
 rw[NA hx hy];cases a<;>rfl
structure IK (T:Nat->Option af):Prop where
 de:Jf T
 rj:BB T
 lt:NX T
 f14:T 14=some f14
 f21:T 21=some (.j9 pSd)
theorem FU{w:List Nat×List Nat}{os:List (List Nat)}(h:uP w os=true):os.length<=8:=by
 unfold uP at h;split at h
 ·exact of_decide_eq_true h
 ·rw[Bool.and_eq_true]at h;exact of_decide_eq_true h.2
theorem QG(F:IK T){h:Heap}(hr:Rdy h)(hg:Tab h)(h2:2<h.next){w:List Nat×List Nat}(hw:IsW w){pv:Value}{l:List Pb}(sp:PbS h pv l){v:Value}{fs:List Int}(sf:bA h 1 v fs.length (ints fs)){ov:Value}{os:List (List Nat)}(so:SsQ h ov os)(hou:os.length<4611686018427387904):
 Pu T 14 [wV w,pv,v,ov] h (.bool true):=by
 have hp:=F.rj.rc.r8.p;refine .of hp F.f14 hr rfl ?_;have hwc:cellsOf (wV w)=wL w:=by show(wL w).toArray.toList=_;simp
 obtain⟨a,c,rfl⟩:=sp.form;obtain⟨a2,c2,rfl⟩:=sf.form;obtain⟨a3,c3,rfl⟩:=so.sl.form;have x0:Ext h (h.push (.cells (cellsOf (wV w)) true 1)):=(Ext.refl h).push _;have g0:(h.push (.cells (cellsOf (wV w)) true 1)).get h.next=some (.cells (wL w) true 1):=by rw[hwc];exact z3 h _
 have n0:(h.push (.cells (cellsOf (wV w)) true 1)).next=h.next+1:=rfl
 refine Y4 ?_;generalize(h.push (.cells (cellsOf (wV w)) true 1))=H at*;have W:=x0.wf hr.wf;have hL:=x0.log.trans hr.log;have wk:=ig hw;have wkl:=eV hw;have hgH:Tab H:=hg.ext x0 h2;have sp0:=sp.ext x0;have sf0:=sf.ext x0;have so0:=so.ext x0;have C0:=LH F.lt (h:={H with log:=[]}) (.of W) hw (so0.log []) hou;have CS:Pu T 21 [] {H with log:=[]} (.bool true):=Rn F.f21 (show Tab H from hgH);cases hlb:uP w os with
 |false=>
  rw[hlb]at C0;refine Y5 ?_;refine FW.pu C0 ?_;refine Y15 ?_;refine FW.pu CS ?_;refine Y4 ?_;exact an hL rfl rfl
 |true=>
 rw[hlb]at C0;by_cases hl10:10<l.length
 ·have m1:ah .gtr (.int .i64 (l.length:Nat)) (.int .i64 10)=some (.bool true):=ic (by omega);refine Y5 ?_;refine FW.pu C0 ?_;refine Y18 ?_;refine FW.pu CS ?_;refine Y4 ?_;exact an hL rfl rfl
 have m1:ah .gtr (.int .i64 (l.length:Nat)) (.int .i64 10)=some (.bool false):=ij (by omega);by_cases hf12:12<fs.length
 ·have m2:ah .gtr (.int .i64 (fs.length:Nat)) (.int .i64 12)=some (.bool true):=ic (by omega);refine Y5 ?_;refine FW.pu C0 ?_;refine Y21 ?_;refine FW.pu CS ?_;refine Y4 ?_;exact an hL rfl rfl
 have m2:ah .gtr (.int .i64 (fs.length:Nat)) (.int .i64 12)=some (.bool false):=ij (by omega);have hl:l.length<1000000:=by omega
 have hfl:fs.length<1000000:=by omega
 have hol:os.length<1000000:=Nat.lt_of_le_of_lt (FU hlb) (by decide);have D1:=RD F.de.ju.cb (h:={H with log:=[]}) (.of W) hw (sp0.log []) hl (sf0.log []) hfl;have D2:=GM F.rj.rc (h:={H with log:=[]}) (.of W) hw (sp0.log []) hl (sf0.log []) hfl;have D3:=Kn F.de.ju.cb (h:={H with log:=[]}) (.of W) hw (sp0.log []) hl (sf0.log []) hfl;have hbs:IsS (um w l fs).1:=by
  unfold um;split
  ·exact qU
  ·split
   ·exact qU
   ·split
    ·exact qU
    ·exact j0 hw.a (oD sp.ok)
 have hb61:=λ{h:Heap} (hr:Rdy h) (s1:PbS h (.slice a l.length c) l) (s2:bA h 1 (.slice a2 fs.length c2) fs.length (ints fs))=>E9 F.rj.rc hr hw s1 hl s2 hfl;generalize ql w l fs=cr at*;obtain⟨cb,ce⟩:=cr;generalize um w l fs=br at*;obtain⟨bs,be⟩:=br;dsimp only at D1 D2 D3 hbs hb61;have kb8:=aG hbs.len;have kb9:=aN hbs.len;have kbn:=hbs.len;refine Y5 ?_;refine FW.pu C0 ?_;clear C0;refine Y26 ?_;refine FW.pu D1 ?_;clear D1;refine Y11 ?_;refine FW.pu D2 ?_;clear D2 CS;refine Y10 ?_;have x1:=dO (h:=H) (base:=h.next) (by omega) (.cells (aD 8 (.int .u64 0)) true 1) (.cells (us bs) true 1);have g13:=fC (h:=H) (base:=h.next) (aD 8 (.int .u64 0)) (us bs);have n1:((H.push (.cells (aD 8 (.int .u64 0)) true 1)).wr h.next H.next (.cells (us bs) true 1)).next=H.next+1:=rfl
 refine yC ?_;refine FW.pu D3 ?_;clear D3;refine Y4 ?_;refine aB (aO (by exact rfl) (by exact rfl) YG (by(simp only[aA];assumption)) (by exact rfl) (by exact bB _)) ?_;refine Y2 ?_;generalize((H.push (.cells (aD 8 (.int .u64 0)) true 1)).wr h.next H.next (.cells (us bs) true 1))=H1 at*;have ey1:=x0.trans x1;have W1:=ey1.wf hr.wf;have hL1:=x1.log.trans hL;have g01:=(x1.old _ (by omega)).trans g0;have D4:=hb61 (h:={H1 with log:=[]}) (.of W1) ((sp.ext ey1).log []) ((sf.ext ey1).log []);clear g0;refine Y4 ?_;have x2:=dO (h:=H1) (base:=h.next) (by omega) (.cells (aD 8 (.int .u64 0)) true 1) (.cells (us bs) true 1);have g15:=fC (h:=H1) (base:=h.next) (aD 8 (.int .u64 0)) (us bs);have n2:((H1.push (.cells (aD 8 (.int .u64 0)) true 1)).wr h.next H1.next (.cells (us bs) true 1)).next=H1.next+1:=rfl
 refine yC ?_;refine FW.pu D4 ?_;clear D4 hb61;refine Y4 ?_;refine aB (aO (by exact rfl) (by exact rfl) YG (by(simp only[aA];assumption)) (by exact rfl) (by exact bB _)) ?_;refine Y2 ?_;generalize((H1.push (.cells (aD 8 (.int .u64 0)) true 1)).wr h.next H1.next (.cells (us bs) true 1))=H2 at*;have ey2:=ey1.trans x2;have W2:=ey2.wf hr.wf;have hL2:=x2.log.trans hL1;have g02:=(x2.old _ (by omega)).trans g01;have g132:=(x2.old _ (by omega)).trans g13;have D5:=EI F.de.ju.cb.ak.cp (h:={H2 with log:=[]}) (.of W2) ((sp.ext ey2).log []) hl;have D6:=tF F.rj.rc.r8 (h:={H2 with log:=[]}) (.of W2) ((sp.ext ey2).log []) hl;have D7:=IU F.de.ju (h:={H2 with log:=[]}) (.of W2) (show Tab H2 from hg.ext ey2 h2) (by show 2<H2.next;omega) hw ((sp.ext ey2).log []) hl ((sf.ext ey2).log []) hfl ((so.ext ey2).log []) hol;have mc:ah .neq (.int .i64 ce) (.int .i64 ce)=some (.bool false):=nR rfl;have mb:ah .neq (.int .i64 be) (.int .i64 be)=some (.bool false):=nR rfl;have mp:ah .neq (.int .i64 (prE l)) (.int .i64 (prE l))=some (.bool false):=nR rfl;clear g01 g13;generalize prE l=pe at*;refine Y4 ?_;refine aB (O9 (by exact rfl) (by exact rfl)) ?_;refine Y14 ?_;refine aB (iI (b:=bs) (by exact rfl) (by exact rfl) hbs.len hbs.len) ?_;rw[decide_eq_true (rfl:bs=bs)];refine Y14 ?_;refine FW.pu D5 ?_;refine Y4 ?_;refine FW.pu D6 ?_;clear D5 D6;refine Y13 ?_;refine FW.al D7 (λv h' m ⟨u,e,q⟩=>⟨u,e,q.log m⟩) ?_;clear D7;rintro _ H3 x3 ⟨u,rfl,q3⟩;have q3:Own H2.next H3 1 u (jS w l fs os).1.length (fL (jS w l fs os).1):=q3
 have ey3:=ey2.trans x3;have W3:=ey3.wf hr.wf;have hL3:=x3.log.trans hL2;have n3:=x3.next
 have g03:=(x3.old _ (by omega)).trans g02;have D8:=xC F.rj (h:={H3 with log:=[]}) (.of W3) hw ((sp.ext ey3).log []) hl ((sf.ext ey3).log []) hfl ((so.ext ey3).log []) hol;have hjl:=wH w l fs os;have hdec:∀{h:Heap},Rdy h->Tab h->2<h.next->PbS h (.slice a l.length c) l->bA h 1 (.slice a2 fs.length c2) fs.length (ints fs)->SsQ h (.slice a3 os.length c3) os->Pu T 64 [wV w, .slice a l.length c, .slice a2 fs.length c2, .slice a3 os.length c3] h (.tuple #[.bool (uk w l fs os).1, .int .i64 (uk w l fs os).2])/\Pu T 65 [wV w, .slice a l.length c, .slice a2 fs.length c2, .slice a3 os.length c3] h (.tuple #[.bool (uk w l fs os).1, .int .i64 (uk w l fs os).2]):=λhr hg h2 s1 s2 s3=>⟨FT F.de hr hg h2 hw s1 hl s2 hfl s3 hol,Dv F.rj hr hw s1 hl s2 hfl s3 hol⟩
 generalize(jS w l fs os).2=je at*;generalize(jS w l fs os).1=js at*;clear g02;refine Y12 ?_;refine FW.al D8 (λv h' m ⟨u,e,q⟩=>⟨u,e,q.log m⟩) ?_;clear D8;rintro _ H4 x4 ⟨u4,rfl,q4⟩;have q4:Own H3.next H4 1 u4 js.length (fL js):=q4
 have ey4:=ey3.trans x4;have W4:=ey4.wf hr.wf;have hL4:=x4.log.trans hL3;have n4:=x4.next
 have g04:=(x4.old _ (by omega)).trans g03;have s3:=(q3.slice (by omega)).ext x4;have s4:=q4.slice (by omega);obtain⟨b3,d3,rfl⟩:=s3.form;obtain⟨b4,d4,rfl⟩:=s4.form;have mj:ah .neq (.int .i64 je) (.int .i64 je)=some (.bool false):=nR rfl;have mn:ah .neq (.int .i64 (js.length:Nat)) (.int .i64 (js.length:Nat))=some (.bool false):=nR rfl;obtain⟨E1,E2⟩:=hdec (h:={H4 with log:=[]}) (.of W4) (show Tab H4 from hg.ext ey4 h2) (by show 2<H4.next;omega) ((sp.ext ey4).log []) ((sf.ext ey4).log []) ((so.ext ey4).log []);have CS:Pu T 21 [] {H4 with log:=[]} (.bool true):=Rn F.f21 (show Tab H4 from hg.ext ey4 h2);clear g03 hdec;refine Y32 ?_
 refine bD (λm e ds h'=>∃i:Nat,i<=js.length/\js.length-i=m/\e=[(1, .slice a l.length c),(2, .slice a2 fs.length c2),(3, .slice a3 os.length c3),(4, .pointer (some ⟨h.next,0,none⟩)),(17, .slice b3 js.length d3),(18, .slice b4 js.length d4),(19, .int .i64 (i:Nat))]/\ds=[]/\H4=h')
  ⟨0,Nat.zero_le _,rfl,rfl,rfl,rfl⟩ ?_
 rintro m e ds _ ⟨i,hi,rfl,rfl,rfl,rfl⟩;by_cases hlt:i<js.length
 ·obtain⟨r,hri⟩:∃r,js[i]? =some r:=⟨js[i],List.getElem?_eq_getElem hlt⟩;obtain⟨p1,o1,t1,vs1,own1,tt1,hv,e1,k1,el1⟩:=tN s3 (EG hri);cases hv;obtain⟨p2,o2,t2,vs2,own2,tt2,hv,e2,k2,el2⟩:=tN s4 (EG hri);cases hv;have mlt:ah .lss (.int .i64 (i:Nat)) (.int .i64 (js.length:Nat))=some (.bool true):=dz (by omega);have mr:ah .neq (.int .u8 (r:Nat)) (.int .u8 (r:Nat))=some (.bool false):=nR rfl;refine Y35 ?_;exact⟨js.length-(i+1),by omega,i+1,by omega,rfl,rfl,rfl,rfl⟩
 ·obtain rfl:i=js.length:=by omega
  have mlt:ah .lss (.int .i64 (js.length:Nat)) (.int .i64 (js.length:Nat))=some (.bool false):=dA (by omega);generalize(uk w l fs os).1=db at*;generalize(uk w l fs os).2=de at*;have md:ah .eql (.int .i64 de) (.int .i64 de)=some (.bool true):=vI rfl;refine Y19 ?_;refine FW.pu E1 ?_;clear E1;refine Y12 ?_;refine FW.pu E2 ?_;clear E2;refine Y8 ?_;refine FW.pu CS ?_;refine Y6 ?_;refine aB (P6 (by exact rfl) (by exact rfl)) ?_;refine Y12 ?_;exact an hL4 rfl rfl
end Go.A.Pk
end
section
namespace Go.A.Pk
open Go Go.Proofs Go.Joins Go.ChangeShapes Go.WideShapes Go.RowKit Go.Deep
section
variable {H:Type} {enc:TypeId×Value->H} {W:World} {base:Nat} {spare:Nat->Bool} {held:Bool}
theorem Nc:Tryz.prog.cellsOf 26=16:=by kernel_rfl
theorem Ds{fuel:Nat}{cs:List Value}{x:DataW H×List MemPlace}(h:DataW.trod enc Tryz.prog W base spare held fuel 26 cs=some x):∃w:List Nat×List Nat,IsW w/\cs=wL w:=by
 obtain⟨xs,n,_,hx,hcl,hlen,hg⟩:=DataW.trod_struct Tryz.underlying26 h;rw[Nc]at hcl
 match cs,hcl with
 |[c0,c1,c2,c3,c4,c5,c6,c7,c8,c9,c10,c11,c12,c13,c14,c15],_=>
  match xs,hlen with
  |[yq0,yq1],_=>
   have g0:DataW.trod enc Tryz.prog W base spare held n 24 [c0,c1,c2,c3,c4,c5,c6,c7]=some yq0:=by have:=hg 0 _ rfl;simpa[rQ]using this
   have g1:DataW.trod enc Tryz.prog W base spare held n 24 [c8,c9,c10,c11,c12,c13,c14,c15]=some yq1:=by have:=hg 1 _ rfl;simpa[rQ]using this
   obtain⟨s0,h0,e0⟩:=lJ g0;obtain⟨s1,h1,e1⟩:=lJ g1;refine⟨(s0,s1),⟨h0,h1⟩,?_⟩;show _=us s0++us s1;rw[←e0,←e1];rfl
theorem E7{v:Value}{d:DataW H}{p:List MemPlace}(hv:Value.okWide Tryz.prog W .any base 26 v)(h:DataW.Trod enc Tryz.prog W 0 spare held 26 v d p):∃w:List Nat×List Nat,IsW w/\v=wV w:=by
 obtain⟨cs,rfl,_⟩:=okWide_struct Tryz.underlying26 hv;obtain⟨fuel,hf⟩:=h;have hf:DataW.trod enc Tryz.prog W 0 spare held fuel 26 cs.toList=some (d,p):=by simpa[Value.cells]using hf
 obtain⟨w,hw,e⟩:=Ds hf;refine⟨w,hw,?_⟩;have hcs:cs=cs.toList.toArray:=by simp
 rw[hcs,e];rfl
end
theorem BG{α:Type}{cL:α->List Value}{k:Nat}:∀{l:List α},(∀a∈l,(cL a).length=k)->(l.flatMap cL).length=l.length*k
 |[],_=>by simp
 |a::l,h=>by
  rw[List.flatMap_cons,List.length_append,h a List.mem_cons_self,BG λx hx=>h x (List.mem_cons_of_mem _ hx),List.length_cons,Nat.add_mul];omega
theorem BD{α:Type}{cL:α->List Value}{k:Nat}:∀{l:List α} {i j:Nat} {a:α},(∀a∈l,(cL a).length=k)->l[i]? =some a->j<k->(l.flatMap cL)[i*k+j]? =(cL a)[j]?
 |[],i,j,a,_,h,_=>by simp at h
 |b::l,0,j,a,hl,h,hj=>by
  simp at h;subst h;rw[List.flatMap_cons,Nat.zero_mul,Nat.zero_add,List.getElem?_append_left (by rw[hl b List.mem_cons_self];exact hj)]
 |b::l,i+1,j,a,hl,h,hj=>by
  have hb:=hl b List.mem_cons_self;rw[List.flatMap_cons,List.getElem?_append_right (by rw[hb,Nat.add_mul];omega),hb,show(i+1)*k+j-k=i*k+j by rw[Nat.add_mul];omega];exact BD (λx hx=>hl x (List.mem_cons_of_mem _ hx)) (by simpa using h) hj
section
variable {H:Type} {enc:TypeId×Value->H} {W:World} {base:Nat} {held:Bool}
theorem qH{α:Type}[Inhabited α]{st et k bsz:Nat}(hu:Tryz.prog.underlying st=some (.slice et))(hk:Tryz.prog.cellsOf et=k)(hk0:0<k)(hbs:Tryz.prog.bytesOf et=bsz)(hb0:0<bsz)(ok:α->Prop)(cL:α->List Value)(hlen:∀a,ok a->(cL a).length=k)(hno:∀a,∀v∈cL a,cA v=true)
 (hel:∀{fuel:Nat} {cs:List Value} {x:DataW H×List MemPlace},DataW.trod enc Tryz.prog W 0 (λ_=>true) held fuel et cs=some x->∃a,ok a/\cs=cL a)
 {v:Value}{d:DataW H}{p:List MemPlace}(hv:Value.okWide Tryz.prog W .any base st v)(h:DataW.Trod enc Tryz.prog W 0 (λ_=>true) held st v d p)(hz:∀n∈d.weights Tryz.prog st,n<=reachBytes):∃l:List α,iG W k v l.length (l.flatMap cL)/\∀a∈l,ok a:=by
 have hcell:Cell.okWide Tryz.prog W .any base st v:=by
  simpa only[Value.okWide,hu]using hv
 obtain⟨a0,len0,cap0,rfl⟩:=okWide_slice hu hv;obtain⟨fuel,hf⟩:=h;have hf:DataW.trod enc Tryz.prog W 0 (λ_=>true) held fuel st [.slice a0 len0 cap0]=some (d,p):=by simpa[Value.cells]using hf
 rcases open_slice hu hf with⟨h2,_⟩|⟨a,len,cap,m,n',D,Pl,h2,_,hl,hcap,hm,hy,hx⟩
 ·cases h2;exact⟨[], .nil,λx hx=>by cases hx⟩
 ·cases h2;simp only[Cell.okWide,Cell.ok,hu,World.has]at hcell;obtain⟨_,_,_,hspot,row,cells,hsh,_⟩:=hcell;obtain⟨b,o,sp⟩:=a;simp only at hspot hsh;subst hspot;rw[if_pos rfl]at hm;subst hm;have hcapU:m*bsz<=reachBytes:=by
   refine hz (m*bsz) ?_;cases hy;simp only[DataW.weights,hu,hbs,List.length_map,List.length_range,show len0+(m-len0)=m by omega];simp
  have hmU:m<UNK:=by
   have:m*1<=m*bsz:=Nat.mul_le_mul_left _ hb0;unfold reachBytes at hcapU;unfold UNK;omega
  obtain⟨c,el,fz,hheap⟩:∃c el fz,W.heap[b]? =some (.cells c el fz):=by
   unfold World.shape? at hsh;split at hsh
   ·rename_i c el fz he;exact⟨c,el,fz,he⟩
   ·cases hsh
  obtain⟨f,hf⟩:=choose_lt (α:=α) (n:=len0) (p:=λi x=>ok x/\∀j,j<k->c[o+(i*k+j)]? =(cL x)[j]?) (λi hi=>by
   obtain⟨cs',hc,ht⟩:=hx i (by omega);obtain⟨x,hx2,hxk⟩:=hel ht;subst hxk;refine⟨x,hx2,λj hj=> ?_⟩;rw[hk]at hc;obtain⟨_,_,hat⟩:=World.cells?_some hc;have:=hat j hj;rw[add_eq,add_eq]at this;rw[←this,Nat.add_assoc];unfold World.cell?;simp only[hheap];rfl)
  by_cases h0:len0=0
  ·subst h0;exact⟨[], .empty hheap hmU,λx hx=>by cases hx⟩
  ·have hll:((List.range len0).map f).length=len0:=by simp
   have hok:∀r∈(List.range len0).map f,ok r:=λx hx=>by
    obtain⟨i,hi,rfl⟩:=List.mem_map.1 hx;exact(hf i (List.mem_range.1 hi)).1
   refine⟨(List.range len0).map f,?_,hok⟩;rw[hll];refine .full hheap h0 (by rw[BG λa ha=>hlen a (hok a ha),hll]) hk0 hl hmU (λj hj=> ?_) (λv hv=> ?_)
   ·have h5:j / k<len0:=by rw[Nat.div_lt_iff_lt_mul hk0];exact hj
    have e1:j=j / k*k+j % k:=(Nat.div_add_mod' j k).symm;have g1:=(hf (j / k) h5).2 (j % k) (Nat.mod_lt _ hk0);have g2:=BD (cL:=cL) (k:=k) (l:=(List.range len0).map f) (i:=j / k) (j:=j % k) (a:=f (j / k)) (λa ha=>hlen a (hok a ha)) (by simp[h5]) (Nat.mod_lt _ hk0);rw[←e1]at g1 g2;rw[g1,g2]
   ·obtain⟨a,_,ha⟩:=List.mem_flatMap.1 hv;exact hno a v ha
theorem DZ:Tryz.prog.cellsOf 67=9:=by kernel_rfl
theorem Bt{fuel:Nat}{cs:List Value}{spare:Nat->Bool}{x:DataW H×List MemPlace}(h:DataW.trod enc Tryz.prog W base spare held fuel 67 cs=some x):∃p:Pb,IsS p.cells/\cs=pbL p:=by
 obtain⟨xs,n,_,hx,hcl,hlen,hg⟩:=DataW.trod_struct Tryz.underlying67 h;rw[DZ]at hcl
 match cs,hcl with
 |[c0,c1,c2,c3,c4,c5,c6,c7,c8],_=>
  match xs,hlen with
  |[y0,y1],_=>
   have g3:DataW.trod enc Tryz.prog W base spare held n 24 [c0,c1,c2,c3,c4,c5,c6,c7]=some y0:=by have:=hg 0 _ rfl;simpa[rQ]using this
   have g4:DataW.trod enc Tryz.prog W base spare held n 3 [c8]=some y1:=by have:=hg 1 _ rfl;simpa[Hg]using this
   obtain⟨pl,hp,h3⟩:=lJ g3;obtain⟨a4,h4,_⟩:=DataW.trod_int Tryz.underlying3 g4;cases h4;refine⟨⟨pl,a4⟩,hp,?_⟩;show _=us pl++[_];rw[←h3];rfl
theorem BX(s:List Nat):∀v∈us s,cA v=true:=λv hv=>by
 obtain⟨n,_,rfl⟩:=List.mem_map.1 hv;rfl
theorem Fk(p:Pb):∀v∈pbL p,cA v=true:=λv hv=>by
 rcases List.mem_append.1 hv with q|q
 ·exact BX _ v q
 ·rw[List.mem_singleton.1 q];rfl
instance:Inhabited Pb:=⟨⟨[],0⟩⟩
def NO(W:World)(v:Value)(l:List Pb):Prop:=iG W 9 v l.length (Av l)/\∀p∈l,IsS p.cells
theorem Bq{v:Value}{d:DataW H}{p:List MemPlace}(hv:Value.okWide Tryz.prog W .any base 35 v)(h:DataW.Trod enc Tryz.prog W 0 (λ_=>true) held 35 v d p)(hz:∀n∈d.weights Tryz.prog 35,n<=reachBytes):∃l,NO W v l:=
 qH (α:=Pb) Tryz.underlying35 DZ (by decide) (show Tryz.prog.bytesOf 67=72 by kernel_rfl) (by decide) (λp=>IsS p.cells) pbL (λp h=>jD h) Fk (λh=>Bt h) hv h hz
def QL(W:World)(v:Value)(l:List (List Nat)):Prop:=iG W 8 v l.length (ssL l)/\∀s∈l,IsS s
theorem BL{v:Value}{d:DataW H}{p:List MemPlace}(hv:Value.okWide Tryz.prog W .any base 29 v)(h:DataW.Trod enc Tryz.prog W 0 (λ_=>true) held 29 v d p)(hz:∀n∈d.weights Tryz.prog 29,n<=reachBytes):∃l,QL W v l:=
 qH (α:=List Nat) Tryz.underlying29 rQ (by decide) (show Tryz.prog.bytesOf 24=64 by kernel_rfl) (by decide) IsS us (λp h=>by rw[aA,h.len]) BX (λh=>lJ h) hv h hz
theorem Gy(l:List Int):l.flatMap (λx=>[Value.int .i64 x])=ints l:=by
 unfold ints;induction l with
 |nil=>rfl
 |cons a l ih=>rw[List.flatMap_cons,ih];rfl
theorem open_ints{v:Value}{d:DataW H}{p:List MemPlace}(hv:Value.okWide Tryz.prog W .any base 57 v)(h:DataW.Trod enc Tryz.prog W 0 (λ_=>true) held 57 v d p)(hz:∀n∈d.weights Tryz.prog 57,n<=reachBytes):∃l:List Int,iG W 1 v l.length (ints l):=by
 obtain⟨l,hl,_⟩:=qH (α:=Int) Tryz.underlying57 Hg (by decide) (show Tryz.prog.bytesOf 3=8 by kernel_rfl) (by decide) (λ_=>True) (λx=>[Value.int .i64 x]) (λ_ _=>rfl) (λa v hv=>by rw[List.mem_singleton.1 hv];rfl) (λh=>by
  obtain⟨z,hz,_⟩:=DataW.trod_int Tryz.underlying3 h;exact⟨z,trivial,hz⟩) hv h hz
 rw[Gy]at hl;exact⟨l,hl⟩
end
theorem O6{W:World}{G:Gl}(hG:vo W G){z1 n1 z2 n2 z3 n3:Nat}{s1 s2 s3:Value}{c1 c2 c3:List Value}(h1:iG W z1 s1 n1 c1)(h2:iG W z2 s2 n2 c2)(h3:iG W z3 s3 n3 c3):
 ∃(h:Heap) (μ:Mu),R Tryz.prog μ h W/\(∀b o,h.get b=some o->o.ro=true∨o.live=false)/\Rdy h/\1000<=h.next/\(∀g vs,(g,vs)∈G->h.get g=some (.cells vs false 1))∧
 (∃a c,VR μ (.slice a n1 c) s1/\bA h z1 (.slice a n1 c) n1 c1/\c<UNK)/\(∃a c,VR μ (.slice a n2 c) s2/\bA h z2 (.slice a n2 c) n2 c2/\c<UNK)/\(∃a c,VR μ (.slice a n3 c) s3/\bA h z3 (.slice a n3 c) n3 c3/\c<UNK):=by
 obtain⟨o1,k1,q1⟩:=h1.lay hG;obtain⟨o2,k2,q2⟩:=h2.lay hG;obtain⟨o3,k3,q3⟩:=h3.lay hG;have hat:∀(A B C:List Ob) (o:Ob),B[0]? =some o->(A++B++C)[A.length]? =some o:=λA B C o ho=>by
  have hl:=(List.getElem?_eq_some_iff.1 ho).1;rw[List.append_assoc,List.getElem?_append_right (Nat.le_refl _),Nat.sub_self,List.getElem?_append_left hl];exact ho
 refine⟨obH G (o1++o2++o3),obM G (o1++o2++o3),R.obs hG λo ho=> ?_,Pc hG,Lq hG _,Nat.le_add_right _ _,λg vs h=>O5 hG _ h,q1 _ 0 λo ho=> ?_,q2 _ o1.length (hat o1 o2 o3),q3 _ (o1++o2).length λo ho=> ?_⟩
 ·rcases List.mem_append.1 ho with ho|ho
  ·rcases List.mem_append.1 ho with ho|ho
   ·exact k1 _ o ho
   ·exact k2 _ o ho
  ·exact k3 _ o ho
 ·have:=hat [] o1 (o2++o3) o ho
  rwa [List.nil_append,←List.append_assoc]at this
 ·have:=hat (o1++o2) o3 [] o ho
  rwa [List.append_nil]at this
end Go.A.Pk
end
section
namespace Go.A.Pk
open Go Go.Proofs
theorem Qx:mY.h0=E6 2 (BW.map λn=> .int .u8 (n:Nat)) 1000:=by kernel_rfl
theorem Te:Entry Tryz.prog 21 (.j9 pSd):= .j9 (KF sound (g:=2) (n:=1000) (vs:=BW.map λn=> .int .u8 (n:Nat)) Tryz.func21 (of_decide_eq_true (by kernel_rfl)) (by kernel_rfl) mP (by decide) (by kernel_rfl) (by kernel_rfl) λargs v h h' hp=>by
 unfold pSd at hp;split at hp
 ·split at hp
  ·rename_i hT;cases hp;refine⟨rfl,hT,λa ha=>(nomatch ha),rfl,?_⟩;rw[←Qx];exact mY.run
  ·cases hp
 ·cases hp)
theorem c14:aH Tryz.prog Tryz.f14 [[1,2,3,4],[1,2,3,4,35],[8],[1,2,3,4,9,10],[1,2,3,4,9,10,11,12],[1,2,3,4,9,10,11,12,13,14],[1,2,3,4,9,10,11,12,13,14,15,16],[1,2,3,4,89],[8],[1,2,3,4,10,17],[1,2,3,4,10,12,17,18],[1,2,3,4,17,18,115],[8],[1,2,3,4,17,18,19],[1,2,3,4,17,18,19,119],[1,2,3,4,17,18,19,130],[8],[1,2,3,4,17,18,19],[1,2,3,4,14,20],[14,16,20,21],[8]]=some f14:=by kernel_rfl
theorem c20:aH Tryz.prog Tryz.f20 [[1,2],[1,10],[4],[1,5],[1,5,17],[1,5,6],[1,5,34],[4],[1,5],[4]]=some f20:=by kernel_rfl
theorem c23:aH Tryz.prog Tryz.f23 [[2,3],[2,3,6],[2,3,6,10],[2,3,6],[2,3,6,15],[2,3,6],[2,3,6,19],[4,5],[4,5]]=some f23:=by kernel_rfl
theorem c31:aH Tryz.prog Tryz.f31 [[1],[8],[2],[2]]=some f31:=by kernel_rfl
theorem c35:aH Tryz.prog Tryz.f35 [[2,3],[4]]=some f35:=by kernel_rfl
theorem c49:aH Tryz.prog Tryz.f49 [[2,3],[2,3,6],[2,3,6,14],[2,3,6],[2,3,6,19],[4,5],[2,3,8],[8,10],[10,35],[4,5],[36],[4,5],[4,5]]=some f49:=by kernel_rfl
theorem c51:aH Tryz.prog Tryz.f51 [[2,3,4],[2,3,4,19],[4,5],[2,3,4,25],[4,5],[2,3,4,6],[2,3,4,6,28],[2,3,4,6,7],[2,3,4,6,7,9],[2,3,4,6,7,9,11],[2,3,4,6,7,9,11,51],[2,3,4,6,7,9,11,12],[2,3,4,6,7,9,11,12,63],[2,3,4,6,7,9,11,12,13],[2,3,4,6,7,9,11,12,13,75],[2,3,4,6,7,9,11,12,13,14],[2,3,4,6,7,9,11,12,13,16],[2,3,4,6,7,9,11,12,13,89],[4,5],[2,3,4,6,7,9,11,12,13],[2,3,4,6,7,9,11,12],[2,3,4,6,7,9,11],[2,3,4,6],[4,5]]=some f51:=by kernel_rfl
theorem c52:aH Tryz.prog Tryz.f52 [[2,3],[4]]=some f52:=by kernel_rfl
theorem c53:aH Tryz.prog Tryz.f53 [[0],[0,6],[2],[0,3],[0,3,10],[0,3,28],[2],[0,3],[2]]=some f53:=by kernel_rfl
theorem c54:aH Tryz.prog Tryz.f54 [[1,2,3],[2,8,9],[2,8,9,19],[6,7],[8,10,11],[8,10,28],[6,7],[11],[6,7]]=some f54:=by kernel_rfl
theorem c55:aH Tryz.prog Tryz.f55 [[1,2,3,6],[2,6,8,9],[2,6,8,9,20],[6,7],[6,8,10,11],[6,8,10,30],[6,7],[6,11,12],[6,12,39],[6,7],[6,7]]=some f55:=by kernel_rfl
theorem c56:aH Tryz.prog Tryz.f56 [[1,2,3,4],[8,9]]=some f56:=by kernel_rfl
theorem c60:aH Tryz.prog Tryz.f60 [[1,2,3],[1,2,3,8],[1,2,3,8,14],[1,2,3,8],[1,2,3,8,18],[1,2,3,8],[1,2,3,8,23],[6,7],[10],[6,7]]=some f60:=by kernel_rfl
theorem c61:aH Tryz.prog Tryz.f61 [[1,2,3,6],[1,2,3,6,9],[1,2,3,6,9,20],[6,7],[6,10,11],[6,10,31],[6,7],[6,7]]=some f61:=by kernel_rfl
theorem c63:aH Tryz.prog Tryz.f63 [[1,2,3,4],[1,2,3,4,10],[1,2,3,4,10,18],[1,2,3,4,10],[1,2,3,4,10,23],[1,2,3,4,10],[1,2,3,4,10,27],[8,9],[1,2,3,4,12],[1,2,3,4,37],[8,9],[8,9]]=some f63:=by kernel_rfl
theorem c64:aH Tryz.prog Tryz.f64 [[1,2,3,4],[10,11],[8,9]]=some f64:=by kernel_rfl
theorem c65:aH Tryz.prog Tryz.f65 [[1,2,3,4],[10,11],[8,9]]=some f65:=by kernel_rfl
theorem c84:aH Tryz.prog Tryz.f84 [[1],[2]]=some f84:=by kernel_rfl
theorem c93:aH Tryz.prog Tryz.f93 [[0],[0,6],[2],[0,3],[0,3,10],[0,3,18],[2],[0,3],[2]]=some f93:=by kernel_rfl
theorem c94:aH Tryz.prog Tryz.f94 [[1],[6],[2],[2]]=some f94:=by kernel_rfl
theorem c95:aH Tryz.prog Tryz.f95 [[2,3],[2,5],[2,5,7],[2,5,7,8],[2,5,7,8,23],[2,5,7,8],[2,5,7,8],[7,9],[7,9,10],[7,9,10,38],[7,9,10,11],[7,9,10,11,12],[7,9,10,11,12,44],[7,9,10,11,12,60],[7,9,10,11,12],[7,9,10,11,12],[7,9,10,61],[7,9,10],[7,9,10],[4]]=some f95:=by kernel_rfl
theorem Uk:aH Tryz.prog Tryz.f100 [[1,2,3],[1,2,7],[1,2,7,11],[1,7],[1,7,15],[7],[6]]=some f100:=by kernel_rfl
theorem Uo:aH Tryz.prog Tryz.f103 [[1,2],[1,2,5],[1,2,5,6],[1,2,5,6,10],[1,2,5,6],[1,2,5,6],[4]]=some f103:=by kernel_rfl
theorem TE:aH Tryz.prog Tryz.f112 [[0,1],[1,10],[4],[1,5],[1,5,14],[1,5,22],[4],[1,5],[4]]=some f112:=by kernel_rfl
theorem TX:aH Tryz.prog Tryz.f113 [[0,1,2],[6]]=some f113:=by kernel_rfl
theorem T7:aH Tryz.prog Tryz.f115 [[1,2,3,6],[1,2,3,6,8],[1,2,3,6,8,9],[1,2,3,6,8,9,15],[1,2,3,6,8,9,22],[1,2,3,6,8,9],[1,2,3,6,8,9],[6,7]]=some f115:=by kernel_rfl
theorem Tw:aH Tryz.prog Tryz.f116 [[1,2,3,4],[1,2,3,4,9],[1,2,3,4,9,11],[1,2,3,4,9,11,12],[1,2,3,4,9,11,12,27],[1,2,3,4,9,11,12,13],[1,2,3,4,9,11,12,13,14],[1,2,3,4,9,11,12,13,14,36],[1,2,3,4,9,11,12,13,14,15],[1,2,3,4,9,11,12,13,14,16],[1,2,3,4,9,11,12,13,14,16,61],[1,2,3,4,9,11,12,13,14],[1,2,3,4,9,11,12,13,14,66],[1,2,3,4,9,11,12,13,14],[1,2,3,4,9,11,12,13,14],[1,2,3,4,9,11,12],[1,2,3,4,9,11,12],[8]]=some f116:=by kernel_rfl
theorem Ui:aH Tryz.prog Tryz.f117 [[0],[0,3],[0,3,7],[0,3,14],[2],[0,3],[2]]=some f117:=by kernel_rfl
theorem T4:aH Tryz.prog Tryz.f118 [[2,3,4],[2,3,4,5],[2,3,4,5,7],[2,3,4,5],[2,3,4,5],[4]]=some f118:=by kernel_rfl
theorem Up:aH Tryz.prog Tryz.f137 [[1,2,4],[1,2,4,14],[4,5],[1,2,4,6],[1,4,6,7],[1,4,6,7,8],[1,4,6,7,8,21],[1,4,6,7,8],[1,4,6,7,8],[4,5]]=some f137:=by kernel_rfl
theorem Tg:aH Tryz.prog Tryz.f138 [[1,2],[2,4],[2,4,11],[2,3],[2,4,5],[2,4,5,6],[2,4,5,6,23],[2,4,5,6],[2,4,5,6],[2,4,5,6],[2,4,5,6],[2,4,5,6],[2,4,5,6],[2,4,5,6],[2,3]]=some f138:=by kernel_rfl
theorem S7:aH Tryz.prog Tryz.f139 [[1,2,3,4,8],[1,2,3,8,10],[1,2,3,8,10,33],[8,9],[1,2,3,8,10,11],[1,2,3,8,10,11,12],[1,2,3,8,10,11,12,38],[1,2,3,8,10,11,12,13],[1,2,3,8,10,11,12,13,51],[8,9],[1,2,3,8,10,11,12],[1,2,3,8,10,11,12],[8,9]]=some f139:=by kernel_rfl
theorem TT:aH Tryz.prog Tryz.f140 [[2,3,4],[2,3,4,5],[2,3,4,5,7],[2,3,4,5],[2,3,4,5],[4]]=some f140:=by kernel_rfl
theorem T8:aH Tryz.prog Tryz.f142 [[0,1,4],[0,1,4,6],[0,1,4,6,9,10,11],[0,1,4,6,9,10,11,12],[0,1,4,6,7,8,9,10,11],[0,1,4,6,7,8,9,10,11,27],[4,5],[0,1,4,6,9,10,11],[0,1,4,6,9,10,11],[4,5]]=some f142:=by kernel_rfl
theorem T1:aH Tryz.prog Tryz.f144 [[1,2,3,4],[2,3,4,10,11],[2,3,4,10,11,26],[8,9],[3,4,10,12,13],[3,4,10,12,34],[8,9],[3,10,12,37],[8,9],[3,10,12,14,15],[3,10,12,14,47],[8,9],[3,10,12,14],[3,10,12,14,16],[10,12,14,16,51,52],[10,12,14,16,51,52,53],[10,12,14,16,17,51,52],[10,12,14,16,51,52],[10,12,14,16,51,52],[8,9]]=some f144:=by kernel_rfl
theorem TJ:aH Tryz.prog Tryz.f157 [[0,1],[4]]=some f157:=by kernel_rfl
theorem SN:aH Tryz.prog Tryz.f170 [[1],[1,3],[1,3,4],[1,3,4,9],[1,3,4,5],[1,3,4,5,13],[1,3,4,5,6],[1,3,4,5,6,17],[1,3,4,5,6,7],[1,3,4,5,6,7,26],[1,3,4,5,6],[1,3,4,5,6],[1,3,4,5],[1,3,4],[2]]=some f170:=by kernel_rfl
theorem T5:aH Tryz.prog Tryz.f171 [[2,3],[4]]=some f171:=by kernel_rfl
theorem SM:aH Tryz.prog Tryz.f198 [[1,2],[2]]=some f198:=by kernel_rfl
theorem TS:aH Tryz.prog Tryz.f199 [[2,3],[2,3,19],[4,5],[2,3,6],[2,6,7],[2,6,7,8],[2,6,7,8,25],[2,6,7,8,9],[2,6,7,8,9,11],[2,6,7,8,9,11,41],[2,6,7,8,9,11,12],[2,6,7,8,9,11,12,49],[2,6,7,8,9,11,12,13],[2,6,7,8,9,11,12,13,57],[2,6,7,8,9,11,12,13,14],[2,6,7,8,9,11,12,13,14,16],[2,6,7,8,9,11,12,13,14,74],[2,6,7,8,9,11,12,13],[2,6,7,8,9,11,12,13],[2,6,7,8,9,11,12],[2,6,7,8,9,11],[2,6,7,8],[4,5]]=some f199:=by kernel_rfl
theorem SQ:aH Tryz.prog Tryz.f200 [[0,3],[0,3,5],[0,3,5,20],[0,3,5],[0,3,5,33],[4],[0,3,5,6],[0,5,6],[4]]=some f200:=by kernel_rfl
theorem Uv:aH Tryz.prog Tryz.f208 [[1,2,4,7],[1,2,7,22],[8],[1,2,7,9],[1,2,7,9,26],[1,2,7,9,10],[1,2,7,9,54],[8],[1,2,7,9],[8]]=some f208:=by kernel_rfl
theorem Tp:aH Tryz.prog Tryz.f221 [[2,3,4],[2,4],[4]]=some f221:=by kernel_rfl
theorem SP:aH Tryz.prog Tryz.f222 [[1,2,4],[1,2,4],[1,2,4,5],[1,2,4,5,13],[1,2,4,5],[1,2,4,5],[4]]=some f222:=by kernel_rfl
theorem Tt:aH Tryz.prog Tryz.f223 [[0],[2]]=some f223:=by kernel_rfl
theorem T3:aH Tryz.prog Tryz.f224 [[1,2,3,4,8],[8]]=some f224:=by kernel_rfl
theorem Tf:aH Tryz.prog Tryz.f225 [[1],[2]]=some f225:=by kernel_rfl
theorem SH:aH Tryz.prog Tryz.f232 [[0,1],[0,1,7,8],[0,1,7,8,9],[0,1,5,7,8],[0,1,5,7,8,16],[4],[0,1,7,8],[4]]=some f232:=by kernel_rfl
theorem TP:aH Tryz.prog Tryz.f258 [[1],[1,3],[1,3,4],[1,3,4,8],[1,3,4,5],[1,3,4],[1,3,4],[2]]=some f258:=by kernel_rfl
theorem TR:aH Tryz.prog Tryz.f259 [[2,3],[2,3,5],[2,3,5,7],[2,3,5,16],[4],[2,3,5,23],[4],[2,3,5],[4]]=some f259:=by kernel_rfl
theorem TM:aH Tryz.prog Tryz.f267 [[1,2,4],[2,4,5],[2,4,5,6],[4],[2,4,5,16],[4],[2,4,5,27],[4],[2,4,5,37],[4],[2,4,47],[4],[4]]=some f267:=by kernel_rfl
theorem Tv:aH Tryz.prog Tryz.f316 [[1,2],[1,2,3,4],[1,2,3,13],[2],[2,5],[2]]=some f316:=by kernel_rfl
noncomputable def DB:Tr:=(.node (.node (.node (.node (.node (.node (.node .nil 14 f14 .nil) 20 f20 (.node .nil 21 (.j9 pSd) .nil)) 22 f22 (.node (.node .nil 23 f23 .nil) 31 f31 .nil)) 34 f34 (.node (.node (.node .nil 35 f35 .nil) 49 f49 (.node .nil 51 f51 .nil)) 52 f52 (.node (.node .nil 53 f53 .nil) 54 f54 .nil))) 55 f55 (.node (.node (.node (.node .nil 56 f56 .nil) 60 f60 (.node .nil 61 f61 .nil)) 62 f62 (.node (.node .nil 63 f63 .nil) 64 f64 .nil)) 65 f65 (.node (.node (.node .nil 72 f72 .nil) 84 f84 .nil) 89 f89 (.node (.node .nil 90 f90 .nil) 91 f91 .nil)))) 92 f92 (.node (.node (.node (.node (.node .nil 93 f93 .nil) 94 f94 (.node .nil 95 f95 .nil)) 100 f100 (.node (.node .nil 103 f103 .nil) 106 f106 .nil)) 112 f112 (.node (.node (.node .nil 113 f113 .nil) 115 f115 (.node .nil 116 f116 .nil)) 117 f117 (.node (.node .nil 118 f118 .nil) 120 f120 .nil))) 121 f121 (.node (.node (.node (.node .nil 123 f123 .nil) 124 f124 (.node .nil 126 f126 .nil)) 127 f127 (.node (.node .nil 137 f137 .nil) 138 f138 .nil)) 139 f139 (.node (.node (.node .nil 140 f140 .nil) 141 f141 .nil) 142 f142 (.node (.node .nil 143 f143 .nil) 144 f144 .nil))))) 155 f155 (.node (.node (.node (.node (.node (.node .nil 156 f156 .nil) 157 f157 (.node .nil 167 f167 .nil)) 170 f170 (.node (.node .nil 171 f171 .nil) 174 f174 .nil)) 188 f188 (.node (.node (.node .nil 189 (.j9 (oH 168 190)) .nil) 192 f192 (.node .nil 193 f193 .nil)) 194 f194 (.node (.node .nil 195 f195 .nil) 196 f196 .nil))) 197 f197 (.node (.node (.node (.node .nil 198 f198 .nil) 199 f199 (.node .nil 200 f200 .nil)) 201 f201 (.node (.node .nil 207 f207 .nil) 208 f208 .nil)) 209 f209 (.node (.node (.node .nil 210 f210 .nil) 211 f211 .nil) 212 f212 (.node (.node .nil 213 f213 .nil) 214 f214 .nil)))) 215 f215 (.node (.node (.node (.node (.node .nil 221 f221 .nil) 222 f222 (.node .nil 223 f223 .nil)) 224 f224 (.node (.node .nil 225 f225 .nil) 226 f226 .nil)) 231 f231 (.node (.node (.node .nil 232 f232 .nil) 254 f254 (.node .nil 257 f257 .nil)) 258 f258 (.node (.node .nil 259 f259 .nil) 261 f261 .nil))) 262 f262 (.node (.node (.node (.node .nil 263 f263 .nil) 264 f264 (.node .nil 265 f265 .nil)) 266 f266 (.node (.node .nil 267 f267 .nil) 316 f316 .nil)) 317 f317 (.node (.node (.node .nil 318 f318 .nil) 319 f319 .nil) 320 f320 (.node (.node .nil 321 f321 .nil) 322 f322 .nil))))))
noncomputable def T14:Nat->Option af:=DB.get
abbrev zq0:=@Tr.all_nil
theorem Ra:DB.all (Entry Tryz.prog):=by
 unfold DB;exact(Tr.aa (Tr.aa (Tr.aa (Tr.aa (Tr.aa (Tr.aa (Tr.aa zq0 (.of Tryz.func14 c14) zq0) (.of Tryz.func20 c20) (Tr.aa zq0 Te zq0)) (.of Tryz.func22 c22) (Tr.aa (Tr.aa zq0 (.of Tryz.func23 c23) zq0) (.of Tryz.func31 c31) zq0)) (.of Tryz.func34 c34) (Tr.aa (Tr.aa (Tr.aa zq0 (.of Tryz.func35 c35) zq0) (.of Tryz.func49 c49) (Tr.aa zq0 (.of Tryz.func51 c51) zq0)) (.of Tryz.func52 c52) (Tr.aa (Tr.aa zq0 (.of Tryz.func53 c53) zq0) (.of Tryz.func54 c54) zq0))) (.of Tryz.func55 c55) (Tr.aa (Tr.aa (Tr.aa (Tr.aa zq0 (.of Tryz.func56 c56) zq0) (.of Tryz.func60 c60) (Tr.aa zq0 (.of Tryz.func61 c61) zq0)) (.of Tryz.func62 c62) (Tr.aa (Tr.aa zq0 (.of Tryz.func63 c63) zq0) (.of Tryz.func64 c64) zq0)) (.of Tryz.func65 c65) (Tr.aa (Tr.aa (Tr.aa zq0 (.of Tryz.func72 c72) zq0) (.of Tryz.func84 c84) zq0) (.of Tryz.func89 c89) (Tr.aa (Tr.aa zq0 (.of Tryz.func90 c90) zq0) (.of Tryz.func91 c91) zq0)))) (.of Tryz.func92 c92) (Tr.aa (Tr.aa (Tr.aa (Tr.aa (Tr.aa zq0 (.of Tryz.func93 c93) zq0) (.of Tryz.func94 c94) (Tr.aa zq0 (.of Tryz.func95 c95) zq0)) (.of Tryz.func100 Uk) (Tr.aa (Tr.aa zq0 (.of Tryz.func103 Uo) zq0) (.of Tryz.func106 SC) zq0)) (.of Tryz.func112 TE) (Tr.aa (Tr.aa (Tr.aa zq0 (.of Tryz.func113 TX) zq0) (.of Tryz.func115 T7) (Tr.aa zq0 (.of Tryz.func116 Tw) zq0)) (.of Tryz.func117 Ui) (Tr.aa (Tr.aa zq0 (.of Tryz.func118 T4) zq0) (.of Tryz.func120 SB) zq0))) (.of Tryz.func121 SF) (Tr.aa (Tr.aa (Tr.aa (Tr.aa zq0 (.of Tryz.func123 RN) zq0) (.of Tryz.func124 RS) (Tr.aa zq0 (.of Tryz.func126 RC) zq0)) (.of Tryz.func127 QM) (Tr.aa (Tr.aa zq0 (.of Tryz.func137 Up) zq0) (.of Tryz.func138 Tg) zq0)) (.of Tryz.func139 S7) (Tr.aa (Tr.aa (Tr.aa zq0 (.of Tryz.func140 TT) zq0) (.of Tryz.func141 Ss) zq0) (.of Tryz.func142 T8) (Tr.aa (Tr.aa zq0 (.of Tryz.func143 Qm) zq0) (.of Tryz.func144 T1) zq0))))) (.of Tryz.func155 RY) (Tr.aa (Tr.aa (Tr.aa (Tr.aa (Tr.aa (Tr.aa zq0 (.of Tryz.func156 Qw) zq0) (.of Tryz.func157 TJ) (Tr.aa zq0 (.of Tryz.func167 Rq) zq0)) (.of Tryz.func170 SN) (Tr.aa (Tr.aa zq0 (.of Tryz.func171 T5) zq0) (.of Tryz.func174 Ro) zq0)) (.of Tryz.func188 Q2) (Tr.aa (Tr.aa (Tr.aa zq0 Qq zq0) (.of Tryz.func192 Sr) (Tr.aa zq0 (.of Tryz.func193 Rw) zq0)) (.of Tryz.func194 Qz) (Tr.aa (Tr.aa zq0 (.of Tryz.func195 RI) zq0) (.of Tryz.func196 Si) zq0))) (.of Tryz.func197 Rs) (Tr.aa (Tr.aa (Tr.aa (Tr.aa zq0 (.of Tryz.func198 SM) zq0) (.of Tryz.func199 TS) (Tr.aa zq0 (.of Tryz.func200 SQ) zq0)) (.of Tryz.func201 Q0) (Tr.aa (Tr.aa zq0 (.of Tryz.func207 RU) zq0) (.of Tryz.func208 Uv) zq0)) (.of Tryz.func209 SD) (Tr.aa (Tr.aa (Tr.aa zq0 (.of Tryz.func210 Rv) zq0) (.of Tryz.func211 R4) zq0) (.of Tryz.func212 RK) (Tr.aa (Tr.aa zq0 (.of Tryz.func213 QD) zq0) (.of Tryz.func214 QY) zq0)))) (.of Tryz.func215 Qt) (Tr.aa (Tr.aa (Tr.aa (Tr.aa (Tr.aa zq0 (.of Tryz.func221 Tp) zq0) (.of Tryz.func222 SP) (Tr.aa zq0 (.of Tryz.func223 Tt) zq0)) (.of Tryz.func224 T3) (Tr.aa (Tr.aa zq0 (.of Tryz.func225 Tf) zq0) (.of Tryz.func226 RF) zq0)) (.of Tryz.func231 QE) (Tr.aa (Tr.aa (Tr.aa zq0 (.of Tryz.func232 SH) zq0) (.of Tryz.func254 RO) (Tr.aa zq0 (.of Tryz.func257 QF) zq0)) (.of Tryz.func258 TP) (Tr.aa (Tr.aa zq0 (.of Tryz.func259 TR) zq0) (.of Tryz.func261 Su) zq0))) (.of Tryz.func262 R9) (Tr.aa (Tr.aa (Tr.aa (Tr.aa zq0 (.of Tryz.func263 Sz) zq0) (.of Tryz.func264 Q8) (Tr.aa zq0 (.of Tryz.func265 SA) zq0)) (.of Tryz.func266 Sh) (Tr.aa (Tr.aa zq0 (.of Tryz.func267 TM) zq0) (.of Tryz.func316 Tv) zq0)) (.of Tryz.func317 Sq) (Tr.aa (Tr.aa (Tr.aa zq0 (.of Tryz.func318 QS) zq0) (.of Tryz.func319 Ri) zq0) (.of Tryz.func320 Qv) (Tr.aa (Tr.aa zq0 (.of Tryz.func321 Sb) zq0) (.of Tryz.func322 Q5) zq0))))))
theorem eW:dX Tryz.prog T14:=pL (by kernel_rfl) Ra
theorem Sd:IK T14:={de:={ju:={cb:={ak:={ne:={nd:={pl:={fi:={ft:={mp:={cp:={p:=eW.aP,f123:=by kernel_rfl,f213:=by kernel_rfl,f214:=by kernel_rfl,f264:=by kernel_rfl,f265:=by kernel_rfl,f266:=by kernel_rfl},tu:={p:=eW.aP,f263:=by kernel_rfl,f317:=by kernel_rfl,f318:=by kernel_rfl,f319:=by kernel_rfl,f320:=by kernel_rfl,f321:=by kernel_rfl,f322:=by kernel_rfl},f126:=by kernel_rfl,f127:=by kernel_rfl,f211:=by kernel_rfl,f215:=by kernel_rfl,f261:=by kernel_rfl,f262:=by kernel_rfl},bd:={cp:={p:=eW.aP,f123:=by kernel_rfl,f213:=by kernel_rfl,f214:=by kernel_rfl,f264:=by kernel_rfl,f265:=by kernel_rfl,f266:=by kernel_rfl},f210:=by kernel_rfl},li:={p:=eW.aP,f212:=by kernel_rfl},co:={p:=eW.aP,f188:=by kernel_rfl,f254:=by kernel_rfl},f35:=by kernel_rfl,f121:=by kernel_rfl,f209:=by kernel_rfl},f34:=by kernel_rfl,f120:=by kernel_rfl},f72:=by kernel_rfl,f167:=by kernel_rfl,f189:=by kernel_rfl,f192:=by kernel_rfl},f35:=by kernel_rfl,f92:=by kernel_rfl,f121:=by kernel_rfl,f124:=by kernel_rfl,f193:=by kernel_rfl,f194:=by kernel_rfl,f195:=by kernel_rfl,f196:=by kernel_rfl,f197:=by kernel_rfl,f257:=by kernel_rfl},f22:=by kernel_rfl,f89:=by kernel_rfl,f90:=by kernel_rfl,f91:=by kernel_rfl},cp:={p:=eW.aP,f62:=by kernel_rfl,f90:=by kernel_rfl,f106:=by kernel_rfl,f155:=by kernel_rfl,f156:=by kernel_rfl,f231:=by kernel_rfl},f141:=by kernel_rfl},qu:={p:=eW.aP,f35:=by kernel_rfl,f121:=by kernel_rfl,f143:=by kernel_rfl,f174:=by kernel_rfl,f207:=by kernel_rfl,f226:=by kernel_rfl},fn:={p:=eW.aP,f106:=by kernel_rfl,f142:=by kernel_rfl},f54:=by kernel_rfl,f55:=by kernel_rfl},lk:={nd:={pl:={fi:={ft:={mp:={cp:={p:=eW.aP,f123:=by kernel_rfl,f213:=by kernel_rfl,f214:=by kernel_rfl,f264:=by kernel_rfl,f265:=by kernel_rfl,f266:=by kernel_rfl},tu:={p:=eW.aP,f263:=by kernel_rfl,f317:=by kernel_rfl,f318:=by kernel_rfl,f319:=by kernel_rfl,f320:=by kernel_rfl,f321:=by kernel_rfl,f322:=by kernel_rfl},f126:=by kernel_rfl,f127:=by kernel_rfl,f211:=by kernel_rfl,f215:=by kernel_rfl,f261:=by kernel_rfl,f262:=by kernel_rfl},bd:={cp:={p:=eW.aP,f123:=by kernel_rfl,f213:=by kernel_rfl,f214:=by kernel_rfl,f264:=by kernel_rfl,f265:=by kernel_rfl,f266:=by kernel_rfl},f210:=by kernel_rfl},li:={p:=eW.aP,f212:=by kernel_rfl},co:={p:=eW.aP,f188:=by kernel_rfl,f254:=by kernel_rfl},f35:=by kernel_rfl,f121:=by kernel_rfl,f209:=by kernel_rfl},f34:=by kernel_rfl,f120:=by kernel_rfl},f72:=by kernel_rfl,f167:=by kernel_rfl,f189:=by kernel_rfl,f192:=by kernel_rfl},f35:=by kernel_rfl,f92:=by kernel_rfl,f121:=by kernel_rfl,f124:=by kernel_rfl,f193:=by kernel_rfl,f194:=by kernel_rfl,f195:=by kernel_rfl,f196:=by kernel_rfl,f197:=by kernel_rfl,f257:=by kernel_rfl},f201:=by kernel_rfl},f56:=by kernel_rfl,f144:=by kernel_rfl},f64:=by kernel_rfl,f157:=by kernel_rfl,f232:=by kernel_rfl},rj:={rc:={r8:={p:=eW.aP,f52:=by kernel_rfl,f53:=by kernel_rfl,f112:=by kernel_rfl,f113:=by kernel_rfl,f115:=by kernel_rfl,f118:=by kernel_rfl,f140:=by kernel_rfl,f208:=by kernel_rfl},n3:={rn:={rp:={im:={rf:={tr:={cr:={hr:={p:=eW.aP,f171:=by kernel_rfl,f225:=by kernel_rfl},f170:=by kernel_rfl},f137:=by kernel_rfl,f139:=by kernel_rfl,f221:=by kernel_rfl,f222:=by kernel_rfl,f223:=by kernel_rfl,f224:=by kernel_rfl,f267:=by kernel_rfl},f51:=by kernel_rfl,f52:=by kernel_rfl,f84:=by kernel_rfl,f138:=by kernel_rfl,f140:=by kernel_rfl,f225:=by kernel_rfl},pt:={p:=eW.aP,f200:=by kernel_rfl,f259:=by kernel_rfl},f258:=by kernel_rfl,f316:=by kernel_rfl},f199:=by kernel_rfl},f95:=by kernel_rfl},rs:={rf:={tr:={cr:={hr:={p:=eW.aP,f171:=by kernel_rfl,f225:=by kernel_rfl},f170:=by kernel_rfl},f137:=by kernel_rfl,f139:=by kernel_rfl,f221:=by kernel_rfl,f222:=by kernel_rfl,f223:=by kernel_rfl,f224:=by kernel_rfl,f267:=by kernel_rfl},f51:=by kernel_rfl,f52:=by kernel_rfl,f84:=by kernel_rfl,f138:=by kernel_rfl,f140:=by kernel_rfl,f225:=by kernel_rfl},f31:=by kernel_rfl,f49:=by kernel_rfl,f93:=by kernel_rfl},f23:=by kernel_rfl,f94:=by kernel_rfl,f198:=by kernel_rfl},f60:=by kernel_rfl,f61:=by kernel_rfl,f100:=by kernel_rfl,f103:=by kernel_rfl},f63:=by kernel_rfl,f65:=by kernel_rfl,f116:=by kernel_rfl,f117:=by kernel_rfl},lt:={cr:={hr:={p:=eW.aP,f171:=by kernel_rfl,f225:=by kernel_rfl},f170:=by kernel_rfl},f20:=by kernel_rfl,f84:=by kernel_rfl},f14:=by kernel_rfl,f21:=by kernel_rfl}
open Go.RowKit in
theorem wo{W:World}(V:xU W){w:List Nat×List Nat}(hw:IsW w){sl1 sl2 sl3:Value}{l:List Pb}(h1:NO W sl1 l){fs:List Int}(h2:iG W 1 sl2 fs.length (ints fs)){os:List (List Nat)}(h3:QL W sl3 os):Calls Tryz.prog 14 #[wV w,sl1,sl2,sl3] W λe W'=>e= .returned (.bool true)/\Below W.heap.size W W':=by
 obtain⟨h,μ,hRR,hro,hrd,hnx,hgl,⟨a1,n1,hu1,hs1,hc1⟩,⟨a2,n2,hu2,hs2,hc2⟩,a3,n3,hu3,hs3,hc3⟩:=O6 V.gl h1.1 h2 h3.1;have hol:os.length<4611686018427387904:=by
  rcases bA.inv hs3 with⟨_,_,h0,_⟩|⟨b,o,cap,hv,_,hc⟩
  ·rw[h0];decide
  ·cases hv;unfold UNK at hc3;omega
 obtain⟨r',h',⟨m,hm⟩,rfl,rfl⟩:=QG Sd hrd (hgl 2 _ List.mem_cons_self) (by omega) hw ⟨hs1,h1.2⟩ hs2 ⟨hs3,h3.2⟩ hol;have hrun:=hm m (Nat.le_refl _);have ha:LR μ [wV w, .slice a1 l.length n1, .slice a2 fs.length n2, .slice a3 os.length n3] [wV w,sl1,sl2,sl3]:= .cons (VR.cA (JS w)).1 (.cons hu1 (.cons hu2 (.cons hu3 .nil)));refine(lV eW hrun hrd.log (by kernel_rfl) hRR ha).mono λe W' hq=> ?_;obtain⟨μ',q1,q2,q3⟩:=hq;cases e with
 |returned v'=>
  have hv:VR μ' (.bool true) v':=q1;cases hv;exact⟨rfl,St.below q3 hro⟩
 |panicked _=>exact q1.elim
 |outgrown=>exact q1.elim
end Go.A.Pk
end
