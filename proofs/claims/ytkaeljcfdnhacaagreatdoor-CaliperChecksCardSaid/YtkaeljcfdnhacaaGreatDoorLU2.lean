/- Walks of functions, plain laws, the table. -/
import Derived.Test.YtkaeljcfdnhacaaGreatDoorLU1
import Derived.Test.YtkaeljcfdnhacaaGreatDoorLU0
import Derived.Test.YtkaeljcfdnhacaaGreatDoorLF
import Derived.Test.YtkaeljcfdnhacaaGreatDoorLD
import Derived.Sort.Row
import Derived.Sort.Grow
import Derived.Test.YtkaeljcfdnhacaaGreatDoorLV
set_option linter.all false
set_option maxHeartbeats 16000000
set_option maxRecDepth 100000
section
namespace Go.A.Pk
variable{a b:List Nat}
theorem Bh(f:IsS a)(hb:IsS b)(c:Ce):eO (rF a b) c=(eO a c&&eO b c):=by
 by_cases hc:inG c=true
 ·obtain⟨z,i,d,e,rfl⟩:=iJ hc;rw[fM d e,fM d e,fM d e];unfold rF sF;rw[yj f hb d];exact K1 ..
 ·rw[gL hc,gL hc,gL hc];rfl
theorem wU(d:IsS a)(hb:IsS b)(h:∀z i,z<8->i<64->eO a (eX z i)=eO b (eX z i)):a=b:=by
 apply xa;intro z;rcases Id z 8 with hz|hz
 ·rw[lu (by rw[d.len];exact hz),lu (by rw[hb.len];exact hz)];congr 1;apply QR;intro i;rcases Id i 64 with hi|hi
  ·have:=h z i hz hi
   rwa [fM hz hi,fM hz hi]at this
  ·have c:∀x:Nat,x<U64->x.testBit i=false:=λx e=>Nat.testBit_lt_two_pow (kz e (show 2 ^ 64<=2 ^ i from Hk (by omega) hi));rw[c _ (d.lB z),c _ (hb.lB z)]
 ·rw[m6 (by rw[d.len];exact hz),m6 (by rw[hb.len];exact hz)]
variable{i:Nat}
theorem Lv{z:Nat}(a:z<8)(hi:i<64):eX z i∈(List.range 512).map ceN:=by
 rw[←BH hi];exact List.mem_map_of_mem (List.mem_range.2 (by omega))
def mlo(f:Ce->Int)(m:Int)(l:List Ce):Int:=l.foldl (λm c=>mi m (f c)) m
def mhi(f:Ce->Int)(m:Int)(l:List Ce):Int:=l.foldl (λm c=>mx m (f c)) m
theorem Uq(a b:Int):mi a b<=a:=by unfold mi;split<;>omega
theorem Ur(a b:Int):mi a b<=b:=by unfold mi;split<;>omega
theorem Ut(a b:Int):a<=mx a b:=by unfold mx;split<;>omega
theorem Uu(a b:Int):b<=mx a b:=by unfold mx;split<;>omega
variable{k:Int}
theorem X0{a b:Int}(h1:k<=a)(c:k<=b):k<=mi a b:=by unfold mi;split<;>omega
theorem X1{a b:Int}(h1:a<=k)(c:b<=k):mx a b<=k:=by unfold mx;split<;>omega
theorem Cf(f:Ce->Int):∀(l:List Ce) (m:Int),mlo f m l<=m/\∀c∈l,mlo f m l<=f c
 |[],m=>⟨Int.le_refl _,λc hc=>by cases hc⟩
 |c::l,m=>by
  obtain⟨h1,h2⟩:=Cf f l (mi m (f c));refine⟨Int.le_trans h1 (Uq _ _),λd a=> ?_⟩;rcases List.mem_cons.1 a with rfl|a
  ·exact Int.le_trans h1 (Ur _ _)
  ·exact h2 d a
theorem Cd(f:Ce->Int){k:Int}:∀(l:List Ce) (m:Int),k<=m->(∀c∈l,k<=f c)->k<=mlo f m l
 |[],_,h,_=>h
 |c::l,m,h,hl=>Cd f l (mi m (f c)) (X0 h (hl c bx)) λd hd=>hl d (bu _ hd)
theorem Cb(f:Ce->Int):∀(l:List Ce) (m:Int),m<=mhi f m l/\∀c∈l,f c<=mhi f m l
 |[],m=>⟨Int.le_refl _,λc hc=>by cases hc⟩
 |c::l,m=>by
  obtain⟨h1,h2⟩:=Cb f l (mx m (f c));refine⟨Int.le_trans (Ut _ _) h1,λd a=> ?_⟩;rcases List.mem_cons.1 a with rfl|a
  ·exact Int.le_trans (Uu _ _) h1
  ·exact h2 d a
theorem Cc(f:Ce->Int){k:Int}:∀(l:List Ce) (m:Int),m<=k->(∀c∈l,f c<=k)->mhi f m l<=k
 |[],_,h,_=>h
 |c::l,m,h,hl=>Cc f l (mx m (f c)) (X1 h (hl c bx)) λd hd=>hl d (bu _ hd)
theorem HE:∀(l:List Ce) (b:Bx),l.foldl p8 b=⟨⟨mlo (·.x) b.lo.x l,mlo (·.y) b.lo.y l,mlo (·.z) b.lo.z l⟩,⟨mhi (·.x) b.hi.x l,mhi (·.y) b.hi.y l,mhi (·.z) b.hi.z l⟩⟩
 |[],b=>rfl
 |c::l,b=>by rw[VH,HE l (p8 b c)];rfl
theorem F4(l:List Ce):bxS l=⟨⟨mlo (·.x) 7 l,mlo (·.y) 7 l,mlo (·.z) 7 l⟩,⟨mhi (·.x) 0 l,mhi (·.y) 0 l,mhi (·.z) 0 l⟩⟩:=HE l bx0
def Sub(a b:List Nat):Prop:=∀c,eO a c=true->eO b c=true
theorem filter_le{α:Type}{p q:α->Bool}(h:∀x,p x=true->q x=true):∀l:List α,(l.filter p).length<=(l.filter q).length
 |[]=>bl _
 |x::l=>by
  have ih:=filter_le h l;rw[In,In];by_cases hp:p x=true
  ·rw[if_pos hp,if_pos (h x hp)];simpa using ih
  ·rw[if_neg hp];split
   ·exact EQ ih
   ·exact ih
theorem Sub.cnt(h:Sub a b):gX a<=gX b:=filter_le h _
theorem mj(d:IsS a)(hb:IsS b):sIn a b=true↔Sub a b:=by
 unfold sIn;rw[decide_eq_true_eq];constructor
 ·intro h c f;have e:eO (rF a b) c=eO a c:=by rw[h]
  rw[Bh d hb,f,wd]at e;exact e
 ·intro h;refine wU (d.meet hb) d λz i j g=> ?_;rw[Bh d hb];cases f:eO a (eX z i)with
  |false=>rfl
  |true=>rw[h _ f];rfl
variable{T:Nat->Option an}
abbrev CeQ(h:Heap)(v:Value)(l:List Ce):Prop:=aK h 3 v l.length (ceS l)
variable{h:Heap}{v:Value}
theorem CeQ.elem{l:List Ce}(s:CeQ h v l){x:Ce}(hi:l[i]? =some x):
 ∃b o c a d t,v= .slice (some ⟨b,o,none⟩) l.length c/\h.get b=some (.cells a d t)/\b<h.next/\bO 3 (bK (o+i*3) a)=ceL x/\bN a (o+i*3+0)=some (zc x.x)/\bN a (o+i*3+1)=some (zc x.y)/\bN a (o+i*3+2)=some (zc x.z):=by
 have q:=(List.getElem?_eq_some_iff.1 hi).1;rcases aK.inv s with⟨_,_,h0,_⟩|⟨b,o,cap,hv,s1,hc⟩
 ·omega
 ·obtain⟨a,d,t,m,n⟩:=s1.obj;have g:∀(l:List Ce) (i:Nat),l[i]? =some x->((ceS l).drop (i*3)).take 3=ceL x:=by
   intro l;induction l with
   |nil=>intro i h;simp at h
   |cons c l ih=>
    intro i h;cases i with
    |zero=>simp at h;subst h;rfl
    |succ i=>
     have e:ceS (c::l)=ceL c++ceS l:=rfl;rw[e,show(i+1)*3=3+i*3 by omega,←List.drop_drop];exact ih i (by simpa using h)
  have e:=g l i hi;rw[←n]at e;have k:bO 3 (bK (o+i*3) a)=ceL x:=by
   rw[←e];simp only[bk,aR,WP,Xs,x8];congr 1;omega
  have f:∀j v,j<3->(ceL x)[j]? =some v->bN a (o+i*3+j)=some v:=by
   intro j v p h;rw[←k,bk,aR,gS p,kK]at h;rw[bW];exact h
  exact⟨b,o,cap,a,d,t,hv,m,s1.lt,k,f 0 _ (by omega) rfl,f 1 _ (by omega) rfl,f 2 _ (by omega) rfl⟩
variable{s:List Nat}
theorem HK(F:Hs T)(g:T 11=some f84)(hr:Rdy h)(d:IsS s):Pu T 11 [sv s] h (zc ((gX s:Nat):Int)):=by
 refine .of F.hr.p g hr rfl ?_;have o:=aL d.len;have r:=aV d.len;have e:Ext h (h.push (qt (cellsOf (sv s)))):=(Ext.refl h).push _;have l:(h.push (qt (cellsOf (sv s)))).get h.next=some (qt (us s)):=z3 h _
 refine Y4 ?_;generalize(h.push (qt (cellsOf (sv s))))=H at*;have W:=e.wf hr.wf;have f:=e.log.trans hr.log;have i:=iW s 512;have C:=ug F (h:={H with log:=[]}) (.of W) d;unfold gX;refine Y3 ?_;refine FW.al C (λv n m q=>q.log m) ?_;rintro v k j q;clear C;have b:=j.log.trans f;obtain⟨a,c,rfl⟩:=(q.slice (by omega)).form;refine Y4 ?_;exact ah b rfl rfl
variable{o:List Nat}{c:Ce}
theorem IQ(p:aM T)(n:T 159=some f221)(hr:Rdy h)(ho:IsS o)(f:inG c=true):Pu T 159 [sv o,ceV c] h (sv (mS o c)):=by
 refine .of p n hr (iK _) ?_;have e:=ho.mS f;obtain⟨z,i,g,d,rfl⟩:=iJ f;have w:=jc (lu (s:=o) (i:=z) (by rw[ho.len];exact g));have J:=QY (a:=o.getD z 0) (b:=2 ^ i) (ho.lB z) (uO d);have D:vx 8 ((eX z i).y) (8*((i / 8:Nat):Int)):=AV (b:=((i / 8:Nat):Int)) (by omega) (by omega);have E:zE (8*((i / 8:Nat):Int)) ((eX z i).x) ((i:Nat):Int):=gI (b:=((i % 8:Nat):Int)) (by rw[aU]<;>omega);have F:=Gh (k:= .u64) d;have G:fZ .u64 ((i:Nat):Int)=((i:Nat):Int):=oJ (by omega);have j:=Dc (o:=o) (z:=z) (v:=Nat.lor (o.getD z 0) (2 ^ i)) (by rw[ho.len];exact g);rw[←wZ o d]at j;have t:(Nat.beq (bM (cellsOf (.int .u64 ((Nat.lor (o.getD z 0) (2 ^ i):Nat):Int)))) 1&&Nat.ble (0+z*1+1) (bM (us o))&&eG (cellsOf (.int .u64 ((Nat.lor (o.getD z 0) (2 ^ i):Nat):Int))))=true:=by
  rw[cA (us o),aB,ho.len,gh (by omega)];rfl
 have I:bN (ceL (eX z i)) (0+2)=some (zc ((z:Nat):Int)):=rfl;have l:(((h.push (qt (cellsOf (sv o)))).push (qt (cellsOf (ceV (eX z i))))).push (qt (aI 8 (.int .u64 0)))).get h.next=some (qt (us o)):=YG
 have A:(((h.push (qt (cellsOf (sv o)))).push (qt (cellsOf (ceV (eX z i))))).push (qt (aI 8 (.int .u64 0)))).get (h.next+1)=some (qt (ceL (eX z i))):=YG;have B:(((h.push (qt (cellsOf (sv o)))).push (qt (cellsOf (ceV (eX z i))))).push (qt (aI 8 (.int .u64 0)))).get (h.next+2)=some (qt (aI 8 (.int .u64 0))):=YG;have u:Ext h (((h.push (qt (cellsOf (sv o)))).push (qt (cellsOf (ceV (eX z i))))).push (qt (aI 8 (.int .u64 0)))):=(((Ext.refl h).push _).push _).push _;have K:(((h.push (qt (cellsOf (sv o)))).push (qt (cellsOf (ceV (eX z i))))).push (qt (aI 8 (.int .u64 0)))).next=h.next+3:=rfl
 refine Y5 ?_;generalize(((h.push (qt (cellsOf (sv o)))).push (qt (cellsOf (ceV (eX z i))))).push (qt (aI 8 (.int .u64 0))))=H at*;have m:=u.log.trans hr.log;have q:=aV e.len;have r:=aL e.len;have C:=e.len;refine Y14 ?_;refine qZ9 (b:=xy (by rfl) (by assumption)) (H:=?_);refine Y3 ?_;refine iO (vs:=us o) (ws:=us (mS o (eX z i))) rfl rfl rfl (by rfl) (by rfl) (by rfl) l t j (by omega) (by(repeat apply aC rfl);exact aQ) ?_;generalize mS o (eX z i)=o' at*;refine Y4 ?_;refine aF (bV (by rfl) YG (by assumption) (by assumption)) ?_;refine aF (bB (by rfl) (by rfl) YG (by(simp only[aB];assumption)) (by rfl) (by exact bX _)) ?_;refine y3 ?_;refine nT ?_;refine ah ?_ (bS (own:=true) (s:=1) rfl ?_ q r rfl) rfl
 ·rw[Heap.au (by show h.next<=h.next+2;omega),Heap.au (bl _)];exact m
 ·exact YG
theorem Vc(l:aM T)(k:T 173=some f267)(hr:Rdy h)(j:InB c):Pu T 173 [ceV c, zc 0] h (ceV (ei 0 c)):=by
 refine .of l k hr rfl ?_;obtain⟨a,b,d⟩:=c;obtain⟨e,f,g⟩:=j;dsimp only at e f g;have mx:=dL e;have m:=dL f;have n:=dL g;have o:zz 0 1 false:=rfl;have p:zz 0 2 false:=rfl;have q:zz 0 3 false:=rfl;have r:zz 0 4 false:=rfl;have t:zz 0 5 false:=rfl;have i:bO 3 (bK 0 (ceL (ei 0 ⟨a,b,d⟩)))=ceL (ei 0 ⟨a,b,d⟩):=rfl;refine Y40 ?_;refine Y2 ?_;refine ah ?_ (bS (own:=true) (s:=1) rfl ?_ i rfl rfl) rfl
 ·rw[Heap.au (by show h.next<=h.next+1;omega)];exact hr.log
 ·exact YG
theorem Vd(l:aM T)(k:T 173=some f267)(hr:Rdy h)(j:InB c):Pu T 173 [ceV c, zc 1] h (ceV (ei 1 c)):=by
 refine .of l k hr rfl ?_;obtain⟨a,b,d⟩:=c;obtain⟨e,f,g⟩:=j;dsimp only at e f g;have mx:=dL e;have m:=dL f;have n:=dL g;have o:zz 1 1 true:=rfl;have i:bO 3 (bK 0 (ceL (ei 1 ⟨a,b,d⟩)))=ceL (ei 1 ⟨a,b,d⟩):=rfl;refine Y28 ?_;refine ah ?_ (bS (own:=true) (s:=1) rfl ?_ i rfl rfl) rfl
 ·rw[Heap.au (by show h.next<=h.next+1;omega)];exact hr.log
 ·exact YG
theorem Ve(l:aM T)(k:T 173=some f267)(hr:Rdy h)(j:InB c):Pu T 173 [ceV c, zc 2] h (ceV (ei 2 c)):=by
 refine .of l k hr rfl ?_;obtain⟨a,b,d⟩:=c;obtain⟨e,f,g⟩:=j;dsimp only at e f g;have mx:=dL e;have m:=dL f;have n:=dL g;have o:zz 2 1 false:=rfl;have p:zz 2 2 true:=rfl;have i:bO 3 (bK 0 (ceL (ei 2 ⟨a,b,d⟩)))=ceL (ei 2 ⟨a,b,d⟩):=rfl;refine Y34 ?_;refine ah ?_ (bS (own:=true) (s:=1) rfl ?_ i rfl rfl) rfl
 ·rw[Heap.au (by show h.next<=h.next+1;omega)];exact hr.log
 ·exact YG
theorem Vf(l:aM T)(k:T 173=some f267)(hr:Rdy h)(j:InB c):Pu T 173 [ceV c, zc 3] h (ceV (ei 3 c)):=by
 refine .of l k hr rfl ?_;obtain⟨a,b,d⟩:=c;obtain⟨e,f,g⟩:=j;dsimp only at e f g;have mx:=dL e;have m:=dL f;have n:=dL g;have o:zz 3 1 false:=rfl;have p:zz 3 2 false:=rfl;have q:zz 3 3 true:=rfl;have i:bO 3 (bK 0 (ceL (ei 3 ⟨a,b,d⟩)))=ceL (ei 3 ⟨a,b,d⟩):=rfl;refine Y38 ?_;refine ah ?_ (bS (own:=true) (s:=1) rfl ?_ i rfl rfl) rfl
 ·rw[Heap.au (by show h.next<=h.next+1;omega)];exact hr.log
 ·exact YG
theorem Vg(l:aM T)(k:T 173=some f267)(hr:Rdy h)(j:InB c):Pu T 173 [ceV c, zc 4] h (ceV (ei 4 c)):=by
 refine .of l k hr rfl ?_;obtain⟨a,b,d⟩:=c;obtain⟨e,f,g⟩:=j;dsimp only at e f g;have mx:=dL e;have m:=dL f;have n:=dL g;have o:zz 4 1 false:=rfl;have p:zz 4 2 false:=rfl;have q:zz 4 3 false:=rfl;have r:zz 4 4 true:=rfl;have i:bO 3 (bK 0 (ceL (ei 4 ⟨a,b,d⟩)))=ceL (ei 4 ⟨a,b,d⟩):=rfl;refine Y40 ?_;refine Y3 ?_;refine ah ?_ (bS (own:=true) (s:=1) rfl ?_ i rfl rfl) rfl
 ·rw[Heap.au (by show h.next<=h.next+1;omega)];exact hr.log
 ·exact YG
theorem Vh(l:aM T)(k:T 173=some f267)(hr:Rdy h)(j:InB c):Pu T 173 [ceV c, zc 5] h (ceV (ei 5 c)):=by
 refine .of l k hr rfl ?_;obtain⟨a,b,d⟩:=c;obtain⟨e,f,g⟩:=j;dsimp only at e f g;have mx:=dL e;have m:=dL f;have n:=dL g;have o:zz 5 1 false:=rfl;have p:zz 5 2 false:=rfl;have q:zz 5 3 false:=rfl;have r:zz 5 4 false:=rfl;have t:zz 5 5 true:=rfl;have i:bO 3 (bK 0 (ceL (ei 5 ⟨a,b,d⟩)))=ceL (ei 5 ⟨a,b,d⟩):=rfl;refine Y40 ?_;refine Y8 ?_;refine ah ?_ (bS (own:=true) (s:=1) rfl ?_ i rfl rfl) rfl
 ·rw[Heap.au (by show h.next<=h.next+1;omega)];exact hr.log
 ·exact YG
theorem Vi(d:aM T)(b:T 173=some f267)(hr:Rdy h)(a:InB c):∀k:Nat,k<6->Pu T 173 [ceV c, zc (k:Nat)] h (ceV (ei k c))
 |0,_=>Vc d b hr a
 |1,_=>Vd d b hr a
 |2,_=>Ve d b hr a
 |3,_=>Vf d b hr a
 |4,_=>Vg d b hr a
 |5,_=>Vh d b hr a
 |k+6,h=>by omega
theorem Km(y:aM T)(J:T 171=some f222)(p:T 173=some f267)(hr:Rdy h)(v:InB c){t:Nat}(V:t<24):Pu T 171 [ceV c, zc (t:Nat)] h (ceV (gi t c)):=by
 refine .of y J hr rfl ?_;have f:Ext h ((h.push (qt (cellsOf (ceV c)))).push (qt [I.O,I.O,I.O])):=((Ext.refl h).push _).push _;have D:((h.push (qt (cellsOf (ceV c)))).push (qt [I.O,I.O,I.O])).get h.next=some (qt (ceL c)):=(z4 (ec _)).trans (z3 h _)
 have E:((h.push (qt (cellsOf (ceV c)))).push (qt [I.O,I.O,I.O])).get (h.next+1)=some (qt [I.O,I.O,I.O]):=z3 _ _;have n0:((h.push (qt (cellsOf (ceV c)))).push (qt [I.O,I.O,I.O])).next=h.next+2:=rfl
 refine Y4 ?_;generalize((h.push (qt (cellsOf (ceV c)))).push (qt [I.O,I.O,I.O]))=H at*;have W:=f.wf hr.wf;have S:=f.log.trans hr.log;have K:t / 4<6:=by omega
 have X:af .quo (zc (t:Nat)) (zc 4)=some (zc ((t / 4:Nat):Int)):=MZ (by omega);have Y:af .rem (zc (t:Nat)) (zc 4)=some (zc ((t % 4:Nat):Int)):=M0;have C:=Vi y p (h:={H with log:=[]}) (.of W) v (t / 4) K;have l:=v.Vb (t / 4);have Q:bO 3 (bK 0 (ceL c))=ceL c:=rfl;have B:Nat.beq (bM (ceL c)) 3=true:=rfl;have M:t % 4<4:=by omega
 unfold gi;generalize hq:ei (t / 4) c=d at*;generalize t / 4=k at*;generalize hrr:t % 4=r at*;refine Y5 ?_;refine FW.pu C ?_;clear C;refine Y7 ?_
 refine bg (λm e u i=>∃j:Nat,j<=r/\r-j=m/\e=[(1, zc (t:Nat)),(2, sb h.next),(4, sb (h.next+1)),(5, zc (j:Nat))]/\u=[]/\Ext h i∧h.next+2<=i.next/\i.get h.next=some (qt (ceL (pL j d)))/\i.get (h.next+1)=some (qt [I.O,I.O,I.O]))
  ⟨0,gK _,rfl,rfl,rfl,⟨f.next,(Heap.au (by omega)).trans f.log,λb l=>(z5 (by omega)).trans (f.old b l),λw=>(f.wf w).as (AS.wr h.next _ _ _)⟩,by show h.next+2<=H.next;omega,by rw[z6,D];rfl,(z5 (by omega)).trans E⟩ ?_
 rintro m e u i ⟨j,U,rfl,rfl,rfl,x,L,F,G⟩;have o:=l.rot j;by_cases hlt:j<r
 ·have a:pL (j+1) d=GV (pL j d):=rfl;generalize pL j d=b at*;obtain⟨N,A,P⟩:=b;obtain⟨_,z,_⟩:=o;dsimp only at z;have Z:=dL z;unfold GV at a;dsimp only at a;have q:zd j r true:=cH (by omega);refine Y22 ?_;refine bH ?_;refine Y8 ?_;refine⟨r-(j+1),by omega,j+1,by omega,rfl,rfl,rfl,⟨x.next,(Heap.au (by omega)).trans x.log,λb l=>(z5 (by omega)).trans (x.old b l),λw=>(x.wf w).as (AS.wr h.next _ _ _)⟩,L,?_,(z5 (by omega)).trans G⟩;rw[z6,F,a];rfl
 ·obtain rfl:j=r:=by omega
  generalize pL j d=b at*;have n:bO 3 (bK 0 (ceL b))=ceL b:=rfl;have g:Nat.beq (bM (ceL b)) 3=true:=rfl;have q:zd j j false:=cS (by omega);refine Y18 ?_;refine ah ?_ (bS (own:=true) (s:=1) rfl ?_ n g rfl) rfl
  ·rw[Heap.au (by show h.next<=h.next+1;omega)];exact x.log.trans hr.log
  ·exact YG
structure Bw (T:Nat->Option an):Prop where
 cr:Hs T
 f137:T 155=some f137
 f139:T 135=some f139
 f221:T 159=some f221
 f222:T 171=some f222
 f223:T 157=some f223
 f224:T 158=some f224
 f267:T 173=some f267
theorem IJ(s:List Nat)(n:Int):cO (.tuple #[sv s, zc n])=true:=by
 have q:flat (sv s)=true:=pP s;show iY [sv s, zc n]=true;simp only[iY,q,cond_true];rfl
variable{α:Type}
theorem eD{l:List α}{j:Nat}{x:α}(h:l[j]? =some x):l.take (j+1)=l.take j++[x]:=by
 rw[Qh,h];rfl
theorem Kl(F:Bw T)(hr:Rdy h)(N:IsS s){t:Nat}(ht:t<24):Pu T 155 [sv s, zc (t:Nat)] h (.tuple #[sv (dM s t), zc 0]):=by
 have M:=F.cr.hr.p;refine .of M F.f137 hr (IJ _ 0) ?_;have k8:=aL N.len;have k9:=aV N.len;have U:Ext h ((h.push (qt (cellsOf (sv s)))).push (qt (aI 8 (.int .u64 0)))):=((Ext.refl h).push _).push _;have g0:((h.push (qt (cellsOf (sv s)))).push (qt (aI 8 (.int .u64 0)))).get h.next=some (qt (us s)):=YG
 have g1:((h.push (qt (cellsOf (sv s)))).push (qt (aI 8 (.int .u64 0)))).get (h.next+1)=some (qt (aI 8 (.int .u64 0))):=YG;have n0:((h.push (qt (cellsOf (sv s)))).push (qt (aI 8 (.int .u64 0)))).next=h.next+2:=rfl
 refine Y5 ?_;generalize((h.push (qt (cellsOf (sv s)))).push (qt (aI 8 (.int .u64 0))))=H at*;have W:=U.wf hr.wf;have hL:=U.log.trans hr.log;have m1:zd t 0 false:=cS (by omega);have m2:zs t 23 false:=fu (by omega);refine Y14 ?_;refine dw (E0:=[(1, zc (t:Nat)),(2, sb h.next),(4, sb (h.next+1)),(6, sb H.next)]) (P:=λf=>Ext H f∧f.next=H.next+1/\f.get H.next=some (qt (us s0))) ?_ ?_
 ·refine Y2 ?_;refine bH ?_;refine y1 ?_;exact⟨rfl,rfl,rfl,(Ext.refl H).push _,rfl,YG⟩
 rintro I ⟨G,n1,q1⟩;have i:=U.trans G;have W1:=i.wf hr.wf;have J:=G.log.trans hL;have ga:=(G.old _ (by omega)).trans g0;have gb:=(G.old _ (by omega)).trans g1;have C:=ug F.cr (h:={I with log:=[]}) (.of W1) N;have n:∀c∈aX s 512,inG c=true:=λc A=>jf A;have ae:=iW s 512;unfold dM iu;generalize aX s 512=l at*;clear g0 g1;refine Y3 ?_;refine FW.al C (λv f m q=>q.log m) ?_;rintro v H2 E q;clear C;have r:=i.trans E;have a7:=E.log.trans J;have n2:=E.next
 have u:=(E.old _ (by omega)).trans gb;have D:=(E.old _ (by omega)).trans q1;obtain⟨a,Z,rfl⟩:=(q.slice (by omega)).form;clear ga gb q1;refine Y7 ?_
 refine bg (λm e ds f=>∃j:Nat,j<=l.length/\l.length-j=m/\e=[(1, zc (t:Nat)),(4, sb (h.next+1)),(6, sb H.next),(7, .slice a l.length Z),(8, zc (j:Nat))]/\ds=[]/\Ext h f∧I.next<=f.next/\f.get (h.next+1)=some (qt (aI 8 (.int .u64 0)))/\f.get H.next=some (qt (us (lT (gi t) (l.take j))))/\Own I.next f 3 (.slice a l.length Z) l.length (ceS l))
  ⟨0,gK _,rfl,rfl,rfl,r,n2,u,D,q⟩ ?_
 rintro m e ds f ⟨j,hj,rfl,rfl,rfl,x,hn,gc,gd,ow⟩;have Y:=x.wf hr.wf;have K:=x.log.trans hr.log;clear u D q;by_cases hlt:j<l.length
 ·obtain⟨c,A⟩:∃c,l[j]? =some c:=⟨l[j]'hlt,a6 _⟩;have B:=n c (bz A);obtain⟨b,o,c2,vs,S,tt,hv,gl,a8,el,_,_,_⟩:=CeQ.elem (ow.slice (by omega)) A;cases hv;have g:IsS (lT (gi t) (l.take j)):=rU λd L=>nC d (n d (wy L));have O:lT (gi t) (l.take (j+1))=mS (lT (gi t) (l.take j)) (gi t c):=by rw[eD A,rV]
  generalize lT (gi t) (l.take j)=out at*;have V:=Km M F.f222 F.f267 (h:={f with log:=[]}) (.of Y) (lC.1 B) ht;have k:=nC (t:=t) c B;generalize gi t c=d at*;have X:=IQ M F.f221 (h:={f with log:=[]}) (.of Y) g k;have y:=g.mS k;have k1:=aV g.len;have k2:=aL g.len;have k3:=aL y.len;have k4:=g.len;have k5:=y.len;have Q:zd j l.length true:=cH (by omega);refine Y17 ?_;refine qZ9 (b:=bV (by rfl) (by assumption) (by assumption) (by rfl)) (H:=?_);refine Y2 ?_;refine FW.puD V (by(repeat apply aC rfl);apply aG rfl (aq rfl (bV (by rfl) (by assumption) (by assumption) (by assumption)) (by exact rK _)) rfl;exact aQ) ?_;clear V;skip;refine qC ?_;refine FW.puD X (by apply aC rfl;exact aQ) ?_;clear X;refine jV rfl rfl rfl (by rfl) (by rfl) (by rfl) (by assumption) (by(simp only[aB];assumption)) (by(simp only[aB];assumption)) (by exact bX _) (by omega) (by omega) (by exact aQ) ?_;refine lW ?_;refine y1 ?_;refine MD ?_;refine uA ?_;refine Y5 ?_;refine⟨l.length-(j+1),by omega,j+1,by omega,rfl,rfl,rfl,⟨x.next,(Heap.au (by omega)).trans x.log,λb hb=>(z5 (by omega)).trans (x.old b hb),λw=>(x.wf w).as (AS.wr h.next _ _ _)⟩,hn,(z5 (by omega)).trans gc,?_,ow.keep (bl _) λz hz _=>z5 (by omega)⟩;rw[O];(simp(disch:=first|omega|(simp only[z1,z2];omega))only[z3,z4,z5,z6,z7,z1,z2,gc,gl,gd];done)
 ·obtain rfl:j=l.length:=by omega
  rw[hP]at gd;have g:IsS (lT (gi t) l):=rU λd L=>nC d (n d L);generalize lT (gi t) l=out at*;have k1:=aV g.len;have k2:=aL g.len;have k3:=g.len;have Q:zd l.length l.length false:=cS (by omega);refine Y7 ?_;refine yX ?_;refine Df ?_;refine Gd ?_;refine Gd ?_;refine MC ?_;refine uA ?_;refine y4 ?_;refine yV ?_;refine aF (bB (by rfl) (by rfl) (by assumption) (by(simp only[aB];assumption)) (by rfl) (by exact bX _)) ?_;refine Y3 ?_;refine ah ?_ (bS (own:=true) (s:=1) rfl ?_ k1 k2 rfl) rfl
  ·rw[Heap.au (by show h.next<=h.next+1;omega)];exact K
  ·exact YG
def shC(x y z:Int)(c:Ce):Ce:=⟨c.x+x,c.y+y,c.z+z⟩
def Sh7(n:Int):Prop:= -7<=n/\n<=7
theorem zW(c:aM T)(b:T 157=some f223)(hr:Rdy h){n:Int}(a:Sh7 n):Pu T 157 [zc n] h (.bool true):=by
 refine .of c b hr rfl ?_;have d:zt n (-7) true:=mO a.1;have e:zp n 7 true:=eE a.2;refine Y15 ?_;exact ah hr.log rfl rfl
variable{x y z:Int}
theorem Nb(l:aM T)(j:T 158=some f224)(hr:Rdy h)(i:InB c)(m:Sh7 x)(p:Sh7 y)(t:Sh7 z):Pu T 158 [ceV c, zc x, zc y, zc z] h (ceV (shC x y z c)):=by
 refine .of l j hr rfl ?_;obtain⟨d,e,f⟩:=c;obtain⟨w,A,B⟩:=i;obtain⟨n,o⟩:=m;obtain⟨q,r⟩:=p;obtain⟨u,v⟩:=t;dsimp only at w A B;have mx:=gI (k:= .i64) (a:=d) (b:=x) (aU (by omega) (by omega));have C:=gI (k:= .i64) (a:=e) (b:=y) (aU (by omega) (by omega));have D:=gI (k:= .i64) (a:=f) (b:=z) (aU (by omega) (by omega));have g:bO 3 (bK 0 (ceL (shC x y z ⟨d,e,f⟩)))=ceL (shC x y z ⟨d,e,f⟩):=rfl;refine Y21 ?_;refine ah ?_ (bS (own:=true) (s:=1) rfl ?_ g rfl rfl) rfl
 ·rw[Heap.au (by show h.next<=h.next+1;omega)];exact hr.log
 ·exact YG
theorem EI(F:Bw T)(hg:T 111=some f225)(hr:Rdy h)(hs:IsS s)(hx:Sh7 x)(hy:Sh7 y)(hz:Sh7 z)(i:∀c∈aX s 512,inG (shC x y z c)=true):Pu T 135 [sv s, zc x, zc y, zc z] h (.tuple #[sv (iu (shC x y z) s), zc 0]):=by
 have u:=F.cr.hr.p;refine .of u F.f139 hr (IJ _ 0) ?_;have k8:=aL hs.len;have k9:=aV hs.len;have x0:Ext h ((h.push (qt (cellsOf (sv s)))).push (qt (aI 8 (.int .u64 0)))):=((Ext.refl h).push _).push _;have g0:((h.push (qt (cellsOf (sv s)))).push (qt (aI 8 (.int .u64 0)))).get h.next=some (qt (us s)):=YG
 have g1:((h.push (qt (cellsOf (sv s)))).push (qt (aI 8 (.int .u64 0)))).get (h.next+1)=some (qt (aI 8 (.int .u64 0))):=YG;have n0:((h.push (qt (cellsOf (sv s)))).push (qt (aI 8 (.int .u64 0)))).next=h.next+2:=rfl
 refine Y5 ?_;generalize((h.push (qt (cellsOf (sv s)))).push (qt (aI 8 (.int .u64 0))))=H at*;have W:=x0.wf hr.wf;have hL:=x0.log.trans hr.log;have C:=ug F.cr (h:={H with log:=[]}) (.of W) hs;have a7:∀c∈aX s 512,inG c=true:=λc J=>jf J;have ba:=iW s 512;unfold iu;generalize aX s 512=l at*;refine Y3 ?_;refine FW.al C (λv g m q=>q.log m) ?_;rintro v f L q;clear C;have t:=x0.trans L;have Q:=t.wf hr.wf;have aw:=L.log.trans hL;have n2:=L.next
 have E:=(L.old _ (by omega)).trans g1;obtain⟨a,S,rfl⟩:=(q.slice (by omega)).form;have A:=zW u F.f223 (h:={f with log:=[]}) (.of Q) hx;have B:=zW u F.f223 (h:={f with log:=[]}) (.of Q) hy;have D:=zW u F.f223 (h:={f with log:=[]}) (.of Q) hz;clear g0 g1;refine Y2 ?_;refine dw (E0:=[(1, zc x),(2, zc y),(3, zc z),(8, sb (h.next+1)),(10, .slice a l.length S),(33, .bool false)]) (P:=λg=>f=g) ?_ ?_
 ·by_cases hl:l.length=0
  ·have m1:zs l.length 0 false:=fu (by omega);refine Y22 ?_;exact⟨rfl,rfl,rfl,rfl⟩
  ·have m1:zs l.length 0 true:=dY (by omega);refine Y9 ?_;refine FW.pu A ?_;refine Y8 ?_;refine FW.pu B ?_;refine Y10 ?_;refine FW.pu D ?_;refine Y8 ?_;exact⟨rfl,rfl,rfl,rfl⟩
 rintro _ rfl;clear A B D;have x3:Ext f (f.push (qt (aI 8 (.int .u64 0)))):=(Ext.refl f).push _;have q3:(f.push (qt (aI 8 (.int .u64 0)))).get f.next=some (qt (us s0)):=z3 _ _
 have n3:(f.push (qt (aI 8 (.int .u64 0)))).next=f.next+1:=rfl
 refine Y3 ?_;generalize(f.push (qt (aI 8 (.int .u64 0))))=H3 at*;refine Y5 ?_
 refine bg (λm e ds g=>∃j:Nat,j<=l.length/\l.length-j=m/\e=[(1, zc x),(2, zc y),(3, zc z),(8, sb (h.next+1)),(10, .slice a l.length S),(11, sb f.next),(12, zc (j:Nat))]/\ds=[]/\Ext f g∧f.next<g.next/\g.get f.next=some (qt (us (lT (shC x y z) (l.take j)))))
  ⟨0,gK _,rfl,rfl,rfl,x3,by omega,q3⟩ ?_
 rintro m e ds g ⟨j,hj,rfl,rfl,rfl,N,hn,U⟩;have ey:=t.trans N;have Wh:=ey.wf hr.wf;have G:=ey.log.trans hr.log;have gc:=(N.old _ (by omega)).trans E;clear q3 x3;by_cases hlt:j<l.length
 ·obtain⟨c,J⟩:∃c,l[j]? =some c:=⟨l[j]'hlt,a6 _⟩;have K:=bz J;have Y:=a7 c K;have k:=i c K;obtain⟨b,o,c2,vs,am,tt,hv,gl,aE,el,_,_,_⟩:=CeQ.elem ((q.slice (by omega)).ext N) J;cases hv;have n:IsS (lT (shC x y z) (l.take j)):=rU λd Z=>i d (wy Z);have a8:lT (shC x y z) (l.take (j+1))=mS (lT (shC x y z) (l.take j)) (shC x y z c):=by rw[eD J,rV]
  generalize lT (shC x y z) (l.take j)=out at*;have A:=Nb u F.f224 (h:={g with log:=[]}) (.of Wh) (lC.1 Y) hx hy hz;generalize shC x y z c=d at*;have k1:=aV n.len;have k2:=aL n.len;have k4:=n.len;have ae:zd j l.length true:=cH (by omega);refine Y12 ?_;refine dw (E0:=[(1, zc x),(2, zc y),(3, zc z),(8, sb (h.next+1)),(10, .slice (some ⟨b,o,none⟩) l.length S),(11, sb f.next),(12, zc (j:Nat)),(13, sb g.next)]) (P:=λX=>Ext g X/\X.next=g.next+1/\X.get g.next=some (qt (ceL d))) ?_ ?_
  ·refine Y4 ?_;refine aF (bV (by rfl) (by assumption) (by assumption) (by rfl)) ?_;refine Y4 ?_;refine FW.pu A ?_;clear A;refine Y2 ?_;refine bH ?_;refine y1 ?_;exact⟨rfl,rfl,rfl,dX (by omega) _ _,rfl,fU _ _⟩
  rintro O ⟨M,n4,g4⟩;clear A;have W4:=M.wf Wh;have L4:=M.log.trans G;have V:=(M.old _ (by omega)).trans U;have B:=AR u hg (h:={O with log:=[]}) (.of W4) d;rw[k]at B;have D:=IQ u F.f221 (h:={O with log:=[]}) (.of W4) n k;have I:=n.mS k;have k3:=aL I.len;have k5:=I.len;have ck:bO 3 (bK 0 (ceL d))=ceL d:=rfl;have ar:Nat.beq (bM (ceL d)) 3=true:=rfl;clear U gl;refine Y4 ?_;refine FW.pu B ?_;clear B;refine Y9 ?_;refine FW.pu D ?_;clear D;refine aF (bB (by rfl) (by rfl) (by assumption) (by(simp only[aB];assumption)) (by(simp only[aB];assumption)) (by exact bX _)) ?_;refine bH ?_;refine y1 ?_;refine MD ?_;refine uA ?_;refine sw ?_;refine yM ?_;refine Y3 ?_;have r:=N.trans M;refine⟨l.length-(j+1),by omega,j+1,by omega,rfl,rfl,rfl,⟨r.next,(Heap.au (by omega)).trans r.log,λb hb=>(z5 (by omega)).trans (r.old b hb),λw=>(r.wf w).as (AS.wr h.next _ _ _)⟩,by show f.next<O.next;omega,?_⟩;rw[a8];(simp(disch:=first|omega|(simp only[z1,z2];omega))only[z3,z4,z5,z6,z7,z1,z2,E,gc,g4,V];done)
 ·obtain rfl:j=l.length:=by omega
  rw[hP]at U;have n:IsS (lT (shC x y z) l):=rU λd Z=>i d Z;generalize lT (shC x y z) l=out at*;have k1:=aV n.len;have k2:=aL n.len;have k3:=n.len;have ae:zd l.length l.length false:=cS (by omega);refine Y7 ?_;refine yX ?_;refine Df ?_;refine Gd ?_;refine Gd ?_;refine MC ?_;refine uA ?_;refine y4 ?_;refine yV ?_;refine aF (bB (by rfl) (by rfl) (by assumption) (by(simp only[aB];assumption)) (by rfl) (by exact bX _)) ?_;refine Y3 ?_;refine ah ?_ (bS (own:=true) (s:=1) rfl ?_ k1 k2 rfl) rfl
  ·rw[Heap.au (by show h.next<=h.next+1;omega)];exact G
  ·exact YG
theorem AI(b:IsS s)(h:aX s 512=[]):s=s0:=by
 refine wU b Bf λz i c a=> ?_;rw[nr];cases hc:eO s (eX z i)with
 |false=>rfl
 |true=>
  have:eX z i∈aX s 512:=List.mem_filter.2 ⟨List.mem_map.2 ⟨z*64+i,List.mem_range.2 (by omega),BH a⟩,hc⟩;rw[h]at this;cases this
theorem Lw:aX s0 512=[]:=by
 rw[aX,List.filter_eq_nil_iff];intro c _;rw[nr];simp
theorem Ls(a:InB c):p8 ⟨c,c⟩ c=p8 bx0 c:=by
 obtain⟨f,g,h⟩:=c;obtain⟨b,d,e⟩:=a;dsimp only at b d e;unfold p8 bx0 mi mx;dsimp only;congr 1<;>congr 1<;>(repeat' split)<;>omega
theorem IZ(a:InB c)(l:List Ce):(c::l).foldl p8 ⟨c,c⟩=bxS (c::l):=by
 unfold bxS;rw[VH,VH,Ls a]
theorem AE(F:Bw T)(hf:T 134=some f138)(hr:Rdy h)(E:IsS s):Pu T 134 [sv s] h (IY (bY s)):=by
 have hp:=F.cr.hr.p;refine .of hp hf hr rfl ?_;have k8:=aL E.len;have k9:=aV E.len;have Y:Ext h ((h.push (qt (cellsOf (sv s)))).push (qt [I.O,I.O,I.O,I.O,I.O,I.O])):=((Ext.refl h).push _).push _;have g0:((h.push (qt (cellsOf (sv s)))).push (qt [I.O,I.O,I.O,I.O,I.O,I.O])).get h.next=some (qt (us s)):=(z4 (ec _)).trans (z3 h _)
 have g1:((h.push (qt (cellsOf (sv s)))).push (qt [I.O,I.O,I.O,I.O,I.O,I.O])).get (h.next+1)=some (qt [I.O,I.O,I.O,I.O,I.O,I.O]):=z3 _ _;have n0:((h.push (qt (cellsOf (sv s)))).push (qt [I.O,I.O,I.O,I.O,I.O,I.O])).next=h.next+2:=rfl
 refine Y5 ?_;generalize((h.push (qt (cellsOf (sv s)))).push (qt [I.O,I.O,I.O,I.O,I.O,I.O]))=H at*;have W:=Y.wf hr.wf;have hL:=Y.log.trans hr.log;have C:=ug F.cr (h:={H with log:=[]}) (.of W) E;have U:∀c∈aX s 512,inG c=true:=λc D=>jf D;have aE:=iW s 512;have n:aX s 512=[]↔s=s0:=⟨AI E,λe=>by rw[e];exact Lw⟩;have S:bY s=if aX s 512=[]then(⟨c0,c0⟩,false)else(bxS (aX s 512),true):=by
  unfold bY;by_cases e:s=s0
  ·rw[if_pos e,if_pos (n.2 e)]
  ·rw[if_neg e,if_neg (λq=>e (n.1 q))]
 rw[S];generalize aX s 512=l at*;refine Y3 ?_;refine FW.al C (λv g m q=>q.log m) ?_;rintro v f G q;clear C;have k:=Y.trans G;have W2:=k.wf hr.wf;have M:=G.log.trans hL;have n2:=G.next
 have L:=(G.old _ (by omega)).trans g1;clear g0 g1;cases l with
 |nil=>
  obtain rfl:v= .slice none 0 0:=by
   cases q with
   |nil=>rfl
   |full a b c d e=>exact absurd rfl e
  rw[if_pos rfl];have J:bO 6 (bK 0 (bxL ⟨c0,c0⟩))=bxL ⟨c0,c0⟩:=rfl;refine Y16 ?_;refine ah ?_ (bS (own:=true) (s:=1) (l:=bxL ⟨c0,c0⟩) rfl ?_ J rfl rfl) rfl
  ·rw[Heap.au (by show h.next<=h.next+1;omega)];exact M
  ·exact YG
 |cons d r=>
  rw[if_neg (by simp)];have hd:=lC.1 (U d bx);rw[←IZ hd r];have qs:=q.slice (by omega);obtain⟨b,o,Z,vs,y,tt,rfl,gl,Q,el,_,_,_⟩:=CeQ.elem (i:=0) (x:=d) qs rfl;clear q;generalize hl:d::r=l at*;have aw:0<l.length:=by rw[←hl];simp
  clear hl;have m0:zz l.length 0 false:=j9 (by omega);have A:=dX (h:=f) (base:=h.next) (by omega) (qt [I.O,I.O,I.O,I.O,I.O,I.O]) (qt (bxL ⟨d,d⟩));have u:=fU (h:=f) (base:=h.next) [I.O,I.O,I.O,I.O,I.O,I.O] (bxL ⟨d,d⟩);have ae:bO 6 (bK 0 (bxL ⟨d,d⟩))=bxL ⟨d,d⟩:=rfl;refine Y11 ?_;refine dw (E0:=[(2, sb (h.next+1)),(4, .slice (some ⟨b,o,none⟩) l.length Z),(5, sb f.next)]) (P:=λg=>Ext f g∧f.next<g.next/\g.get f.next=some (qt (bxL ⟨d,d⟩))) ?_ ?_
  ·refine Y3 ?_;refine qZ9 (b:=bV (by rfl) (by assumption) (by assumption) (by rfl)) (H:=?_);refine Y2 ?_;refine qZ9 (b:=bV (by rfl) (by assumption) (by assumption) (by rfl)) (H:=?_);refine qZ9 (b:=oO (by rfl)) (H:=?_);refine rL rfl rfl rfl (by rfl) (by rfl) (by rfl) sG (by refine cm (aq rfl (oO (by rfl)) (by refine jQ ?_;refine cu (eW _ _) ?_;refine cu (eW _ _) ?_;refine cu (eW _ _) ?_;refine cu (eW _ _) ?_;refine cu (eW _ _) ?_;refine cu (eW _ _) ?_;exact rI)) ?_;refine cm (aq rfl (bV (by rfl) YG (by assumption) (by rfl)) (by refine jQ ?_;refine cu (eW _ _) ?_;refine cu (eW _ _) ?_;refine cu (eW _ _) ?_;exact rI)) ?_;refine cm (aq rfl (jA (by rfl) (by rfl) (by omega)) (by exact di _)) ?_;refine cm (aq rfl (dx (by rfl)) (by exact dG _ _ _)) ?_;refine cm (aq rfl (bV (by rfl) YG (by assumption) (by rfl)) (by refine jQ ?_;refine cu (eW _ _) ?_;refine cu (eW _ _) ?_;refine cu (eW _ _) ?_;exact rI)) ?_;refine cm (aq rfl (jA (by rfl) (by rfl) (by omega)) (by exact di _)) ?_;refine cm (aq rfl (dx (by rfl)) (by exact dG _ _ _)) ?_;exact rD) ?_;refine jG rfl rfl rfl (by rfl) (by rfl) (by rfl) YG (by rfl) (by rfl) (by(simp only[z1,z2];omega)) (by omega) (by(repeat apply aC rfl);exact aQ) ?_;refine Y2 ?_;exact⟨rfl,rfl,rfl,A,ec _,u⟩
  clear A u;rintro H5 ⟨A,n5,u⟩;clear gl el;refine Y5 ?_
  refine bg (λm e ds g=>∃j:Nat,j<=l.length/\l.length-j=m/\e=[(2, sb (h.next+1)),(4, .slice (some ⟨b,o,none⟩) l.length Z),(5, sb f.next),(6, zc (j:Nat))]/\ds=[]/\Ext f g∧f.next<g.next/\g.get f.next=some (qt (bxL ((l.take j).foldl p8 ⟨d,d⟩))))
   ⟨0,gK _,rfl,rfl,rfl,A,n5,u⟩ ?_
  rintro m e ds g ⟨j,hj,rfl,rfl,rfl,t,hn,B⟩;have ey:=k.trans t;have Wh:=ey.wf hr.wf;have N:=ey.log.trans hr.log;have gc:=(t.old _ (by omega)).trans L;clear u A n5;by_cases hlt:j<l.length
  ·obtain⟨c,D⟩:∃c,l[j]? =some c:=⟨l[j]'hlt,a6 _⟩;obtain⟨b',o',c2,be,a8,ba,hv,gl,_,el,e1,e2,e3⟩:=CeQ.elem (qs.ext t) D;cases hv;have V:(l.take (j+1)).foldl p8 ⟨d,d⟩=p8 ((l.take j).foldl p8 ⟨d,d⟩) c:=by rw[eD D,D4];rfl
   generalize(l.take j).foldl p8 ⟨d,d⟩=bb at*;have X:zd j l.length true:=cH (by omega);have ar:b<f.next:=Q
   obtain⟨⟨x1,am,bo⟩,⟨bj,a7,cd⟩⟩:=bb;obtain⟨cx,cy,cz⟩:=c;dsimp only at e1 e2 e3;unfold bxL ceL at B;dsimp only[GT,HO]at B;clear gc;refine Y25 ?_;refine jG rfl rfl rfl (by rfl) (by rfl) (by rfl) (by assumption) (by rfl) (by rfl) (by omega) (by omega) (by(repeat apply aC rfl);exact aQ) ?_;refine lW ?_;refine Y11 ?_;refine qZ9 (b:=dV (by rfl) YG (by assumption)) (H:=?_);refine Y3 ?_;refine jG rfl rfl rfl (by rfl) (by rfl) (by rfl) YG (by rfl) (by rfl) (by(simp only[z1,z2];omega)) (by omega) (by(repeat apply aC rfl);exact aQ) ?_;refine Y12 ?_;refine qZ9 (b:=dV (by rfl) YG (by assumption)) (H:=?_);refine Y3 ?_;refine jG rfl rfl rfl (by rfl) (by rfl) (by rfl) YG (by rfl) (by rfl) (by(simp only[z1,z2];omega)) (by omega) (by(repeat apply aC rfl);exact aQ) ?_;refine Y12 ?_;refine qZ9 (b:=dV (by rfl) YG (by assumption)) (H:=?_);refine Y3 ?_;refine jG rfl rfl rfl (by rfl) (by rfl) (by rfl) YG (by rfl) (by rfl) (by(simp only[z1,z2];omega)) (by omega) (by(repeat apply aC rfl);exact aQ) ?_;refine Y12 ?_;refine qZ9 (b:=dV (by rfl) YG (by assumption)) (H:=?_);refine Y3 ?_;refine jG rfl rfl rfl (by rfl) (by rfl) (by rfl) YG (by rfl) (by rfl) (by(simp only[z1,z2];omega)) (by omega) (by(repeat apply aC rfl);exact aQ) ?_;refine Y11 ?_;refine qZ9 (b:=dV (by rfl) YG (by assumption)) (H:=?_);refine Y3 ?_;refine jG rfl rfl rfl (by rfl) (by rfl) (by rfl) YG (by rfl) (by rfl) (by(simp only[z1,z2];omega)) (by omega) (by(repeat apply aC rfl);exact aQ) ?_;refine Y9 ?_;refine⟨l.length-(j+1),by omega,j+1,by omega,rfl,rfl,rfl,⟨t.next,?_,λz hz=> ?_,λw=> ?_⟩,hn,?_⟩
   ·rw[Heap.au (by omega),Heap.au (by omega),Heap.au (by omega),Heap.au (by omega),Heap.au (by omega),Heap.au (by omega)];exact t.log
   ·simp only[z5 (show z≠f.next by omega)];exact t.old z hz
   ·exact((((((t.wf w).as (AS.wr h.next _ _ _)).as (AS.wr h.next _ _ _)).as (AS.wr h.next _ _ _)).as (AS.wr h.next _ _ _)).as (AS.wr h.next _ _ _)).as (AS.wr h.next _ _ _)
   ·rw[V];exact(Heap.aP (Heap.aP (Heap.aP (Heap.aP (Heap.aP (Heap.aP (B))))))).trans rfl
  ·obtain rfl:j=l.length:=by omega
   rw[hP]at B;generalize l.foldl p8 ⟨d,d⟩=bb at*;have ck:bO 6 (bK 0 (bxL bb))=bxL bb:=rfl;have K:Nat.beq (bM (bxL bb)) 6=true:=rfl;have X:zd l.length l.length false:=cS (by omega);refine Y19 ?_;refine ah ?_ (bS (own:=true) (s:=1) (l:=bxL bb) rfl ?_ ck K rfl) rfl
   ·rw[Heap.au (by show h.next<=h.next+1;omega)];exact N
   ·exact YG
theorem DN{z z' a:Nat}(h:eX z i=eX z' a):z=z'∧i=a:=by
 unfold eX at h;injection h with h1 h2 h3
 omega
theorem RI(ho:IsS o){d:Ce}(b:inG d=true)(c:Ce):eO (mS o d) c=(eO o c||decide (c=d)):=by
 by_cases hc:inG c=true
 ·obtain⟨z,i,g,f,rfl⟩:=iJ hc;obtain⟨m,j,k,h,rfl⟩:=iJ b;rw[fM g f,fM g f,wZ o h];by_cases e:m=z
  ·subst e;have a:(o.set m (Nat.lor (o.getD m 0) (2 ^ j))).getD m 0=Nat.lor (o.getD m 0) (2 ^ j):=by
    rw[gk,V2 (by rw[ho.len];exact k)];rfl
   rw[a];show Nat.testBit (o.getD m 0|||2 ^ j) i=_;rw[Nat.testBit_or,Nat.testBit_two_pow];congr 1;by_cases e2:j=i
   ·subst e2;simp
   ·rw[decide_eq_false e2,decide_eq_false (λq=>e2 (DN q).2.symm)]
  ·have a:(o.set m (Nat.lor (o.getD m 0) (2 ^ j))).getD z 0=o.getD z 0:=by
    rw[gk,QQ e,←List.getD_eq_getElem?_getD]
   rw[a,decide_eq_false (λq=>e (DN q).1.symm),Bool.or_false]
 ·rw[gL hc,gL hc,decide_eq_false (λ(q:c=d)=>hc (by rw[q];exact b))];rfl
variable{f:Ce->Ce}
theorem M3(c:Ce):∀{l:List Ce},(∀x∈l,inG (f x)=true)->(eO (lT f l) c=true↔ ∃x∈l,f x=c):=by
 intro l;have:∀(l:List Ce) (o:List Nat),IsS o->(∀x∈l,inG (f x)=true)->(eO (l.foldl (λo c=>mS o (f c)) o) c=true↔eO o c=true∨∃x∈l,f x=c):=by
  intro l;induction l with
  |nil=>intro o _ _;simp
  |cons d l ih=>
   intro o g b;rw[VH,ih _ (g.mS (b d bx)) λx a=>b x (bu _ a),RI g (b d bx),q9,decide_eq_true_eq];constructor
   ·rintro((h|h)|⟨x,a,h⟩)
    ·exact .inl h
    ·exact .inr ⟨d,bx,h.symm⟩
    ·exact .inr ⟨x,bu _ a,h⟩
   ·rintro(h|⟨x,a,h⟩)
    ·exact .inl (.inl h)
    ·rcases List.mem_cons.1 a with rfl|a
     ·exact .inl (.inr h.symm)
     ·exact .inr ⟨x,a,h⟩
 intro b;have e:=this l s0 Bf b;rw[nr]at e;simpa[lT]using e
theorem dO:c∈aX s 512↔eO s c=true:=by
 constructor
 ·intro h;exact(List.mem_filter.1 h).2
 ·intro h;have a:inG c=true:=by
   cases hq:inG c with
   |true=>rfl
   |false=>rw[gL (by rw[hq];simp)]at h;cases h
  obtain⟨z,i,d,b,rfl⟩:=iJ a;exact List.mem_filter.2 ⟨Lv d b,h⟩
theorem jE(h:∀x∈aX s 512,inG (f x)=true)(c:Ce):eO (iu f s) c=true↔ ∃x,eO s x=true/\f x=c:=by
 unfold iu;rw[M3 c h];constructor
 ·rintro⟨x,a,e⟩;exact⟨x,dO.1 a,e⟩
 ·rintro⟨x,a,e⟩;exact⟨x,dO.2 a,e⟩
theorem R8{p:Nat}(hi:i<64):Nat.testBit (shP p k) i=(decide (0<=(i:Int)-k)&&Nat.testBit p ((i:Int)-k).toNat):=by
 unfold shP;split
 ·rename_i h;show Nat.testBit ((p<<<k.toNat) % 2 ^ 64) i=_;rw[Nat.testBit_mod_two_pow,decide_eq_true hi,wd,Nat.testBit_shiftLeft];by_cases hk:k.toNat<=i
  ·rw[decide_eq_true (show i≥k.toNat from hk),decide_eq_true (show 0<=(i:Int)-k by omega),show((i:Int)-k).toNat=i-k.toNat by omega]
  ·rw[decide_eq_false (show¬i≥k.toNat from hk),decide_eq_false (show¬0<=(i:Int)-k by omega)];rfl
 ·rename_i h;show Nat.testBit (p>>>(-k).toNat) i=_;rw[Nat.testBit_shiftRight,decide_eq_true (show 0<=(i:Int)-k by omega),show((i:Int)-k).toNat=(-k).toNat+i by omega];rfl
theorem yQ{s:List Nat}(b:IsS s){a:Nat}{z k:Int}:∀{n:Nat},0<=(a:Int)+z->(a:Int)+z+(n:Nat)<=8->∀m:Nat,m<8→
 (lP s a z k n).getD m 0=if(a:Int)+z<=(m:Int)/\(m:Int)<(a:Int)+z+(n:Nat)then shP (s.getD ((m:Int)-z).toNat 0) k else 0
 |0,_,_,m,hm=>by
  rw[if_neg (by omega)];have:∀z:Fin 8,s0.getD z.val 0=0:=by decide
  exact this ⟨m,hm⟩
 |n+1,h1,h2,m,hm=>by
  have c:=yQ (k:=k) b (n:=n) h1 (by omega) m hm;unfold lP;by_cases e:(((a+n:Nat):Int)+z).toNat=m
  ·rw[gk,e,V2 (by rw[(oq b a z k n).len];exact hm),if_pos (by omega)];show shP (s.getD (a+n) 0) k=_;rw[show((m:Int)-z).toNat=a+n by omega]
  ·rw[gk,QQ e,←List.getD_eq_getElem?_getD,c];by_cases q:(a:Int)+z<=(m:Int)/\(m:Int)<(a:Int)+z+(n:Nat)
   ·rw[if_pos q,if_pos (by omega)]
   ·rw[if_neg q,if_neg (by omega)]
theorem P7{x:Nat}(a:x<U64)(h:x.testBit i=true):i<64:=by
 rcases Id i 64 with hi|hi
 ·exact hi
 ·rw[Nat.testBit_lt_two_pow (kz a (show 2 ^ 64<=2 ^ i from Hk (by omega) hi))]at h;cases h
theorem mZ{s:List Nat}{c:Ce}(h:eO s c=true):((bY s).1.lo.x<=c.x/\c.x<=(bY s).1.hi.x)/\((bY s).1.lo.y<=c.y/\c.y<=(bY s).1.hi.y)/\((bY s).1.lo.z<=c.z/\c.z<=(bY s).1.hi.z):=by
 have a:=dO.2 h;have b:¬s=s0:=λq=>by rw[q,nr]at h;cases h
 have e:(bY s).1=bxS (aX s 512):=by unfold bY;rw[if_neg b]
 rw[e,F4];exact⟨⟨(Cf (·.x) _ 7).2 c a,(Cb (·.x) _ 0).2 c a⟩,⟨(Cf (·.y) _ 7).2 c a,(Cb (·.y) _ 0).2 c a⟩,⟨(Cf (·.z) _ 7).2 c a,(Cb (·.z) _ 0).2 c a⟩⟩
theorem TT(b:¬s=s0)(d:x<=7)(f:y<=7)(g:z<=7)(h:∀c,eO s c=true->x<=c.x/\y<=c.y/\z<=c.z):x<=(bY s).1.lo.x/\y<=(bY s).1.lo.y/\z<=(bY s).1.lo.z:=by
 have e:(bY s).1=bxS (aX s 512):=by unfold bY;rw[if_neg b]
 rw[e,F4];exact⟨Cd (·.x) _ 7 d λc a=>(h c (dO.1 a)).1,Cd (·.y) _ 7 f λc a=>(h c (dO.1 a)).2.1,Cd (·.z) _ 7 g λc a=>(h c (dO.1 a)).2.2⟩
theorem F3(b:¬s=s0)(d:0<=x)(f:0<=y)(g:0<=z)(h:∀c,eO s c=true->c.x<=x/\c.y<=y/\c.z<=z):(bY s).1.hi.x<=x/\(bY s).1.hi.y<=y/\(bY s).1.hi.z<=z:=by
 have e:(bY s).1=bxS (aX s 512):=by unfold bY;rw[if_neg b]
 rw[e,F4];exact⟨Cc (·.x) _ 0 d λc a=>(h c (dO.1 a)).1,Cc (·.y) _ 0 f λc a=>(h c (dO.1 a)).2.1,Cc (·.z) _ 0 g λc a=>(h c (dO.1 a)).2.2⟩
theorem Mk(h:eO s c=true):inG c=true:=by
 cases hq:inG c with
 |true=>rfl
 |false=>rw[gL (by rw[hq];simp)]at h;cases h
theorem oI(b:IsS s)(a:¬s=s0):∃c,eO s c=true:=by
 cases hl:aX s 512 with
 |nil=>exact absurd (AI b hl) a
 |cons c l=>exact⟨c,dO.1 (by rw[hl];exact bx)⟩
structure Rng (b:Bx) (x y z:Int):Prop where
 x:0<=b.lo.x+x/\b.hi.x+x<=7
 y:0<=b.lo.y+y/\b.hi.y+y<=7
 z:0<=b.lo.z+z/\b.hi.z+z<=7
theorem Rng.all(r:Rng (bY s).1 x y z)(h:eO s c=true):inG (shC x y z c)=true:=by
 obtain⟨a,b,d⟩:=mZ h;obtain⟨e,f,g⟩:=r;refine lC.2 ⟨?_,?_,?_⟩<;>(unfold shC;dsimp only;omega)
theorem MQ(p:IsS s)(r:Rng (bY s).1 x y z){m:Nat}(l:m<8)(hi:i<64):
 eO (lY s (bY s).1 x y z) (eX m i)=true↔ ∃c,eO s c=true/\shC x y z c=eX m i:=by
 have j:∀c,eO s c=true->inG (shC x y z c)=true:=λc a=>r.all a;have k:=λc a=> @mZ s c a;obtain⟨⟨C,D,E⟩,⟨w,A,B⟩⟩:=iA s;obtain⟨_,_,L⟩:=r;unfold lY;generalize(bY s).1=b at*;rw[fM l hi];by_cases hlh:b.lo.z<=b.hi.z
 ·rw[yQ p (by omega) (by omega) m l];have d:((b.lo.z.toNat:Int)+z<=(m:Int)/\(m:Int)<(b.lo.z.toNat:Int)+z+((b.hi.z-b.lo.z+1).toNat:Nat))↔(b.lo.z+z<=m/\(m:Int)<=b.hi.z+z):=by omega
  by_cases hq:b.lo.z+z<=m/\(m:Int)<=b.hi.z+z
  ·rw[if_pos (d.2 hq),R8 hi,dk,decide_eq_true_eq];constructor
   ·rintro⟨J,o⟩;have f:=P7 (p.lB _) o;have g:((m:Int)-z).toNat<8:=by omega
    have a:eO s (eX ((m:Int)-z).toNat ((i:Int)-(8*y+x)).toNat)=true:=by rw[fM g f];exact o
    refine⟨_,a,?_⟩;obtain⟨t,u,v⟩:=lC.1 (j _ a);unfold shC eX at t u v⊢;dsimp only at t u v⊢;congr 1<;>omega
   ·rintro⟨c,a,e⟩;obtain⟨I,H,g,f,rfl⟩:=iJ (Mk a);rw[fM g f]at a;unfold shC eX at e;injection e with e1 e2 e3
    dsimp only at e1 e2 e3;have F:((m:Int)-z).toNat=I:=by omega
    have G:((i:Int)-(8*y+x)).toNat=H:=by omega
    rw[F,G];exact⟨by omega,a⟩
  ·rw[if_neg (λq=>hq (d.1 q)),Nat.zero_testBit];constructor
   ·intro h;cases h
   ·rintro⟨c,a,e⟩;obtain⟨_,_,K⟩:=k c a;unfold shC eX at e;injection e with e1 e2 e3
    exact absurd ⟨by omega,by omega⟩ hq
 ·have n:∀c,¬eO s c=true:=λc a=>by have:=(k c a).2.2;omega
  rw[show(b.hi.z-b.lo.z+1).toNat=0 by omega];constructor
  ·intro h;unfold lP at h;have:∀z:Fin 8,s0.getD z.val 0=0:=by decide
   rw[this ⟨m,l⟩,Nat.zero_testBit]at h;cases h
  ·rintro⟨c,a,_⟩;exact absurd a (n c)
theorem mP(r:Rng (bY s).1 x y z):IsS (iu (shC x y z) s):=rU λc a=>r.all (dO.1 a)
theorem Ic(d:IsS s)(r:Rng (bY s).1 x y z):lY s (bY s).1 x y z=iu (shC x y z) s:=by
 refine wU (oq d _ _ _ _) (mP r) λm i h g=> ?_;have a:=MQ d r h g;have b:=jE (f:=shC x y z) (s:=s) (λc e=>r.all (dO.1 e)) (eX m i);cases h1:eO (lY s (bY s).1 x y z) (eX m i)with
 |true=>rw[b.2 (a.1 h1)]
 |false=>
  cases h2:eO (iu (shC x y z) s) (eX m i)with
  |false=>rfl
  |true=>rw[a.2 (b.1 h2)]at h1;cases h1
theorem Dn{lo hi:Int}:z∈zr lo hi↔lo<=z/\z<=hi:=by
 constructor
 ·intro h;obtain⟨n,b,rfl⟩:=List.mem_map.1 h;have:=List.mem_range.1 b;omega
 ·rintro⟨c,a⟩;exact Dp (n:=(z-lo).toNat) (by omega) a
structure Ti (T:Nat->Option an):Prop where
 tr:Bw T
 f52:T 78=some f52
 f84:T 11=some f84
 f138:T 134=some f138
 f140:T 105=some f140
 f225:T 111=some f225
theorem Gg{a:Int}(h:0<=a/\a<=7):uW .neg (zc a)=some (zc (-a)):=by
 simp only[uW,Int.zero_sub];rw[aU (by omega) (by omega)]
theorem K6{l:List α}{x:α}{p:α->Bool}(h:l.any p=false)(a:p x=false):(l++[x]).any p=false:=by
 rw[HG,h];simp[a]
def ssL(l:List (List Nat)):List Value:=l.flatMap us
structure SsQ (h:Heap) (v:Value) (l:List (List Nat)):Prop where
 sl:aK h 8 v l.length (ssL l)
 ok:∀s∈l,IsS s
theorem SsQ.ext{h h':Heap}{v:Value}{l:List (List Nat)}(s:SsQ h v l)(x:Ext h h'):SsQ h' v l:=⟨s.sl.ext x,s.ok⟩
theorem SsQ.log{h:Heap}{v:Value}{l:List (List Nat)}(s:SsQ h v l)(m:List Nat):SsQ {h with log:=m} v l:=⟨s.sl.log m,s.ok⟩
theorem IE:∀{l:List (List Nat)} {i:Nat} {x:List Nat},(∀s∈l,IsS s)->l[i]? =some x->((ssL l).drop (i*8)).take 8=us x
 |[],i,x,_,h=>by simp at h
 |c::l,0,x,hl,h=>by
  simp at h;subst h;have e:ssL (c::l)=us c++ssL l:=rfl;have a:(us c).length=8:=by rw[aB,(hl c bx).len]
  rw[e,J0,tb,hX (by omega),dn (by omega)]
 |c::l,i+1,x,hl,h=>by
  have e:ssL (c::l)=us c++ssL l:=rfl;have a:(us c).length=8:=by rw[aB,(hl c bx).len]
  have b:(us c++ssL l).drop 8=ssL l:=by rw[←a];exact List.drop_left
  rw[e,show(i+1)*8=8+i*8 by omega,←List.drop_drop,b];exact IE (λs d=>hl s (bu _ d)) (by simpa using h)
variable{l:List (List Nat)}
theorem SsQ.elem(s:SsQ h v l){x:List Nat}(hi:l[i]? =some x):
 ∃b o c d a t,v= .slice (some ⟨b,o,none⟩) l.length c/\h.get b=some (.cells d a t)/\b<h.next/\bO 8 (bK (o+i*8) d)=us x:=by
 have g:=(List.getElem?_eq_some_iff.1 hi).1;rcases aK.inv s.sl with⟨_,_,h0,_⟩|⟨b,o,cap,hv,s1,hc⟩
 ·omega
 ·obtain⟨d,a,t,e,f⟩:=s1.obj;refine⟨b,o,cap,d,a,t,hv,e,s1.lt,?_⟩;rw[←IE s.ok hi,←f];simp only[bk,aR,WP,Xs,x8];congr 1;omega
def EX(l:List (List Nat)):Int:=if 6<l.length then 2 else if l.any (λs=>decide (s=s0))then 1 else 0
theorem NX(u:aM T)(t:T 67=some f93)(hr:Rdy h){a:Option Addr}{n c:Nat}(s:SsQ h (.slice a n c) l)(B:n<1000000):Pu T 67 [.slice a n c] h (zc (EX l)):=by
 refine .of u t hr rfl ?_;obtain rfl:n=l.length:=by
  rcases aK.inv s.sl with⟨_,g,h0,_⟩|⟨b,o,cap,g,s1,hc⟩
  ·cases g;exact h0.symm
  ·cases g;rfl
 unfold EX;by_cases h6:6<l.length
 ·rw[if_pos h6];have v:zs l.length 6 true:=dY (by omega);refine Y15 ?_;exact ah hr.log rfl rfl
 rw[if_neg h6];have v:zs l.length 6 false:=fu (by omega);refine Y17 ?_
 refine bg (λm e p q=>∃j:Nat,j<=l.length/\l.length-j=m/\e=[(0, .slice a l.length c),(3, zc (j:Nat))]/\p=[]/\h=q∧(l.take j).any (λs=>decide (s=s0))=false)
  ⟨0,gK _,rfl,rfl,rfl,rfl,rfl⟩ ?_
 rintro m e p q ⟨j,A,rfl,rfl,rfl,rfl,d⟩;by_cases hlt:j<l.length
 ·obtain⟨x,i⟩:∃x,l[j]? =some x:=⟨l[j]'hlt,a6 _⟩;have f:=s.ok x (bz i);obtain⟨b,o,y,E,w,D,g,gl,r,z⟩:=s.elem i;cases g;have C:=aL f.len;have k:zd j l.length true:=cH (by omega);by_cases h0:x=s0
  ·have e:l.any (λs=>decide (s=s0))=true:=List.any_eq_true.2 ⟨x,bz i,decide_eq_true h0⟩;rw[if_pos e];refine Y18 ?_;refine aF (jy (b:=s0) (by rfl) (by rfl) f.len rfl) ?_;rw[decide_eq_true h0];refine Y11 ?_;exact ah hr.log rfl rfl
  ·refine Y18 ?_;refine aF (jy (b:=s0) (by rfl) (by rfl) f.len rfl) ?_;rw[decide_eq_false h0];refine Y10 ?_;refine⟨l.length-(j+1),by omega,j+1,by omega,rfl,rfl,rfl,rfl,?_⟩;rw[eD i];exact K6 d (decide_eq_false h0)
 ·obtain rfl:j=l.length:=by omega
  rw[hP]at d;rw[if_neg (by rw[d];simp)];have k:zd l.length l.length false:=cS (by omega);refine Y17 ?_;exact ah hr.log rfl rfl
theorem BP{e:Env}{x:Operand}(a:IsS s)(g:ev h e x=some (sv s)):j6 h e (eS 1 (aI 8 (.int .u64 0))) [(0,8,x)]=some (us s):=by
 have b:cellsOf (sv s)=us s:=by show(us s).toArray.toList=_;simp
 have f:eS 1 (aI 8 (.int .u64 0))=us s0:=rfl;have c:dy (us s0) 0 (us s)=us s:=by
  rw[fQ (by rw[aB,aB,a.len];decide),aB,a.len,Ok];simp[us,s0]
 have d:bM (us s)=8:=by rw[cA,aB,a.len]
 rw[f];simp only[j6,g,b,c,d];rfl
structure Tl (T:Nat->Option an):Prop where
 rf:Ti T
 f31:T 66=some f31
 f93:T 67=some f93
theorem VU(F:Tl T)(hr:Rdy h){w:List Nat×List Nat}(c:IsW w):Pu T 66 [wV w] h (zc (if sIn w.1 w.2 then 0 else 1)):=by
 have f:=F.rf.tr.cr.hr.p;refine .of f F.f31 hr rfl ?_;have d:cellsOf (wV w)=wL w:=by show(wL w).toArray.toList=_;simp
 have j:(h.push (qt (cellsOf (wV w)))).get h.next=some (qt (wL w)):=by rw[d];exact z3 h _
 have W:WF (h.push (qt (cellsOf (wV w)))):=hr.wf.push _;have e:(h.push (qt (cellsOf (wV w)))).log=[]:=hr.log;refine Y4 ?_;generalize(h.push (qt (cellsOf (wV w))))=H at*;have C:=zO f F.rf.f52 F.rf.f140 (h:={H with log:=[]}) (.of W) c.a c.b;have k:=Dg c;have l:=Dh c;have g:=aL c.a.len;have i:=aL c.b.len;cases hin:sIn w.1 w.2 with
 |true=>
  rw[hin]at C;rw[if_pos rfl];refine Y7 ?_;refine FW.pu C ?_;refine Y9 ?_;exact ah e rfl rfl
 |false=>
  rw[hin]at C;rw[if_neg (by simp)];refine Y7 ?_;refine FW.pu C ?_;refine Y8 ?_;exact ah e rfl rfl
end Go.A.Pk
end
section
namespace Go.A
open Go.Sort
variable {P:Program}
theorem Tw{μ:Mu}{h:Heap}:∀(l:List Obj) {w:World},R P μ h w->R P μ h (Sort.grow w l.toArray)/\St μ h w μ h (Sort.grow w l.toArray)
 |[],w,hR=>by
  have e:Sort.grow w #[]=w:=grow_empty w;rw[e];exact⟨hR, .refl _ _ _⟩
 |o::l,w,hR=>by
  have e:Sort.grow w (o::l).toArray=Sort.grow (w.alloc o) l.toArray:=by
   rw[alloc_eq_grow,grow_grow];congr 1;apply Array.toList_inj.1;simp
  rw[e];obtain⟨a,c⟩:=hR.An (w':=w.alloc o) rfl;obtain⟨b,d⟩:=Tw l a;exact⟨b,c.trans d (bl _)⟩
end Go.A
end
section
namespace Go.A.Pk
open Go.Sort
variable {P:Program}
def leS(x y:List Nat):Bool:= !decide (cmpL y x<0)
def fB(l:List (List Nat)):List (List Nat):=l.mergeSort leS
theorem kV(l:List (List Nat)):(fB l).length=l.length:=List.length_mergeSort l
variable{l:List (List Nat)}
theorem ir{x:List Nat}:x∈fB l↔x∈l:=List.mem_mergeSort
theorem fH:∀{l:List (List Nat)},(∀s∈l,IsS s)->(ssL l).length=l.length*8
 |[],_=>rfl
 |s::l,h=>by
  have e:ssL (s::l)=us s++ssL l:=rfl;rw[e,eA,aB,(h s bx).len,fH (λx a=>h x (bu _ a)),me];omega
variable{v:Value}
theorem ID(h:v∈ssL l):∃m:Nat,v= .int .u64 (m:Nat):=by
 obtain⟨s,_,h⟩:=List.mem_flatMap.1 h;obtain⟨m,_,rfl⟩:=List.mem_map.1 h;exact⟨m,rfl⟩
def Jc(k1 k2:Nat):Value->Bool
 | .func (.func k) a b=>(Nat.beq k k1||Nat.beq k k2)&&(Nat.beq (bM a.toList) 0&&Nat.beq (bM b.toList) 0)
 |_=>false
theorem HV{c d:Nat}(h:Jc c d v=true):∃k,(k=c∨k=d)/\v= .func (.func k) #[] #[]:=by
 unfold Jc at h;split at h
 ·rename_i k a b;rw[dk,dk,q9,beq_eq,beq_eq,beq_eq,beq_eq,decide_eq_true_eq,decide_eq_true_eq,decide_eq_true_eq,decide_eq_true_eq,cA,cA]at h;obtain⟨g,i,j⟩:=h;have e:a= #[]:=by cases a;simpa using i
  have f:b= #[]:=by cases b;simpa using j
  subst e;subst f;exact⟨k,g,rfl⟩
 ·cases h
def Bl:Nat->List Value->Option (List (List Nat))
 |0,_=>some []
 |n+1,vs=>match pI (bO 8 vs)with
  |some p=>bif Nat.beq (bM p) 8 then(match Bl n (bK 8 vs)with
   |some r=>some (p::r)
   |none=>none)else none
  |none=>none
theorem Ft:∀{n:Nat} {vs:List Value} {l:List (List Nat)},Bl n vs=some l->l.length=n/\(∀s∈l,IsS s)/\vs=ssL l++bK (n*8) vs
 |0,vs,l,h=>by
  cases h;refine⟨rfl,(λs a=>by cases a),?_⟩;rw[aR,J0,tb];rfl
 |n+1,vs,l,h=>by
  unfold Bl at h;split at h
  ·rename_i p hp;rw[cond_eq_ite,beq_eq,cA,b7,decide_eq_true_eq]at h;obtain⟨hl,h⟩:=h;split at h
   ·rename_i r hr;cases h;obtain⟨d,f,b⟩:=Ft hr;obtain⟨c,i⟩:=tC hp;refine⟨by rw[me,d],λs a=> ?_,?_⟩
    ·rcases List.mem_cons.1 a with rfl|a
     ·exact⟨hl,i⟩
     ·exact f s a
    ·have e:ssL (p::r)=us p++ssL r:=rfl;rw[bk]at c;rw[aR,aR]at b;rw[aR,e,←c,yn];have g:vs.drop ((n+1)*8)=(vs.drop 8).drop (n*8):=by rw[x8];congr 1;omega
     rw[g,←b,xC]
   ·cases h
  ·cases h
theorem Fs:∀{l:List (List Nat)} {t:List Value},(∀s∈l,IsS s)->Bl l.length (ssL l++t)=some l
 |[],t,_=>rfl
 |s::l,t,h=>by
  have hs:=h s bx;have e:ssL (s::l)++t=us s++(ssL l++t):=by show us s++ssL l++t=_;rw[yn]
  have a:(us s).length=8:=by rw[aB,hs.len]
  have b:bO 8 (us s++(ssL l++t))=us s:=by rw[bk,←a,List.take_left]
  have c:bK 8 (us s++(ssL l++t))=ssL l++t:=by rw[aR,←a,List.drop_left]
  have d:Nat.beq (bM s) 8=true:=by rw[cA,hs.len];rfl
  rw[e,me,Bl,b,zq hs.lt];dsimp only;rw[d,cond_true,c,Fs λy f=>h y (bu _ f)]
def qZ(k1 k2:Nat):List Value->Heap->Option (Value×Heap)
 |[.slice none 0 _,f],h=>bif Jc k1 k2 f then some (.tuple #[],h)else none
 |[.slice (some ⟨b,o,none⟩) n _,f],h=>bif Jc k1 k2 f&&(Nat.beq o 0&&Nat.blt n 1000000)then(match h.get b with
  |some (.cells vs true sz)=>match Bl n vs with
   |some l=>some (.tuple #[],h.wr h.next b (.cells (ssL (fB l)++bK (n*8) vs) true sz))
   |none=>none
  |_=>none)else none
 |_,_=>none
theorem XF{μ:Mu}{k:Nat}(h:VR μ (.func (.func k) #[] #[]) v):v= .func (.func k) #[] #[]:=by
 cases h with
 |func hf h1 h2 h3 h4=>
  rename_i f' a' c';cases hf;have a:a'= #[]:=by cases a';simpa using h1.symm
  have b:c'= #[]:=by cases c';simpa using h3.symm
  rw[a,b]
theorem JP{f k1 k2:Nat}{fn:Func}(hf:P.funcs[f]? =some fn)(hn:fn.name≠ "runtime.NumGoroutine")(hb:fn.body.isSome=true)
 (h0:∀(k:Nat) (p:Option Addr) (cap:Nat) (w:World),Calls P f #[.slice p 0 cap, .func (.func k) #[] #[]] w λe F=>e= .returned (.tuple #[])/\F=w)
 (h1:∀(k:Nat),k=k1∨k=k2→∀(x off cap:Nat) (l:List (List Nat)) (w:World),(∀s∈l,IsS s)→Holds id w x off (ssL l).toArray→x<w.heap.size→l.length<4611686018427387904→
   Calls P f #[.slice (some ⟨x,off,none⟩) l.length cap, .func (.func k) #[] #[]] w λe F=>e= .returned (.tuple #[])/\∃n O,F=Sort.grow (putRow id (Sort.ahead w n) x off (ssL (fB l)).toArray) O):By P f (qZ k1 k2):=by
 intro aE h v h' a _;unfold qZ at a;split at a
 ·rename_i c g;rw[cond_eq_ite,b7]at a;obtain⟨C,a⟩:=a;cases a;obtain⟨k,y,rfl⟩:=HV C;refine⟨.refl _ _,λμ w A I Z=> ?_⟩;obtain⟨x',y',rfl,hx,hy⟩:=Z.two;obtain rfl:=XF hy;cases hx;exact lE hf hn hb (h0 _ _ _ w) λe F ⟨S,T⟩=>by subst S;subst T;exact⟨μ, .tuple rfl (λi G=>absurd G (by simp)),I, .refl _ _ _⟩
 ·rename_i b o n c g;rw[cond_eq_ite,b7,dk,dk,beq_eq,blt_eq,decide_eq_true_eq,decide_eq_true_eq]at a;obtain⟨⟨C,rfl,ba⟩,a⟩:=a;obtain⟨kf,am,rfl⟩:=HV C;split at a
  ·rename_i vs sz hbo;split at a
   ·rename_i l hxs;cases a;obtain⟨D,E,M⟩:=Ft hxs;have ar:(ssL l).length=n*8:=by rw[fH E,D]
    have L:∀s∈fB l,IsS s:=λs hs=>E s (ir.1 hs);have z:(ssL (fB l)).length=n*8:=by rw[fH L,kV,D]
    have a8:(bK (n*8) vs).length=vs.length-n*8:=by rw[aR,G7]
    have bo:n*8<=vs.length:=by
     have:=congrArg List.length M;rw[eA,ar]at this;omega
    have be:(ssL (fB l)++bK (n*8) vs).length=vs.length:=by rw[eA,z,a8];omega
    refine⟨AS.wr _ _ _ _,λμ w A I Z=> ?_⟩;obtain⟨x',y',rfl,hx,hy⟩:=Z.two;obtain rfl:=XF hy;have N:∀k Y,μ b=some k->pS P (iy P μ h w (.ret (.tuple #[])) (h.wr h.next b (.cells (ssL (fB l)++bK (n*8) vs) true sz))) ((callFunc f #[.slice (some ⟨k.r,k.d+0,none⟩) n Y, .func (.func kf) #[] #[]]).run P w):=λk Y y=>by
     obtain⟨aw,U,el,fz,V,g2,g3,g4,g5⟩:=I.obj b _ hbo k y;obtain⟨hd,he,J⟩:=g5 rfl;have B:∀(W:List Value) j,(t:j<W.length)->gv W j=W[j]:=λW j t=>by simp[gv,bW,t]
     have a7:∀j,(t:j<(ssL l).length)->U[k.d+j]? =some (ssL l)[j]:=λj t=>by
      obtain⟨v',X,Q⟩:=g4 j (by omega);have e:gv vs j=(ssL l)[j]:=by
       rw[B vs j (by omega)];have:vs[j]? =(ssL l)[j]? :=by
        conv=>lhs;rw[M]
        rw[hG t]
       rw[a6 (by omega),a6 t,Option.some.injEq]at this;exact this
      rw[e]at Q;obtain⟨m,hm⟩:=ID (yi t);rw[hm]at Q⊢;cases Q;exact X
     have hH:Holds id w k.r (k.d+0) (ssL l).toArray:=λj t=>by
      have t:j<(ssL l).length:=by simpa using t
      refine⟨?_,?_⟩
      ·rw[cell_of V,Sx,a7 j t];simp[t]
      ·have:=J (k.d+0+j) (by omega);simp only[World.frozen?,V];simpa using this
     have u:=h1 kf am k.r (k.d+0) Y l w E hH (I.dom _ _ y).2 (by omega);rw[D]at u;refine lE hf hn hb u λe F ⟨S,m,O,T⟩=> ?_;subst S;subst T;obtain⟨r1,s1⟩:=I.world (w':=Sort.ahead w m) rfl;have C:(putRow id (Sort.ahead w m) k.r (k.d+0) (ssL (fB l)).toArray).heap=w.heap.modify k.r (onCells (putCells id (k.d+0) (ssL (fB l)).toArray)):=rfl;have H:(putRow id (Sort.ahead w m) k.r (k.d+0) (ssL (fB l)).toArray).heap[k.r]? =some (.cells (putCells id (k.d+0) (ssL (fB l)).toArray U) el fz):=by
      rw[C,PQ,if_pos rfl,V];rfl
     have bj:(putCells id (k.d+0) (ssL (fB l)).toArray U).size=U.size:=by simp[putCells]
     obtain⟨r2,s2⟩:=r1.write (base:=h.next) (b:=b) (o:= .cells vs true sz) (o':= .cells (ssL (fB l)++bK (n*8) vs) true sz) (k:=k) (w':=putRow id (Sort.ahead w m) k.r (k.d+0) (ssL (fB l)).toArray) hbo rfl rfl y
      (by rw[C];simp[Sort.ahead]) (fun r hr=>by rw[C,PQ,if_neg (Ne.symm hr)];rfl) (.zj V H (by omega)) (by
        intro k' K;rw[y]at K;cases K;refine⟨aw,_,el,fz,H,by omega,by omega,λi G=> ?_,λ_=>⟨hd,by omega,λj t=>J j (by omega)⟩⟩;obtain⟨v',X,Q⟩:=g4 i (by omega);have ae:gv (ssL (fB l)++bK (n*8) vs) i=(ssL (fB l)++bK (n*8) vs)[i]:=B _ i G;rw[ae];by_cases hi8:i<n*8
        ·rw[List.getElem_append_left (by omega)];obtain⟨q,hq⟩:=ID (yi (show i<(ssL (fB l)).length by omega));refine⟨(ssL (fB l))[i],?_,by rw[hq];exact .int _ _⟩;simp only[putCells,Array.getElem?_mapIdx,X,z7];rw[if_pos ⟨by omega,by simp;omega⟩];have:i<(ssL (fB l)).length:=by omega
         simp[this]
        ·refine⟨v',?_,?_⟩
         ·simp only[putCells,Array.getElem?_mapIdx,X,z7];rw[if_neg (λq=>by simp at q;omega)]
         ·have e:(ssL (fB l)++bK (n*8) vs)[i]? =vs[i]? :=by
           rw[gR (by omega),z,aR,kK];congr 1;omega
          rw[a6 G,a6 (by omega),Option.some.injEq]at e;rw[e,←B vs i (by omega)];exact Q)
     obtain⟨r3,s3⟩:=Tw O.toList r2;have e3:Sort.grow (putRow id (Sort.ahead w m) k.r (k.d+0) (ssL (fB l)).toArray) O.toList.toArray=Sort.grow (putRow id (Sort.ahead w m) k.r (k.d+0) (ssL (fB l)).toArray) O:=rfl;rw[e3]at r3 s3;exact⟨μ, .tuple rfl (λi G=>absurd G (by simp)),r3,(s1.trans s2 (bl _)).trans s3 (bl _)⟩
    cases hx with
    |slice y S T=>exact N _ _ y
    |fJ y S T q3=>exact N _ _ y
   ·cases a
  ·cases a
 ·cases a
end Go.A.Pk
end
section
namespace Go.A.Pk
variable {T:Nat->Option an}
variable{h:Heap}{a:Option Addr}{c n:Nat}{l:List (List Nat)}
theorem SsQ.len(s:SsQ h (.slice a n c) l):n=l.length:=by
 rcases aK.inv s.sl with⟨_,hv,h0,_⟩|⟨b,o,cap,hv,s1,hc⟩
 ·cases hv;exact h0.symm
 ·cases hv;rfl
def jW(P:List Nat->Bool):List (List Nat)->Nat->Int
 |[],_=> -1
 |r::l,i=>if P r then(i:Int)else jW P l (i+1)
variable{i:Nat}{r:List Nat}
theorem Ji(P:List Nat->Bool)(hi:l[i]? =some r):jW P (l.drop i) i=if P r then(i:Int)else jW P (l.drop (i+1)) (i+1):=by
 obtain⟨a,rfl⟩:=List.getElem?_eq_some_iff.1 hi;rw[wi a,jW]
theorem Mr(P:List Nat->Bool)(l:List (List Nat)):jW P (l.drop l.length) l.length= -1:=by rw[Sp];rfl
theorem Em(P:List Nat->Bool):∀(l:List (List Nat)) (i:Nat),decide (0<=jW P l i)=l.any P
 |[],i=>rfl
 |r::l,i=>by
  rw[jW,List.any_cons];by_cases h:P r=true
  ·rw[if_pos h,h,decide_eq_true (by omega)];rfl
  ·rw[if_neg h,Em P l (i+1)];rw[Bool.not_eq_true]at h;rw[h,If]
theorem Eo(P:List Nat->Bool):∀(l:List (List Nat)) (i:Nat),0<=jW P l i->∃k r,l[k]? =some r/\P r=true/\jW P l i=((i+k:Nat):Int)/\∀x∈l.take k,P x=false
 |[],i,h=>by simp[jW]at h
 |r::l,i,h=>by
  rw[jW]at h⊢;by_cases hp:P r=true
  ·exact⟨0,r,rfl,hp,by rw[if_pos hp];rfl,λx a=>by simp at a⟩
  ·rw[if_neg hp]at h⊢;obtain⟨k,q,h1,h2,h3,h4⟩:=Eo P l (i+1) h;refine⟨k+1,q,by simpa using h1,h2,by rw[h3];congr 1;omega,λx a=> ?_⟩;rw[Nm]at a;rcases List.mem_cons.1 a with rfl|a
   ·simpa using hp
   ·exact h4 x a
theorem En(P:List Nat->Bool):∀(l:List (List Nat)) (i:Nat),¬0<=jW P l i->jW P l i= -1/\∀x∈l,P x=false
 |[],i,h=>⟨rfl,λx a=>by simp at a⟩
 |r::l,i,h=>by
  rw[jW]at h⊢;by_cases hp:P r=true
  ·rw[if_pos hp]at h;omega
  ·rw[if_neg hp]at h⊢;obtain⟨h1,h2⟩:=En P l (i+1) h;refine⟨h1,λx a=> ?_⟩;rcases List.mem_cons.1 a with rfl|a
   ·simpa using hp
   ·exact h2 x a
variable{cap:List Value}
theorem Et(v:aM T)(q:T 130=some f257)(hr:Rdy h)(s:SsQ h (.slice a n c) l)(B:n<1000000){g:Nat}(P:List Nat->Bool)
 (j:∀r∈l,Pu T g (sv r::cap) h (.bool (P r))):Pu T 130 [.slice a n c, .func (.func g) #[] cap.toArray] h (zc (jW P l 0)):=by
 refine .of v q hr rfl ?_;obtain rfl:=s.len;refine Y10 ?_
 refine bg (λm e k p=>∃i:Nat,i<=l.length/\m=l.length-i/\e=[(0, .slice a l.length c),(1, .func (.func g) #[] cap.toArray),(7, zc (l.length:Nat)),(8, zc (i:Nat))]/\k=[]/\h=p∧jW P l 0=jW P (l.drop i) i)
  ⟨0,gK _,rfl,rfl,rfl,rfl,rfl⟩ ?_
 rintro m e k _ ⟨i,u,rfl,rfl,rfl,rfl,f⟩;by_cases hlt:i<l.length
 ·obtain⟨r,d⟩:∃r,l[i]? =some r:=⟨l[i],a6 hlt⟩;obtain⟨b,o,y,E,x,t,w,z,A,C⟩:=s.elem d;cases w;have D:=aL (s.ok r (bz d)).len;have H:=j r (bz d);rw[Ji P d]at f;refine Y19 ?_;refine pQ (sS (all:=sv r::cap) (by rfl) (by rfl) (by rfl) (by rw[dI,dI];simp[sv])) ?_;refine FW.pu (by rw[hr.self];exact H) ?_;clear H j;cases hpr:P r with
  |true=>
   rw[hpr,if_pos rfl]at f;rw[f];refine Y12 ?_;exact ah hr.log rfl rfl
  |false=>
   rw[hpr,if_neg (by simp)]at f;refine Y9 ?_;exact⟨l.length-(i+1),by omega,i+1,by omega,rfl,rfl,rfl,rfl,f⟩
 ·obtain rfl:i=l.length:=by omega
  rw[Mr]at f;rw[f];refine Y14 ?_;exact ah hr.log rfl rfl
theorem vU(d:aM T)(f:T 102=some f196)(b:T 130=some f257)(hr:Rdy h)(s:SsQ h (.slice a n c) l)(i:n<1000000){g:Nat}(P:List Nat->Bool)
 (e:∀r∈l,Pu T g (sv r::cap) h (.bool (P r))):Pu T 102 [.slice a n c, .func (.func g) #[] cap.toArray] h (.bool (l.any P)):=by
 refine .of d f hr rfl ?_;have C:=Et d b hr s i P e;rw[←Em P l 0];generalize jW P l 0=z at C⊢;refine Y7 ?_;refine FW.pu (by rw[hr.self];exact C) ?_;clear C;have j:af .geq (zc z) (zc 0)=some (.bool (decide (0<=z))):=y6;refine Y4 ?_;exact ah hr.log rfl rfl
def OwS(lo:Nat)(h:Heap)(v:Value)(l:List (List Nat)):Prop:=
 (v= .slice none 0 0/\l=[])∨∃b c t,lo<=b/\b<h.next/\h.get b=some (.cells (ssL l++t) true 8)/\v= sh b l.length c/\l.length<=c/\(l≠[]->c=UNK)
def vB(v:Value)(z:Nat):Prop:=∃m c,v= sh z m c
variable{lo:Nat}{v:Value}
theorem OwS.vb(q:OwS lo h v l){z:Nat}(a:vB v z):lo<=z/\z<h.next:=by
 obtain⟨m,c,a⟩:=a;rcases q with⟨rfl,_⟩|⟨b,c,t,h1,h2,h3,rfl,_⟩
 ·cases a
 ·cases a;exact⟨h1,h2⟩
theorem OwS.ss(q:OwS lo h v l)(a:∀s∈l,IsS s):SsQ h v l:=by
 refine⟨?_,a⟩;rcases q with⟨rfl,rfl⟩|⟨b,c,t,h1,h2,h3,rfl,h4,h5⟩
 ·exact .nil
 ·refine .mem ⟨h2,⟨_,_,_,h3,?_⟩,fH a⟩ h4;rw[bk,aR,tb,hX (by rw[fH a];omega),dn (by rw[fH a];omega)]
variable{h':Heap}
theorem OwS.keep(q:OwS lo h v l)(d:h.next<=h'.next)(a:∀z,lo<=z->z<h.next->h'.get z=h.get z):OwS lo h' v l:=by
 rcases q with q|⟨b,c,t,h1,h2,h3,rfl,h4,h5⟩
 ·exact .inl q
 ·exact .inr ⟨b,c,t,h1,by omega,(a b h1 h2).trans h3,rfl,h4,h5⟩
theorem OwS.ext(q:OwS lo h v l)(x:Ext h h'):OwS lo h' v l:=q.keep x.next λz _ a=>x.old z a
theorem OwS.log(q:OwS lo h v l)(m:List Nat):OwS lo {h with log:=m} v l:=q
theorem OwS.low{a:Nat}(q:OwS lo h v l)(d:a≤lo):OwS a h v l:=by
 rcases q with q|⟨b,c,t,h1,h2⟩
 ·exact .inl q
 ·exact .inr ⟨b,c,t,by omega,h2⟩
theorem OwS.flat{a:Nat}(d:cO v=true)(q:OwS lo h v l):OwS a h' v l:=by
 rcases q with q|⟨b,c,t,h1,h2,h3,rfl,_⟩
 ·exact .inl q
 ·cases d
theorem OwS.form(q:OwS lo h v l):∃a c,v= .slice a l.length c:=by
 rcases q with⟨rfl,rfl⟩|⟨b,c,t,h1,h2,h3,rfl,_⟩
 ·exact⟨none,0,rfl⟩
 ·exact⟨_,c,rfl⟩
theorem Own.owS(q:Own lo h 8 v l.length (ssL l))(a:l.length<4000000):OwS lo h v l:=by
 generalize hm:l.length=n at q;generalize hc:ssL l=cs at q;cases q with
 |nil=>exact .inl ⟨rfl,List.length_eq_zero_iff.1 hm⟩
 |full h1 h2 h3 h4 h5=>
  subst hm;subst hc;exact .inr ⟨_,UNK,[],h1,h2,by rw[md];exact h3,rfl,by unfold UNK;omega,λ_=>rfl⟩
theorem pN(a b:List (List Nat)):ssL (a++b)=ssL a++ssL b:=by simp[ssL]
theorem Fx(a:List Nat)(b:List (List Nat)):ssL (a::b)=us a++ssL b:=rfl
theorem zZ(h:∀r∈l,IsS r):(ssL l).take (i*8)=ssL (l.take i):=by
 by_cases hi:i<=l.length
 ·have e:l=l.take i++l.drop i:=(xC i l).symm;have a:(ssL (l.take i)).length=i*8:=by rw[fH λr b=>h r (wy b),lp,xr hi]
  conv=>lhs;rw[e,pN]
  rw[←a,List.take_left]
 ·rw[dn (by rw[fH h];omega),dn (by omega)]
theorem Fy(h:∀r∈l,IsS r):(ssL l).drop (i*8)=ssL (l.drop i):=by
 by_cases hi:i<=l.length
 ·have e:l=l.take i++l.drop i:=(xC i l).symm;have a:(ssL (l.take i)).length=i*8:=by rw[fH λr b=>h r (wy b),lp,xr hi]
  conv=>lhs;rw[e,pN]
  rw[←a,List.drop_left]
 ·rw[wc (by rw[fH h];omega),wc (by omega)];rfl
theorem CX{t:List Value}(h:∀r∈l,IsS r)(hr:IsS r)(hi:i<l.length):dy (ssL l++t) (0+i*8) (us r)=ssL (l.set i r)++t:=by
 have b:=fH h;have a:(us r).length=8:=by rw[aB,hr.len]
 rw[j3,fQ (by rw[a,eA,b];omega),a,hX (by omega),FX (by omega),zZ h,show i*8+8=(i+1)*8 by omega,Fy h,List.set_eq_take_append_cons_drop,if_pos hi,pN,Fx];simp
variable{x:List Nat}
theorem pO{t:List Value}(h:∀r∈l,IsS r)(hi:l[i]? =some x):bO 8 (bK (0+i*8) (ssL l++t))=us x:=by
 have a:=(List.getElem?_eq_some_iff.1 hi).1;have b:=fH h;rw[bk,aR,j3,FX (by omega),hX (by rw[G7];omega),IE h hi]
theorem CZ{t:List Value}(h:∀r∈l,IsS r)(hr:IsS r)(hi:i<l.length):(Nat.beq (bM (cellsOf (sv r))) 8&&Nat.ble (0+i*8+8) (bM (ssL l++t))&&eG (cellsOf (sv r)))=true:=by
 have e:cellsOf (sv r)=us r:=by show(us r).toArray.toList=_;simp
 rw[e,cA,cA,aB,hr.len,bX,eA,fH h,gh (by omega)];rfl
theorem Lz(f:aM T)(e:T 100=some f194)(hr:Rdy h)(s:SsQ h v l)(j:l.length<1000000):Al T 100 [v] h λv h'=>OwS h.next h' v l:=by
 refine .of f e hr (λv i g q=>OwS.flat g q) ?_;rcases aK.inv s.sl with⟨c',rfl,h0,_⟩|⟨b,o,cap,rfl,s1,hc⟩
 ·have a:l=[]:=List.length_eq_zero_iff.1 h0;subst a;refine Y6 ?_;refine aF (KV (by rfl) (by rfl) (by rfl)) ?_;refine Y7 ?_;exact dN hr.log rfl (.inl ⟨rfl,rfl⟩)
 ·have d:=CV (s.sl.ext ((Ext.refl h).push (.cells [] true 8)));by_cases h0:l.length=0
  ·have a:l=[]:=List.length_eq_zero_iff.1 h0;subst a;refine Y6 ?_;refine aF (KV (by rfl) (by rfl) (by rfl)) ?_;refine Y7 ?_;refine aF (sQ (by rfl) (by rfl) d (bl _)) ?_;refine Y3 ?_;refine dN hr.log rfl (.inr ⟨h.next,_,[],bl _,ec _,?_,rfl,bl _,λq=>absurd rfl q⟩)
   (simp(disch:=first|omega|(simp only[z1,z2];omega))only[z3,z4,z5,z6,z7,z1,z2];exact rfl)
  ·refine Y6 ?_;refine aF (KV (by rfl) (by rfl) (by rfl)) ?_;refine Y7 ?_;refine aF (sP (c:=0) (len:=0) (by rfl) (by rfl) d h0 (by omega) (by decide) (z3 h _) (by exact bl _) (by omega) (by rfl)) ?_;refine Y3 ?_;refine dN hr.log rfl (.inr ⟨h.next+1,UNK,[],Hc _,ec _,?_,?_,by unfold UNK;omega,λ_=>rfl⟩)
   ·rw[md];(simp(disch:=first|omega|(simp only[z1,z2];omega)|(simp only[z1,z2];done)|fail)only[z8,z4,z5,z9,z7,z1,z2];exact rfl)
   ·rw[j3];rfl
theorem uV(hi:l[i]? =some r)(Q:List Nat->Bool):(l.take (i+1)).filter Q=(l.take i).filter Q++(if Q r then [r]else []):=by
 obtain⟨a,rfl⟩:=List.getElem?_eq_some_iff.1 hi;rw[vy a,Ix];congr 1;by_cases hq:Q l[i]=true
 ·simp[hq]
 ·simp[hq]
theorem Bk(hi:i<l.length):(l.set i r).take (i+1)=l.take i++[r]:=by
 apply xa;intro k;by_cases hk:k<i
 ·rw[gS (by omega),QQ (by omega),hG (by rw[lp];omega),gS hk]
 ·by_cases hk2:k=i
  ·subst hk2;rw[gS (by omega),V2 hi,gR (by rw[lp];omega),lp,xr (by omega),xx];rfl
  ·rw[m6 (by rw[lp,ul];omega),m6 (by rw[eA,lp,WC];omega)]
theorem Bj{j:Nat}(hi:i<j):(l.set i r).drop j=l.drop j:=by
 apply xa;intro k;rw[kK,kK,QQ (by omega)]
def zS:List Value:=aI 8 (.int .u64 0)
theorem Dk:∀n,eG (eS n zS)=true
 |0=>rfl
 |n+1=>by
  show eG (ek zS (eS n zS))=true;rw[dI];exact mR rfl (Dk n)
theorem Aa{D:List (List Nat)}{t ws:List Value}(b:∀r∈l,IsS r)(hi:i<=l.length)(c:l.take i=D)(d:dy (ssL l++t) (0+i*8) (eS (l.length-i) zS)=ws):∃t',ws=ssL D++t':=by
 have e:(eS (l.length-i) zS).length=(l.length-i)*8:=by rw[lQ];rfl
 have a:=fH b;rw[←d,fQ (by rw[e,eA,a];omega),j3,hX (by omega),zZ b,c,yn];exact⟨_,rfl⟩
theorem I7(K:aM T)(hf:T 99=some f193)(O:T 130=some f257)(hr:Rdy h)(q:OwS lo h v l)(S:∀r∈l,IsS r)(hn:l.length<1000000){g:Nat}(P:List Nat->Bool)
 (Z:∀h':Heap,WF h'→h.next<=h'.next->(∀z,z<lo->h'.get z=h.get z)->∀r,IsS r->Pu T g (sv r::cap) {h' with log:=[]} (.bool (P r))):
 Gs T 99 [v, .func (.func g) #[] cap.toArray] h (vB v) (λv h'=>OwS lo h' v (l.filter λr=> !P r)):=by
 have sR:=q.ss S;obtain⟨a,c,rfl⟩:=q.form;refine .of K hf ?_ ?_
 ·intro v F M Y aw ae hq;exact OwS.flat Y hq
 have C:=Et K O hr sR hn P (λr hR=>by
  have:=Z h hr.wf (bl _) (λ_ _=>rfl) r (S r hR)
  rwa [hr.self]at this)
 refine Y7 ?_;refine FW.pu (by rw[hr.self];exact C) ?_;clear C;by_cases hi:0<=jW P l 0
 ·obtain⟨k,rk,F,M,h3,h4⟩:=Eo P l 0 hi;rw[j3]at h3;rw[h3];have s:k<l.length:=(List.getElem?_eq_some_iff.1 F).1;rcases q with⟨_,rfl⟩|⟨b,c',tl,hb1,hb2,hb3,Y,hcl,hcu⟩
  ·simp at s
  ·cases Y;obtain rfl:=hcu (λq=>by rw[q]at s;simp at s);have m1:zz k (-1) false:=j9 (by omega);refine Y17 ?_;refine bg (λmm e ds h'=>∃(j i:Nat) (m:List (List Nat)),j<=l.length/\i<j/\mm=l.length-j/\e=[(0, sh b l.length UNK),(1, .func (.func g) #[] cap.toArray),(5, zc (i:Nat)),(6, zc (j:Nat))]/\ds=[]∧
    WF h'∧h.next<=h'.next/\(∀z,z<lo->h'.get z=h.get z)/\(∀z∈h'.log,vB (sh b l.length UNK) z)/\h'.get b=some (.cells (ssL m++tl) true 8)/\m.length=l.length/\(∀r∈m,IsS r)/\m.take i=(l.take j).filter (λr=> !P r)/\m.drop j=l.drop j)
    ⟨k+1,k,l,s,ec _,rfl,rfl,rfl,hr.wf,bl _,λ_ _=>rfl,(by rw[hr.log];intro z p;cases p),hb3,rfl,S,?_,rfl⟩ ?_
   ·rw[uV F,M];simp only[Hd,xj,if_false,md];exact(List.filter_eq_self.2 (λx D=>by rw[h4 x D];rfl)).symm
   rintro mm e ds H ⟨j,i,m,hj,am,rfl,rfl,rfl,hw,W,w,I,L,U,d,o,A⟩;have G:b<H.next:=WF.dS hw L
   by_cases hlt:j<l.length
   ·obtain⟨r,B⟩:∃r,l[j]? =some r:=⟨l[j],a6 hlt⟩;have J:m[j]? =some r:=by
     have e1:(m.drop j)[0]? =(l.drop j)[0]? :=by rw[A]
     rw[kK,kK]at e1;exact e1.trans B
    have f:=d r (bz J);have aE:=pO (t:=tl) d J;have rl:=aL f.len;have ba:=aV f.len;have be:=f.len;refine Y17 ?_;refine aF (sG) ?_;refine aF (bB (by rfl) (by rfl) YG (by(simp only[aB];assumption)) (by rfl) (by exact bX _)) ?_;refine Y3 ?_;refine aF (bV (by rfl) YG (by assumption) (by assumption)) ?_;have N:WF (((H.push (qt (aI 8 (.int .u64 0)))).wr h.next H.next (qt (us r)))):=(hw.push (qt (aI 8 (.int .u64 0)))).as (AS.wr h.next _ _ _);have E:=Z _ N (show h.next<=H.next+1 by omega) (λz p=>by
     rw[z5 (by omega),z4 (by omega)];exact w z p) r f
    refine pQ (sS (all:=sv r::cap) (by rfl) (by rfl) (by rfl) (by rw[dI,dI];simp[sv])) ?_;refine FW.pu E ?_;clear E;have u:∀z∈(((H.push (qt (aI 8 (.int .u64 0)))).wr h.next H.next (qt (us r)))).log,vB (sh b l.length UNK) z:=by
     rw[Heap.au W];exact I
    have y:(((H.push (qt (aI 8 (.int .u64 0)))).wr h.next H.next (qt (us r)))).get b=some (.cells (ssL m++tl) true 8):=by
     rw[z5 (by omega),z4 G];exact L
    have a8:(((H.push (qt (aI 8 (.int .u64 0)))).wr h.next H.next (qt (us r)))).get H.next=some (qt (us r)):=by
     rw[z6,z3];rfl
    have n:∀z,z<lo->(((H.push (qt (aI 8 (.int .u64 0)))).wr h.next H.next (qt (us r)))).get z=h.get z:=λz p=>by
     rw[z5 (by omega),z4 (by omega)];exact w z p
    have a7:(((H.push (qt (aI 8 (.int .u64 0)))).wr h.next H.next (qt (us r)))).next=H.next+1:=rfl
    generalize(((H.push (qt (aI 8 (.int .u64 0)))).wr h.next H.next (qt (us r))))=H2 at*;cases K:P r with
    |true=>
     refine Y11 ?_;refine⟨l.length-(j+1),by omega,j+1,i,m,by omega,by omega,rfl,rfl,rfl,N,by omega,n,u,y,U,d,?_,?_⟩
     ·rw[uV B,K,o];simp
     ·rw[←List.drop_drop,←List.drop_drop,A]
    |false=>
     have kc:=CZ (t:=tl) d f (i:=i) (by omega);have kw:dy (ssL m++tl) (0+i*8) (cellsOf (sv r))=ssL (m.set i r)++tl:=by
      have e:cellsOf (sv r)=us r:=by show(us r).toArray.toList=_;simp
      rw[e,CX d f (by omega)]
     refine Y8 ?_;refine aF (je (by rfl) (by rfl) y kc kw) ?_;refine Y5 ?_;refine bH ?_;refine Y8 ?_;refine⟨l.length-(j+1),by omega,j+1,i+1,m.set i r,by omega,by omega,rfl,rfl,rfl,N.as (AS.wr h.next _ _ _),(by show h.next<=H2.next;omega),?_,vN u ⟨_,_,rfl⟩,?_,by rw[ul];exact U,?_,?_,?_⟩
     ·intro z p;rw[z5 (by omega)];exact n z p
     ·rw[z6,y];rfl
     ·intro x D;rcases Fd D with D|rfl
      ·exact d x D
      ·exact f
     ·rw[Bk (by omega),uV B,K,o];simp
     ·rw[Bj (by omega),←List.drop_drop,←List.drop_drop,A]
   ·obtain rfl:j=l.length:=by omega
    rw[hP]at o;have p:(eS (l.length-i) zS).length=(l.length-i)*8:=by rw[lQ];rfl
    have ar:i<=l.length:=by omega
    have V:=fH d;refine Y16 ?_;refine aF (oQ (by rfl) (by rfl) (by assumption) (by omega)) ?_;refine aF (Hx (z:=zS) (by rfl) (by omega) L (by rw[p,eA,V];omega) (by exact Dk _) rfl) ?_;refine Y4 ?_;refine aF (sU (by rfl) (by rfl) YG (by omega) (by omega)) ?_;refine Y3 ?_;refine nX (vN I ⟨_,_,rfl⟩) rfl ?_;have Q:(l.filter λr=> !P r).length=i:=by
     rw[←o,lp];omega
    obtain⟨t',X⟩:=Aa (t:=tl) (i:=i) (ws:=dy (ssL m++tl) (0+i*8) (eS (l.length-i) zS)) d (by omega) o (by rw[U]);refine .inr ⟨b,UNK,t',hb1,G,?_,?_,by unfold UNK;omega,λ_=>rfl⟩
    ·rw[z6,L,z7,X]
    ·rw[Q];rfl
 ·obtain⟨F,M⟩:=En P l 0 hi;rw[F];refine Y14 ?_;refine nX (by rw[hr.log];intro z p;cases p) rfl ?_;show OwS lo h (.slice a l.length c) _;rw[List.filter_eq_self.2 (λx D=>by rw[M x D];rfl)];exact q
def ddS:List (List Nat)->List (List Nat)
 |a::b::l=>if a=b then ddS (b::l)else a::ddS (b::l)
 |l=>l
theorem xU:∀(l:List (List Nat)) (y x:List Nat),ddS (l++[y,x])=if y=x then ddS (l++[y])else ddS (l++[y])++[x]
 |[],y,x=>by
  show(if y=x then [x]else y::[x])=if y=x then [y]else [y]++[x]
  by_cases h:y=x
  ·rw[if_pos h,if_pos h,h]
  ·rw[if_neg h,if_neg h];rfl
 |[a],y,x=>by
  have c:=xU [] y x;simp only[HO]at c;show(if a=y then ddS (y::[x])else a::ddS (y::[x]))=_;have e:ddS ([a]++[y])=if a=y then ddS [y]else a::ddS [y]:=rfl
  rw[e,c];by_cases h:a=y
  ·simp only[if_pos h]
  ·simp only[if_neg h];by_cases h2:y=x
   ·simp only[if_pos h2]
   ·simp only[if_neg h2];rfl
 |a::b::l,y,x=>by
  have c:=xU (b::l) y x;show(if a=b then ddS (b::l++[y,x])else a::ddS (b::l++[y,x]))=_;have e:ddS (a::b::l++[y])=if a=b then ddS (b::l++[y])else a::ddS (b::l++[y]):=rfl
  rw[e,c];by_cases h:a=b
  ·simp only[if_pos h]
  ·simp only[if_neg h];by_cases h2:y=x
   ·simp only[if_pos h2]
   ·simp only[if_neg h2];rfl
theorem DV{k:Nat}{y:List Nat}(b:l[k]? =some y)(a:l[k+1]? =some x):ddS (l.take (k+1+1))=if y=x then ddS (l.take (k+1))else ddS (l.take (k+1))++[x]:=by
 rw[eD a,eD b,yn];exact xU _ y x
theorem oW:∀{l:List (List Nat)} {x:List Nat},x∈ddS l->x∈l
 |[],_,h=>h
 |[a],_,h=>h
 |a::b::l,x,h=>by
  unfold ddS at h;by_cases e:a=b
  ·rw[if_pos e]at h;exact bu _ (oW h)
  ·rw[if_neg e]at h;rcases List.mem_cons.1 h with rfl|h
   ·exact bx
   ·exact bu _ (oW h)
theorem uq:∀{l:List (List Nat)} {x:List Nat},x∈l->x∈ddS l
 |[],_,h=>h
 |[a],_,h=>h
 |a::b::l,x,h=>by
  unfold ddS;by_cases e:a=b
  ·rw[if_pos e];rcases List.mem_cons.1 h with rfl|h
   ·exact uq (by rw[e];exact bx)
   ·exact uq h
  ·rw[if_neg e];rcases List.mem_cons.1 h with rfl|h
   ·exact bx
   ·exact bu _ (uq h)
theorem AM{m:List (List Nat)}(h:m.drop n=l.drop n):m.drop (n+1)=l.drop (n+1):=by
 have:=congrArg (List.drop 1) h
 rwa [x8,x8]at this
theorem BL:∀l:List (List Nat),(ddS l).length<=l.length
 |[]=>bl _
 |[a]=>bl _
 |a::b::l=>by
  have ih:=BL (b::l);unfold ddS;by_cases e:a=b
  ·rw[if_pos e];exact EQ ih
  ·rw[if_neg e];exact Nat.succ_le_succ ih
theorem xP(hp:aM T)(hf:T 98=some f192)(hr:Rdy h)(q:OwS lo h v l)(L:∀r∈l,IsS r)(hn:l.length<1000000):
 Gs T 98 [v] h (vB v) (λv p=>OwS lo p v (ddS l)):=by
 obtain⟨a,c,rfl⟩:=q.form;refine .of hp hf ?_ ?_
 ·intro v h1 K hv am a7 hq;exact OwS.flat hv hq
 by_cases K:l.length<2
 ·have e:ddS l=l:=by
   match l,K with
   |[],_=>rfl
   |[_],_=>rfl
  rw[e];have m1:zd l.length 2 true:=cH (by omega);refine Y16 ?_;exact nX (by rw[hr.log];intro z A;cases A) rfl q
 have m0:zd l.length 2 false:=cS (by omega);rcases q with⟨_,rfl⟩|⟨b,c',tl,hb1,hb2,hb3,hv,hcl,hcu⟩
 ·exact absurd (show([]:List (List Nat)).length<2 by decide) K
 cases hv;obtain rfl:=hcu (λq=>by rw[q]at K;simp at K);refine Y17 ?_
 refine bg (λP e I p=>∃k:Nat,k+1<=l.length/\l.length-(k+1)=P/\e=[(0, sh b l.length UNK),(3, zc ((k+1:Nat):Int))]/\I=[]/\h=p∧ddS (l.take (k+1))=l.take (k+1))
  ⟨0,by omega,rfl,rfl,rfl,rfl,?_⟩ ?_
 ·cases l with
  |nil=>rfl
  |cons a l=>rfl
 rintro P e I _ ⟨k,hk,rfl,rfl,rfl,rfl,s⟩;by_cases hlt:k+1<l.length
 ·obtain⟨x,w⟩:∃r,l[k+1]? =some r:=⟨l[k+1],a6 hlt⟩;obtain⟨y,U⟩:∃r,l[k]? =some r:=⟨l[k],a6 (by omega)⟩;have f:=L x (bz w);have n:=L y (bz U);have j:=DV U w;have rx:=pO (t:=tl) L w;have ry:=pO (t:=tl) L U;have kx:=aL f.len;have ky:=aL n.len;have B:zd ((k+1:Nat):Int) l.length true:=cH (by omega);have Q:vd ((k+1:Nat):Int) 1 ((k:Nat):Int):=kg (by rw[aU]<;>omega);by_cases hxy:y=x
  ·rw[if_pos hxy,s]at j;refine Y23 ?_;refine qZ9 (b:=jy (b:=y) (by rfl) (by rfl) f.len n.len) (H:=?_);rw[decide_eq_true hxy.symm];refine Y7 ?_;refine aF (oQ (by rfl) (by rfl) (by assumption) (by omega)) ?_;refine Y7 ?_;refine bg (λP e I p=>∃(d i:Nat) (m:List (List Nat)),d+1<=l.length-(k+1)/\l.length-(k+1)-(d+1)=P/\e=[(0, sh b l.length UNK),(3, zc (i:Nat)),(4, .slice (some ⟨b,0+(k+1)*8,none⟩) (l.length-(k+1)) UNK),(5, zc ((d+1:Nat):Int))]/\I=[]∧
    WF p∧h.next<=p.next/\(∀z,z<lo->p.get z=h.get z)/\(∀z∈p.log,vB (sh b l.length UNK) z)/\p.get b=some (.cells (ssL m++tl) true 8)/\m.length=l.length/\(∀r∈m,IsS r)/\i<=k+1+d/\m.take i=ddS (l.take (k+1+d+1))/\m.drop (k+1+d)=l.drop (k+1+d))
    ⟨0,k+1,l,by omega,rfl,rfl,rfl,hr.wf,bl _,λ_ _=>rfl,(by rw[hr.log];intro z A;cases A),hb3,rfl,L,bl _,j.symm,rfl⟩ ?_
   rintro P e I H ⟨d,i,m,ae,rfl,rfl,rfl,hw,M,D,F,G,X,g,a8,o,u⟩;have V:b<H.next:=WF.dS hw G
   clear w U f n j rx ry kx ky B Q hxy;by_cases hlt2:d+1<l.length-(k+1)
   ·obtain⟨C,N⟩:∃r,l[k+1+d+1]? =some r:=⟨l[k+1+d+1],a6 (by omega)⟩;obtain⟨S,O⟩:∃r,l[k+1+d]? =some r:=⟨l[k+1+d],a6 (by omega)⟩;have mx:m[k+1+d+1]? =some C:=by
     have J:(m.drop (k+1+d))[1]? =(l.drop (k+1+d))[1]? :=by rw[u]
     rw[kK,kK]at J;exact J.trans N
    have my:m[k+1+d]? =some S:=by
     have J:(m.drop (k+1+d))[0]? =(l.drop (k+1+d))[0]? :=by rw[u]
     rw[kK,kK]at J;exact J.trans O
    have f:=g C (bz mx);have n:=g S (bz my);have j:=DV O N;have rx:=pO (t:=tl) g mx;have ry:=pO (t:=tl) g my;rw[show 0+(k+1+d+1)*8=0+(k+1)*8+(d+1)*8 by omega]at rx;rw[show 0+(k+1+d)*8=0+(k+1)*8+d*8 by omega]at ry;have kx:=aL f.len;have ky:=aL n.len;have B:zd ((d+1:Nat):Int) ((l.length-(k+1):Nat):Int) true:=cH (by omega);have Q:vd ((d+1:Nat):Int) 1 ((d:Nat):Int):=kg (by rw[aU]<;>omega);by_cases hxy:S=C
    ·rw[if_pos hxy]at j;refine Y23 ?_;refine qZ9 (b:=jy (b:=S) (by rfl) (by rfl) f.len n.len) (H:=?_);rw[decide_eq_true hxy.symm];refine Y12 ?_;exact⟨l.length-(k+1)-(d+1+1),by omega,d+1,i,m,by omega,rfl,rfl,rfl,hw,M,D,F,G,X,g,by omega,by rw[o,←j];rfl,AM u⟩
    ·rw[if_neg hxy]at j;have kc:=CZ (t:=tl) g f (i:=i) (by omega);have kw:dy (ssL m++tl) (0+i*8) (cellsOf (sv C))=ssL (m.set i C)++tl:=by
      have e:cellsOf (sv C)=us C:=by show(us C).toArray.toList=_;simp
      rw[e,CX g f (by omega)]
     refine Y23 ?_;refine qZ9 (b:=jy (b:=S) (by rfl) (by rfl) f.len n.len) (H:=?_);rw[decide_eq_false (Ne.symm hxy)];refine Y12 ?_;refine aF (je (by rfl) (by rfl) G kc kw) ?_;refine Y5 ?_;refine bH ?_;refine Y8 ?_;refine⟨l.length-(k+1)-(d+1+1),by omega,d+1,i+1,m.set i C,by omega,rfl,rfl,rfl,hw.as (AS.wr h.next _ _ _),M,?_,vN F ⟨_,_,rfl⟩,?_,by rw[ul];exact X,?_,by omega,?_,?_⟩
     ·intro z A;rw[z5 (by omega)];exact D z A
     ·rw[z6,G];rfl
     ·intro r w;rcases Fd w with w|rfl
      ·exact g r w
      ·exact f
     ·rw[Bk (by omega),o,←Nat.add_assoc,j]
     ·rw[Bj (by omega)];exact AM u
   ·have E:k+1+d+1=l.length:=by omega
    rw[E,hP]at o;have B:zd ((d+1:Nat):Int) ((l.length-(k+1):Nat):Int) false:=cS (by omega);have A:(eS (l.length-i) zS).length=(l.length-i)*8:=by rw[lQ];rfl
    have Y:=fH g;refine Y16 ?_;refine aF (oQ (by rfl) (by rfl) (by assumption) (by omega)) ?_;refine aF (Hx (z:=zS) (by rfl) (by omega) G (by rw[A,eA,Y];omega) (by exact Dk _) rfl) ?_;refine Y4 ?_;refine aF (sU (by rfl) (by rfl) YG (by omega) (by omega)) ?_;refine Y8 ?_;refine nX (vN F ⟨_,_,rfl⟩) rfl ?_;have W:(ddS l).length=i:=by
     rw[←o,lp];omega
    obtain⟨t',Z⟩:=Aa (t:=tl) (i:=i) (ws:=dy (ssL m++tl) (0+i*8) (eS (l.length-i) zS)) g (by omega) o (by rw[X]);refine .inr ⟨b,UNK,t',hb1,V,?_,?_,by unfold UNK;omega,λ_=>rfl⟩
    ·rw[z6,G,z7,Z]
    ·rw[W];rfl
  ·rw[if_neg hxy,s,←eD w]at j;refine Y23 ?_;refine qZ9 (b:=jy (b:=y) (by rfl) (by rfl) f.len n.len) (H:=?_);rw[decide_eq_false (Ne.symm hxy)];refine Y12 ?_;exact⟨l.length-(k+1+1),by omega,k+1,by omega,rfl,rfl,rfl,rfl,j⟩
 ·have E:k+1=l.length:=by omega
  rw[E,hP]at s;have B:zd ((k+1:Nat):Int) l.length false:=cS (by omega);refine Y18 ?_;refine nX (by rw[hr.log];intro z A;cases A) rfl ?_;rw[s];exact .inr ⟨b,UNK,tl,hb1,hb2,hb3,rfl,hcl,λ_=>rfl⟩
end Go.A.Pk
end
