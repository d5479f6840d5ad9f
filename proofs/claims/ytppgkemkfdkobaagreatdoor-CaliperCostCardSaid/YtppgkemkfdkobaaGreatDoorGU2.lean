/- Walks of functions, plain laws, the table. -/
import Derived.Test.YtppgkemkfdkobaaGreatDoorGU1
import Derived.Test.YtppgkemkfdkobaaGreatDoorGU0
import Derived.Test.YtppgkemkfdkobaaGreatDoorGF
import Derived.Test.YtppgkemkfdkobaaGreatDoorGD
import Derived.Sort.Row
import Derived.Sort.Grow
import Derived.Test.YtppgkemkfdkobaaGreatDoorGV
set_option linter.all false
set_option maxHeartbeats 16000000
set_option maxRecDepth 100000
section
namespace Go.A.Pk
variable{a b:List Nat}
def BR(f:IsS a)(hb:IsS b)(c:Ce):eU (sU a b) c=(eU a c&&eU b c):=by
 by_cases hc:inG c=true
 ·obtain⟨z,i,d,e,rfl⟩:=iP hc;rw[gi d e,gi d e,gi d e];unfold sU tU;rw[zl f hb d];exact QP ..
 ·rw[gX hc,gX hc,gX hc];rfl
def ya(d:IsS a)(hb:IsS b)(h:∀z i,z<8->i<64->eU a (fk z i)=eU b (fk z i)):a=b:=by
 apply wy;intro z;rcases Hk z 8 with hz|hz
 ·rw[lU (by rw[d.len];exact hz),lU (by rw[hb.len];exact hz)];congr 1;apply ab4;intro i;rcases Hk i 64 with hi|hi
  ·have:=h z i hz hi
   rwa [gi hz hi,gi hz hi]at this
  ·have c:∀x:Nat,x<U64->x.testBit i=false:=λx e=>Nat.testBit_lt_two_pow (m6 e (show 2 ^ 64<=2 ^ i from xl ω hi));rw[c _ (d.lV z),c _ (hb.lV z)]
 ·rw[kz (by rw[d.len];exact hz),kz (by rw[hb.len];exact hz)]
variable{i:Nat}
def Mw{z:Nat}(a:z<8)(hi:i<64):fk z i∈(List.range 512).map ceN:=by
 rw[←Ct hi];exact List.mem_map_of_mem (List.mem_range.2 ω)
def mlo(f:Ce->Int)(m:Int)(l:List Ce):Int:=l.foldl (λm c=>mi m (f c)) m
def mhi(f:Ce->Int)(m:Int)(l:List Ce):Int:=l.foldl (λm c=>mx m (f c)) m
def Vv(a b:Int):mi a b<=a:=by unfold mi;split<;>omega
def Vw(a b:Int):mi a b<=b:=by unfold mi;split<;>omega
def Vy(a b:Int):a<=mx a b:=by unfold mx;split<;>omega
def Vz(a b:Int):b<=mx a b:=by unfold mx;split<;>omega
variable{k:Int}
def YS{a b:Int}(h1:k<=a)(c:k<=b):k<=mi a b:=by unfold mi;split<;>omega
def YT{a b:Int}(h1:a<=k)(c:b<=k):mx a b<=k:=by unfold mx;split<;>omega
def CX(f:Ce->Int):∀(l:List Ce) (m:Int),mlo f m l<=m/\∀c∈l,mlo f m l<=f c
 |[],m=>⟨ab6 _,λc hc=>by cases hc⟩
 |c::l,m=>by
  obtain⟨h1,h2⟩:=CX f l (mi m (f c));refine⟨Int.le_trans h1 (Vv _ _),λd a=> ?_⟩;rcases List.mem_cons.1 a with rfl|a
  ·exact Int.le_trans h1 (Vw _ _)
  ·exact h2 d a
def CV(f:Ce->Int){k:Int}:∀(l:List Ce) (m:Int),k<=m->(∀c∈l,k<=f c)->k<=mlo f m l
 |[],_,h,_=>h
 |c::l,m,h,hl=>CV f l (mi m (f c)) (YS h (hl c b7)) λd hd=>hl d (bz _ hd)
def CT(f:Ce->Int):∀(l:List Ce) (m:Int),m<=mhi f m l/\∀c∈l,f c<=mhi f m l
 |[],m=>⟨ab6 _,λc hc=>by cases hc⟩
 |c::l,m=>by
  obtain⟨h1,h2⟩:=CT f l (mx m (f c));refine⟨Int.le_trans (Vy _ _) h1,λd a=> ?_⟩;rcases List.mem_cons.1 a with rfl|a
  ·exact Int.le_trans (Vz _ _) h1
  ·exact h2 d a
def CU(f:Ce->Int){k:Int}:∀(l:List Ce) (m:Int),m<=k->(∀c∈l,f c<=k)->mhi f m l<=k
 |[],_,h,_=>h
 |c::l,m,h,hl=>CU f l (mx m (f c)) (YT h (hl c b7)) λd hd=>hl d (bz _ hd)
def IC:∀(l:List Ce) (b:Bx),l.foldl rH b=⟨⟨mlo (·.x) b.lo.x l,mlo (·.y) b.lo.y l,mlo (·.z) b.lo.z l⟩,⟨mhi (·.x) b.hi.x l,mhi (·.y) b.hi.y l,mhi (·.z) b.hi.z l⟩⟩
 |[],b=>rfl
 |c::l,b=>by rw[ab0,IC l (rH b c)];rfl
def GN(l:List Ce):bxS l=⟨⟨mlo (·.x) 7 l,mlo (·.y) 7 l,mlo (·.z) 7 l⟩,⟨mhi (·.x) 0 l,mhi (·.y) 0 l,mhi (·.z) 0 l⟩⟩:=IC l bx0
def Sub(a b:List Nat):Prop:=∀c,eU a c=true->eU b c=true
def filter_le{α:Type}{p q:α->Bool}(h:∀x,p x=true->q x=true):∀l:List α,(l.filter p).length<=(l.filter q).length
 |[]=>bl _
 |x::l=>by
  have ih:=filter_le h l;rw[PH,PH];by_cases hp:p x=true
  ·rw[if_pos hp,if_pos (h x hp)];simpa using ih
  ·rw[if_neg hp];split
   ·exact HP ih
   ·exact ih
def Sub.cnt(h:Sub a b):ij a<=ij b:=filter_le h _
def gY(d:IsS a)(hb:IsS b):sIn a b=true↔Sub a b:=by
 unfold sIn;rw[decide_eq_true_eq];constructor
 ·intro h c f;have e:eU (sU a b) c=eU a c:=by rw[h]
  rw[BR d hb,f,yi]at e;exact e
 ·intro h;refine ya (d.meet hb) d λz i j g=> ?_;rw[BR d hb];cases f:eU a (fk z i)with
  |false=>rfl
  |true=>rw[h _ f];rfl
variable{T:Nat->Option aq}
abbrev CeQ(h:Heap)(v:Value)(l:List Ce):Prop:=aH h 3 v l.length (ceS l)
variable{h:Heap}{v:Value}
def CeQ.elem{l:List Ce}(s:CeQ h v l){x:Ce}(hi:l[i]? =some x):
 ∃b o c a d t,v= .slice (some ⟨b,o,none⟩) l.length c/\h.get b=some (.cells a d t)/\b<h.next/\cm 3 (bQ (o+i*3) a)=ceL x/\bN a (o+i*3+0)=some (zc x.x)/\bN a (o+i*3+1)=some (zc x.y)/\bN a (o+i*3+2)=some (zc x.z):=by
 have q:=(List.getElem?_eq_some_iff.1 hi).1;rcases aH.inv s with⟨_,_,h0,_⟩|⟨b,o,cap,hv,s1,hc⟩
 ·omega
 ·obtain⟨a,d,t,m,n⟩:=s1.obj;have g:∀(l:List Ce) (i:Nat),l[i]? =some x->((ceS l).drop (i*3)).take 3=ceL x:=by
   intro l;induction l with
   |nil=>intro i h;simp at h
   |cons c l ih=>
    intro i h;cases i with
    |zero=>simp at h;subst h;rfl
    |succ i=>
     have e:ceS (c::l)=ceL c++ceS l:=rfl;rw[e,show(i+1)*3=3+i*3 by omega,←List.drop_drop];exact ih i (by simpa using h)
  have e:=g l i hi;rw[←n]at e;have k:cm 3 (bQ (o+i*3) a)=ceL x:=by
   rw[←e];simp only[bw,aT,ab7,ab8,Co];congr 1;omega
  have f:∀j v,j<3->(ceL x)[j]? =some v->bN a (o+i*3+j)=some v:=by
   intro j v p h;rw[←k,bw,aT,wi p,wn]at h;rw[cC];exact h
  exact⟨b,o,cap,a,d,t,hv,m,s1.lt,k,f 0 _ ω rfl,f 1 _ ω rfl,f 2 _ ω rfl⟩
variable{s:List Nat}
def II(F:Io T)(g:T 12=some f84)(hr:Rdy h)(d:IsS s):Pu T 12 [sv s] h (zc ((ij s:Nat):Int)):=by
 refine .of F.hr.p g hr rfl ?_;have o:=aN d.len;have r:=aU d.len;have e:Ext h (h.push (qt (cellsOf (sv s)))):=(Ext.refl h).push _;have l:(h.push (qt (cellsOf (sv s)))).get h.next=some (qt (us s)):=z3 h _
 refine Y4 ?_;generalize(h.push (qt (cellsOf (sv s))))=H at*;have W:=e.wf hr.wf;have f:=e.log.trans hr.log;have i:=jd s 512;have C:=uR F (h:=η H) (.of W) d;unfold ij;refine Y3 ?_;refine FW.al C (λv n m q=>q.log m) ?_;rintro v k j q;clear C;have b:=j.log.trans f;obtain⟨a,c,rfl⟩:=(q.slice ω).form;refine Y4 ?_;exact an b rfl rfl
variable{o:List Nat}{c:Ce}
def JE(q:aK T)(p:T 172=some f221)(hr:Rdy h)(d:IsS o)(g:inG c=true):Pu T 172 [sv o,ceV c] h (sv (nU o c)):=by
 refine .of q p hr (iQ _) ?_;have f:=d.nU g;obtain⟨z,i,j,e,rfl⟩:=iP g;have A:=jm (lU (s:=o) (i:=z) (by rw[d.len];exact j));have K:=R7 (a:=o.getD z 0) (b:=2 ^ i) (d.lV z) (vC e);have E:vj 8 ((fk z i).y) (8*((i / 8:Nat):Int)):=zK (b:=((i / 8:Nat):Int)) ω ω;have F:zE (8*((i / 8:Nat):Int)) ((fk z i).x) ((i:Nat):Int):=fK (b:=((i % 8:Nat):Int)) (by rw[aO]<;>omega);have G:=Hf (k:= .u64) e;have I:fU .u64 ((i:Nat):Int)=((i:Nat):Int):=p9 ω;have l:=DY (o:=o) (z:=z) (v:=Nat.lor (o.getD z 0) (2 ^ i)) (by rw[d.len];exact j);rw[←yd o e]at l;have u:(Nat.beq (bS (cellsOf (.int .u64 ((Nat.lor (o.getD z 0) (2 ^ i):Nat):Int)))) 1&&Nat.ble (0+z*1+1) (bS (us o))&&eN (cellsOf (.int .u64 ((Nat.lor (o.getD z 0) (2 ^ i):Nat):Int))))=true:=by
  rw[cK (us o),aF,d.len,gh ω];rfl
 have J:bN (ceL (fk z i)) (0+2)=some (zc ((z:Nat):Int)):=rfl;have m:(((h.push (qt (cellsOf (sv o)))).push (qt (cellsOf (ceV (fk z i))))).push (qt (aL 8 (.int .u64 0)))).get h.next=some (qt (us o)):=YG
 have B:(((h.push (qt (cellsOf (sv o)))).push (qt (cellsOf (ceV (fk z i))))).push (qt (aL 8 (.int .u64 0)))).get (h.next+1)=some (qt (ceL (fk z i))):=YG;have C:(((h.push (qt (cellsOf (sv o)))).push (qt (cellsOf (ceV (fk z i))))).push (qt (aL 8 (.int .u64 0)))).get (h.next+2)=some (qt (aL 8 (.int .u64 0))):=YG;have w:Ext h (((h.push (qt (cellsOf (sv o)))).push (qt (cellsOf (ceV (fk z i))))).push (qt (aL 8 (.int .u64 0)))):=(((Ext.refl h).push _).push _).push _;have L:(((h.push (qt (cellsOf (sv o)))).push (qt (cellsOf (ceV (fk z i))))).push (qt (aL 8 (.int .u64 0)))).next=h.next+3:=rfl
 refine Y5 ?_;generalize(((h.push (qt (cellsOf (sv o)))).push (qt (cellsOf (ceV (fk z i))))).push (qt (aL 8 (.int .u64 0))))=H at*;have n:=w.log.trans hr.log;have r:=aU f.len;have t:=aN f.len;have D:=f.len;refine Y14 ?_;refine qZ9 (c:=yy ρ τ) (H:=?_);refine Y3 ?_;refine iB (vs:=us o) (ws:=us (nU o (fk z i))) rfl rfl rfl ρ ρ ρ m u l ω (by(repeat apply aB rfl);exact aQ) ?_;generalize nU o (fk z i)=o' at*;refine Y4 ?_;refine aG (bW ρ YG τ τ) ?_;refine aG (bH ρ ρ YG (by(simp only[aF];assumption)) ρ (by exact bZ _)) ?_;refine y3 ?_;refine pq ?_;refine an ?_ (bV (own:=true) (s:=1) rfl ?_ r t rfl) rfl
 ·rw[Heap.aA (by show h.next<=h.next+2;omega),Heap.aA (bl _)];exact n
 ·exact YG
def Wi(l:aK T)(k:T 186=some f267)(hr:Rdy h)(j:InB c):Pu T 186 [ceV c, zc 0] h (ceV (eE 0 c)):=by
 refine .of l k hr rfl ?_;obtain⟨a,b,d⟩:=c;obtain⟨e,f,g⟩:=j;dsimp only at e f g;have mx:=dV e;have m:=dV f;have n:=dV g;have o:zz 0 1 false:=rfl;have p:zz 0 2 false:=rfl;have q:zz 0 3 false:=rfl;have r:zz 0 4 false:=rfl;have t:zz 0 5 false:=rfl;have i:cm 3 (bQ 0 (ceL (eE 0 ⟨a,b,d⟩)))=ceL (eE 0 ⟨a,b,d⟩):=rfl;refine Y40 ?_;refine Y2 ?_;refine an ?_ (bV (own:=true) (s:=1) rfl ?_ i rfl rfl) rfl
 ·rw[Heap.aA (by show h.next<=h.next+1;omega)];exact hr.log
 ·exact YG
def Wk(l:aK T)(k:T 186=some f267)(hr:Rdy h)(j:InB c):Pu T 186 [ceV c, zc 1] h (ceV (eE 1 c)):=by
 refine .of l k hr rfl ?_;obtain⟨a,b,d⟩:=c;obtain⟨e,f,g⟩:=j;dsimp only at e f g;have mx:=dV e;have m:=dV f;have n:=dV g;have o:zz 1 1 true:=rfl;have i:cm 3 (bQ 0 (ceL (eE 1 ⟨a,b,d⟩)))=ceL (eE 1 ⟨a,b,d⟩):=rfl;refine Y28 ?_;refine an ?_ (bV (own:=true) (s:=1) rfl ?_ i rfl rfl) rfl
 ·rw[Heap.aA (by show h.next<=h.next+1;omega)];exact hr.log
 ·exact YG
def Wl(l:aK T)(k:T 186=some f267)(hr:Rdy h)(j:InB c):Pu T 186 [ceV c, zc 2] h (ceV (eE 2 c)):=by
 refine .of l k hr rfl ?_;obtain⟨a,b,d⟩:=c;obtain⟨e,f,g⟩:=j;dsimp only at e f g;have mx:=dV e;have m:=dV f;have n:=dV g;have o:zz 2 1 false:=rfl;have p:zz 2 2 true:=rfl;have i:cm 3 (bQ 0 (ceL (eE 2 ⟨a,b,d⟩)))=ceL (eE 2 ⟨a,b,d⟩):=rfl;refine Y34 ?_;refine an ?_ (bV (own:=true) (s:=1) rfl ?_ i rfl rfl) rfl
 ·rw[Heap.aA (by show h.next<=h.next+1;omega)];exact hr.log
 ·exact YG
def Wm(l:aK T)(k:T 186=some f267)(hr:Rdy h)(j:InB c):Pu T 186 [ceV c, zc 3] h (ceV (eE 3 c)):=by
 refine .of l k hr rfl ?_;obtain⟨a,b,d⟩:=c;obtain⟨e,f,g⟩:=j;dsimp only at e f g;have mx:=dV e;have m:=dV f;have n:=dV g;have o:zz 3 1 false:=rfl;have p:zz 3 2 false:=rfl;have q:zz 3 3 true:=rfl;have i:cm 3 (bQ 0 (ceL (eE 3 ⟨a,b,d⟩)))=ceL (eE 3 ⟨a,b,d⟩):=rfl;refine Y38 ?_;refine an ?_ (bV (own:=true) (s:=1) rfl ?_ i rfl rfl) rfl
 ·rw[Heap.aA (by show h.next<=h.next+1;omega)];exact hr.log
 ·exact YG
def Wn(l:aK T)(k:T 186=some f267)(hr:Rdy h)(j:InB c):Pu T 186 [ceV c, zc 4] h (ceV (eE 4 c)):=by
 refine .of l k hr rfl ?_;obtain⟨a,b,d⟩:=c;obtain⟨e,f,g⟩:=j;dsimp only at e f g;have mx:=dV e;have m:=dV f;have n:=dV g;have o:zz 4 1 false:=rfl;have p:zz 4 2 false:=rfl;have q:zz 4 3 false:=rfl;have r:zz 4 4 true:=rfl;have i:cm 3 (bQ 0 (ceL (eE 4 ⟨a,b,d⟩)))=ceL (eE 4 ⟨a,b,d⟩):=rfl;refine Y40 ?_;refine Y3 ?_;refine an ?_ (bV (own:=true) (s:=1) rfl ?_ i rfl rfl) rfl
 ·rw[Heap.aA (by show h.next<=h.next+1;omega)];exact hr.log
 ·exact YG
def Wo(l:aK T)(k:T 186=some f267)(hr:Rdy h)(j:InB c):Pu T 186 [ceV c, zc 5] h (ceV (eE 5 c)):=by
 refine .of l k hr rfl ?_;obtain⟨a,b,d⟩:=c;obtain⟨e,f,g⟩:=j;dsimp only at e f g;have mx:=dV e;have m:=dV f;have n:=dV g;have o:zz 5 1 false:=rfl;have p:zz 5 2 false:=rfl;have q:zz 5 3 false:=rfl;have r:zz 5 4 false:=rfl;have t:zz 5 5 true:=rfl;have i:cm 3 (bQ 0 (ceL (eE 5 ⟨a,b,d⟩)))=ceL (eE 5 ⟨a,b,d⟩):=rfl;refine Y40 ?_;refine Y8 ?_;refine an ?_ (bV (own:=true) (s:=1) rfl ?_ i rfl rfl) rfl
 ·rw[Heap.aA (by show h.next<=h.next+1;omega)];exact hr.log
 ·exact YG
def Wp(d:aK T)(b:T 186=some f267)(hr:Rdy h)(a:InB c):∀k:Nat,k<6->Pu T 186 [ceV c, zc (k:Nat)] h (ceV (eE k c))
 |0,_=>Wi d b hr a
 |1,_=>Wk d b hr a
 |2,_=>Wl d b hr a
 |3,_=>Wm d b hr a
 |4,_=>Wn d b hr a
 |5,_=>Wo d b hr a
 |k+6,h=>ω
def Ll(y:aK T)(J:T 184=some f222)(p:T 186=some f267)(hr:Rdy h)(v:InB c){t:Nat}(V:t<24):Pu T 184 [ceV c, zc (t:Nat)] h (ceV (gQ t c)):=by
 refine .of y J hr rfl ?_;have f:Ext h ((h.push (qt (cellsOf (ceV c)))).push (qt [I.O,I.O,I.O])):=((Ext.refl h).push _).push _;have D:((h.push (qt (cellsOf (ceV c)))).push (qt [I.O,I.O,I.O])).get h.next=some (qt (ceL c)):=(z4 (eA _)).trans (z3 h _)
 have E:((h.push (qt (cellsOf (ceV c)))).push (qt [I.O,I.O,I.O])).get (h.next+1)=some (qt [I.O,I.O,I.O]):=z3 _ _;have n0:((h.push (qt (cellsOf (ceV c)))).push (qt [I.O,I.O,I.O])).next=h.next+2:=rfl
 refine Y4 ?_;generalize((h.push (qt (cellsOf (ceV c)))).push (qt [I.O,I.O,I.O]))=H at*;have W:=f.wf hr.wf;have S:=f.log.trans hr.log;have K:t / 4<6:=ω
 have X:af .quo (zc (t:Nat)) (zc 4)=some (zc ((t / 4:Nat):Int)):=NS ω;have Y:af .rem (zc (t:Nat)) (zc 4)=some (zc ((t % 4:Nat):Int)):=NT;have C:=Wp y p (h:=η H) (.of W) v (t / 4) K;have l:=v.Wg (t / 4);have Q:cm 3 (bQ 0 (ceL c))=ceL c:=rfl;have B:Nat.beq (bS (ceL c)) 3=true:=rfl;have M:t % 4<4:=ω
 unfold gQ;generalize hq:eE (t / 4) c=d at*;generalize t / 4=k at*;generalize hrr:t % 4=r at*;refine Y5 ?_;refine FW.pu C ?_;clear C;refine Y7 ?_
 refine aY (λm e u i=>∃j:Nat,j<=r/\r-j=m/\e=[(1, zc (t:Nat)),(2, sb h.next),(4, sb (h.next+1)),(5, zc (j:Nat))]/\u=[]/\Ext h i∧h.next+2<=i.next/\i.get h.next=some (qt (ceL (qR j d)))/\i.get (h.next+1)=some (qt [I.O,I.O,I.O]))
  ⟨0,hK _,rfl,rfl,rfl,⟨f.next,(Heap.aA ω).trans f.log,λb l=>(z5 ω).trans (f.old b l),λw=>(f.wf w).as (AS.wr h.next _ _ _)⟩,by show h.next+2<=H.next;omega,by rw[z6,D];rfl,(z5 ω).trans E⟩ ?_
 rintro m e u i ⟨j,U,rfl,rfl,rfl,x,L,F,G⟩;have o:=l.rot j;by_cases hlt:j<r
 ·have a:qR (j+1) d=HU (qR j d):=rfl;generalize qR j d=b at*;obtain⟨N,A,P⟩:=b;obtain⟨_,z,_⟩:=o;dsimp only at z;have Z:=dV z;unfold HU at a;dsimp only at a;have q:zd j r true:=dz ω;refine Y22 ?_;refine bA ?_;refine Y8 ?_;refine⟨r-(j+1),ω,j+1,ω,rfl,rfl,rfl,⟨x.next,(Heap.aA ω).trans x.log,λb l=>(z5 ω).trans (x.old b l),λw=>(x.wf w).as (AS.wr h.next _ _ _)⟩,L,?_,(z5 ω).trans G⟩;rw[z6,F,a];rfl
 ·obtain rfl:j=r:=ω
  generalize qR j d=b at*;have n:cm 3 (bQ 0 (ceL b))=ceL b:=rfl;have g:Nat.beq (bS (ceL b)) 3=true:=rfl;have q:zd j j false:=dG ω;refine Y18 ?_;refine an ?_ (bV (own:=true) (s:=1) rfl ?_ n g rfl) rfl
  ·rw[Heap.aA (by show h.next<=h.next+1;omega)];exact x.log.trans hr.log
  ·exact YG
structure Ch (T:Nat->Option aq):Prop where
 cr:Io T
 f137:T 168=some f137
 f139:T 148=some f139
 f221:T 172=some f221
 f222:T 184=some f222
 f223:T 170=some f223
 f224:T 171=some f224
 f267:T 186=some f267
def Jz(s:List Nat)(n:Int):dA (.tuple #[sv s, zc n])=true:=by
 have q:flat (sv s)=true:=rq s;show jf [sv s, zc n]=true;simp only[jf,q,cond_true];rfl
variable{α:Type}
def eY{l:List α}{j:Nat}{x:α}(h:l[j]? =some x):l.take (j+1)=l.take j++[x]:=by
 rw[ab3,h];rfl
def Lj(F:Ch T)(hr:Rdy h)(N:IsS s){t:Nat}(ht:t<24):Pu T 168 [sv s, zc (t:Nat)] h (.tuple #[sv (dY s t), zc 0]):=by
 have M:=F.cr.hr.p;refine .of M F.f137 hr (Jz _ 0) ?_;have k8:=aN N.len;have k9:=aU N.len;have U:Ext h ((h.push (qt (cellsOf (sv s)))).push (qt (aL 8 (.int .u64 0)))):=((Ext.refl h).push _).push _;have g0:((h.push (qt (cellsOf (sv s)))).push (qt (aL 8 (.int .u64 0)))).get h.next=some (qt (us s)):=YG
 have g1:((h.push (qt (cellsOf (sv s)))).push (qt (aL 8 (.int .u64 0)))).get (h.next+1)=some (qt (aL 8 (.int .u64 0))):=YG;have n0:((h.push (qt (cellsOf (sv s)))).push (qt (aL 8 (.int .u64 0)))).next=h.next+2:=rfl
 refine Y5 ?_;generalize((h.push (qt (cellsOf (sv s)))).push (qt (aL 8 (.int .u64 0))))=H at*;have W:=U.wf hr.wf;have hL:=U.log.trans hr.log;have m1:zd t 0 false:=dG ω;have m2:zs t 23 false:=gT ω;refine Y14 ?_;refine cQ (E0:=[(1, zc (t:Nat)),(2, sb h.next),(4, sb (h.next+1)),(6, sb H.next)]) (P:=λf=>Ext H f∧f.next=H.next+1/\f.get H.next=some (qt (us s0))) ?_ ?_
 ·refine Y2 ?_;refine bA ?_;refine y1 ?_;exact⟨rfl,rfl,rfl,(Ext.refl H).push _,rfl,YG⟩
 rintro I ⟨G,n1,q1⟩;have i:=U.trans G;have W1:=i.wf hr.wf;have J:=G.log.trans hL;have ga:=(G.old _ ω).trans g0;have gb:=(G.old _ ω).trans g1;have C:=uR F.cr (h:=η I) (.of W1) N;have n:∀c∈aW s 512,inG c=true:=λc A=>jt A;have aw:=jd s 512;unfold dY iD;generalize aW s 512=l at*;clear g0 g1;refine Y3 ?_;refine FW.al C (λv f m q=>q.log m) ?_;rintro v H2 E q;clear C;have r:=i.trans E;have ae:=E.log.trans J;have n2:=E.next
 have u:=(E.old _ ω).trans gb;have D:=(E.old _ ω).trans q1;obtain⟨a,Z,rfl⟩:=(q.slice ω).form;clear ga gb q1;refine Y7 ?_
 refine aY (λm e ds f=>∃j:Nat,j<=l.length/\l.length-j=m/\e=[(1, zc (t:Nat)),(4, sb (h.next+1)),(6, sb H.next),(7, .slice a l.length Z),(8, zc (j:Nat))]/\ds=[]/\Ext h f∧I.next<=f.next/\f.get (h.next+1)=some (qt (aL 8 (.int .u64 0)))/\f.get H.next=some (qt (us (mN (gQ t) (l.take j))))/\Own I.next f 3 (.slice a l.length Z) l.length (ceS l))
  ⟨0,hK _,rfl,rfl,rfl,r,n2,u,D,q⟩ ?_
 rintro m e ds f ⟨j,hj,rfl,rfl,rfl,x,hn,gc,gd,ow⟩;have Y:=x.wf hr.wf;have K:=x.log.trans hr.log;clear u D q;by_cases hlt:j<l.length
 ·obtain⟨c,A⟩:∃c,l[j]? =some c:=⟨l[j]'hlt,bx _⟩;have B:=n c (ci A);obtain⟨b,o,c2,vs,S,tt,hv,gl,ar,el,_,_,_⟩:=CeQ.elem (ow.slice ω) A;cases hv;have g:IsS (mN (gQ t) (l.take j)):=tB λd L=>oJ d (n d (yn L));have O:mN (gQ t) (l.take (j+1))=nU (mN (gQ t) (l.take j)) (gQ t c):=by rw[eY A,tC]
  generalize mN (gQ t) (l.take j)=out at*;have V:=Ll M F.f222 F.f267 (h:=η f) (.of Y) (lW.1 B) ht;have k:=oJ (t:=t) c B;generalize gQ t c=d at*;have X:=JE M F.f221 (h:=η f) (.of Y) g k;have y:=g.nU k;have k1:=aU g.len;have k2:=aN g.len;have k3:=aN y.len;have k4:=g.len;have k5:=y.len;have Q:zd j l.length true:=dz ω;refine Y17 ?_;refine qZ9 (c:=bW ρ τ τ ρ) (H:=?_);refine Y2 ?_;refine FW.puD V (by(repeat apply aB rfl);apply au rfl (ah rfl (bW ρ τ τ τ) (by exact sZ _)) rfl;exact aQ) ?_;clear V;skip;refine qC ?_;refine FW.puD X (by apply aB rfl;exact aQ) ?_;clear X;refine kg rfl rfl rfl ρ ρ ρ τ (by(simp only[aF];assumption)) (by(simp only[aF];assumption)) (by exact bZ _) ω ω (by exact aQ) ?_;refine pn ?_;refine y1 ?_;refine Nt ?_;refine wj ?_;refine Y5 ?_;refine⟨l.length-(j+1),ω,j+1,ω,rfl,rfl,rfl,⟨x.next,(Heap.aA ω).trans x.log,λb hb=>(z5 ω).trans (x.old b hb),λw=>(x.wf w).as (AS.wr h.next _ _ _)⟩,hn,(z5 ω).trans gc,?_,ow.keep (bl _) λz hz _=>z5 ω⟩;rw[O];(simp(disch:=first|omega|(simp only[z1,z2];omega))only[z3,z4,z5,z6,z7,z1,z2,gc,gl,gd];done)
 ·obtain rfl:j=l.length:=ω
  rw[wd]at gd;have g:IsS (mN (gQ t) l):=tB λd L=>oJ d (n d L);generalize mN (gQ t) l=out at*;have k1:=aU g.len;have k2:=aN g.len;have k3:=g.len;have Q:zd l.length l.length false:=dG ω;refine Y7 ?_;refine yX ?_;refine D6 ?_;refine GZ ?_;refine GZ ?_;refine Ns ?_;refine wj ?_;refine y4 ?_;refine yV ?_;refine aG (bH ρ ρ τ (by(simp only[aF];assumption)) ρ (by exact bZ _)) ?_;refine Y3 ?_;refine an ?_ (bV (own:=true) (s:=1) rfl ?_ k1 k2 rfl) rfl
  ·rw[Heap.aA (by show h.next<=h.next+1;omega)];exact K
  ·exact YG
def shC(x y z:Int)(c:Ce):Ce:=⟨c.x+x,c.y+y,c.z+z⟩
def Sh7(n:Int):Prop:= -7<=n/\n<=7
def AD(c:aK T)(b:T 170=some f223)(hr:Rdy h){n:Int}(a:Sh7 n):Pu T 170 [zc n] h (.bool true):=by
 refine .of c b hr rfl ?_;have d:zt n (-7) true:=oS a.1;have e:zp n 7 true:=fF a.2;refine Y15 ?_;exact an hr.log rfl rfl
variable{x y z:Int}
def N0(l:aK T)(j:T 171=some f224)(hr:Rdy h)(i:InB c)(m:Sh7 x)(p:Sh7 y)(t:Sh7 z):Pu T 171 [ceV c, zc x, zc y, zc z] h (ceV (shC x y z c)):=by
 refine .of l j hr rfl ?_;obtain⟨d,e,f⟩:=c;obtain⟨w,A,B⟩:=i;obtain⟨n,o⟩:=m;obtain⟨q,r⟩:=p;obtain⟨u,v⟩:=t;dsimp only at w A B;have mx:=fK (k:= .i64) (a:=d) (b:=x) (aO ω ω);have C:=fK (k:= .i64) (a:=e) (b:=y) (aO ω ω);have D:=fK (k:= .i64) (a:=f) (b:=z) (aO ω ω);have g:cm 3 (bQ 0 (ceL (shC x y z ⟨d,e,f⟩)))=ceL (shC x y z ⟨d,e,f⟩):=rfl;refine Y21 ?_;refine an ?_ (bV (own:=true) (s:=1) rfl ?_ g rfl rfl) rfl
 ·rw[Heap.aA (by show h.next<=h.next+1;omega)];exact hr.log
 ·exact YG
def Fx(F:Ch T)(hg:T 122=some f225)(hr:Rdy h)(hs:IsS s)(hx:Sh7 x)(hy:Sh7 y)(hz:Sh7 z)(i:∀c∈aW s 512,inG (shC x y z c)=true):Pu T 148 [sv s, zc x, zc y, zc z] h (.tuple #[sv (iD (shC x y z) s), zc 0]):=by
 have u:=F.cr.hr.p;refine .of u F.f139 hr (Jz _ 0) ?_;have k8:=aN hs.len;have k9:=aU hs.len;have x0:Ext h ((h.push (qt (cellsOf (sv s)))).push (qt (aL 8 (.int .u64 0)))):=((Ext.refl h).push _).push _;have g0:((h.push (qt (cellsOf (sv s)))).push (qt (aL 8 (.int .u64 0)))).get h.next=some (qt (us s)):=YG
 have g1:((h.push (qt (cellsOf (sv s)))).push (qt (aL 8 (.int .u64 0)))).get (h.next+1)=some (qt (aL 8 (.int .u64 0))):=YG;have n0:((h.push (qt (cellsOf (sv s)))).push (qt (aL 8 (.int .u64 0)))).next=h.next+2:=rfl
 refine Y5 ?_;generalize((h.push (qt (cellsOf (sv s)))).push (qt (aL 8 (.int .u64 0))))=H at*;have W:=x0.wf hr.wf;have hL:=x0.log.trans hr.log;have C:=uR F.cr (h:=η H) (.of W) hs;have ae:∀c∈aW s 512,inG c=true:=λc J=>jt J;have bo:=jd s 512;unfold iD;generalize aW s 512=l at*;refine Y3 ?_;refine FW.al C (λv g m q=>q.log m) ?_;rintro v f L q;clear C;have t:=x0.trans L;have Q:=t.wf hr.wf;have be:=L.log.trans hL;have n2:=L.next
 have E:=(L.old _ ω).trans g1;obtain⟨a,S,rfl⟩:=(q.slice ω).form;have A:=AD u F.f223 (h:=η f) (.of Q) hx;have B:=AD u F.f223 (h:=η f) (.of Q) hy;have D:=AD u F.f223 (h:=η f) (.of Q) hz;clear g0 g1;refine Y2 ?_;refine cQ (E0:=[(1, zc x),(2, zc y),(3, zc z),(8, sb (h.next+1)),(10, .slice a l.length S),(33, .bool false)]) (P:=λg=>f=g) ?_ ?_
 ·by_cases hl:l.length=0
  ·have m1:zs l.length 0 false:=gT ω;refine Y22 ?_;exact⟨rfl,rfl,rfl,rfl⟩
  ·have m1:zs l.length 0 true:=fh ω;refine Y9 ?_;refine FW.pu A ?_;refine Y8 ?_;refine FW.pu B ?_;refine Y10 ?_;refine FW.pu D ?_;refine Y8 ?_;exact⟨rfl,rfl,rfl,rfl⟩
 rintro _ rfl;clear A B D;have x3:Ext f (f.push (qt (aL 8 (.int .u64 0)))):=(Ext.refl f).push _;have q3:(f.push (qt (aL 8 (.int .u64 0)))).get f.next=some (qt (us s0)):=z3 _ _
 have n3:(f.push (qt (aL 8 (.int .u64 0)))).next=f.next+1:=rfl
 refine Y3 ?_;generalize(f.push (qt (aL 8 (.int .u64 0))))=H3 at*;refine Y5 ?_
 refine aY (λm e ds g=>∃j:Nat,j<=l.length/\l.length-j=m/\e=[(1, zc x),(2, zc y),(3, zc z),(8, sb (h.next+1)),(10, .slice a l.length S),(11, sb f.next),(12, zc (j:Nat))]/\ds=[]/\Ext f g∧f.next<g.next/\g.get f.next=some (qt (us (mN (shC x y z) (l.take j)))))
  ⟨0,hK _,rfl,rfl,rfl,x3,ω,q3⟩ ?_
 rintro m e ds g ⟨j,hj,rfl,rfl,rfl,N,hn,U⟩;have ey:=t.trans N;have Wh:=ey.wf hr.wf;have G:=ey.log.trans hr.log;have gc:=(N.old _ ω).trans E;clear q3 x3;by_cases hlt:j<l.length
 ·obtain⟨c,J⟩:∃c,l[j]? =some c:=⟨l[j]'hlt,bx _⟩;have K:=ci J;have Y:=ae c K;have k:=i c K;obtain⟨b,o,c2,vs,aE,tt,hv,gl,bj,el,_,_,_⟩:=CeQ.elem ((q.slice ω).ext N) J;cases hv;have n:IsS (mN (shC x y z) (l.take j)):=tB λd Z=>i d (yn Z);have ar:mN (shC x y z) (l.take (j+1))=nU (mN (shC x y z) (l.take j)) (shC x y z c):=by rw[eY J,tC]
  generalize mN (shC x y z) (l.take j)=out at*;have A:=N0 u F.f224 (h:=η g) (.of Wh) (lW.1 Y) hx hy hz;generalize shC x y z c=d at*;have k1:=aU n.len;have k2:=aN n.len;have k4:=n.len;have aw:zd j l.length true:=dz ω;refine Y12 ?_;refine cQ (E0:=[(1, zc x),(2, zc y),(3, zc z),(8, sb (h.next+1)),(10, .slice (some ⟨b,o,none⟩) l.length S),(11, sb f.next),(12, zc (j:Nat)),(13, sb g.next)]) (P:=λX=>Ext g X/\X.next=g.next+1/\X.get g.next=some (qt (ceL d))) ?_ ?_
  ·refine Y4 ?_;refine aG (bW ρ τ τ ρ) ?_;refine Y4 ?_;refine FW.pu A ?_;clear A;refine Y2 ?_;refine bA ?_;refine y1 ?_;exact⟨rfl,rfl,rfl,ff ω _ _,rfl,iW _ _⟩
  rintro O ⟨M,n4,g4⟩;clear A;have W4:=M.wf Wh;have L4:=M.log.trans G;have V:=(M.old _ ω).trans U;have B:=Bw u hg (h:=η O) (.of W4) d;rw[k]at B;have D:=JE u F.f221 (h:=η O) (.of W4) n k;have I:=n.nU k;have k3:=aN I.len;have k5:=I.len;have ck:cm 3 (bQ 0 (ceL d))=ceL d:=rfl;have ba:Nat.beq (bS (ceL d)) 3=true:=rfl;clear U gl;refine Y4 ?_;refine FW.pu B ?_;clear B;refine Y9 ?_;refine FW.pu D ?_;clear D;refine aG (bH ρ ρ τ (by(simp only[aF];assumption)) (by(simp only[aF];assumption)) (by exact bZ _)) ?_;refine bA ?_;refine y1 ?_;refine Nt ?_;refine wj ?_;refine tQ ?_;refine yM ?_;refine Y3 ?_;have r:=N.trans M;refine⟨l.length-(j+1),ω,j+1,ω,rfl,rfl,rfl,⟨r.next,(Heap.aA ω).trans r.log,λb hb=>(z5 ω).trans (r.old b hb),λw=>(r.wf w).as (AS.wr h.next _ _ _)⟩,by show f.next<O.next;omega,?_⟩;rw[ar];(simp(disch:=first|omega|(simp only[z1,z2];omega))only[z3,z4,z5,z6,z7,z1,z2,E,gc,g4,V];done)
 ·obtain rfl:j=l.length:=ω
  rw[wd]at U;have n:IsS (mN (shC x y z) l):=tB λd Z=>i d Z;generalize mN (shC x y z) l=out at*;have k1:=aU n.len;have k2:=aN n.len;have k3:=n.len;have aw:zd l.length l.length false:=dG ω;refine Y7 ?_;refine yX ?_;refine D6 ?_;refine GZ ?_;refine GZ ?_;refine Ns ?_;refine wj ?_;refine y4 ?_;refine yV ?_;refine aG (bH ρ ρ τ (by(simp only[aF];assumption)) ρ (by exact bZ _)) ?_;refine Y3 ?_;refine an ?_ (bV (own:=true) (s:=1) rfl ?_ k1 k2 rfl) rfl
  ·rw[Heap.aA (by show h.next<=h.next+1;omega)];exact G
  ·exact YG
def Bl(b:IsS s)(h:aW s 512=[]):s=s0:=by
 refine ya b BP λz i c a=> ?_;rw[oE];cases hc:eU s (fk z i)with
 |false=>rfl
 |true=>
  have:fk z i∈aW s 512:=List.mem_filter.2 ⟨List.mem_map.2 ⟨z*64+i,List.mem_range.2 ω,Ct a⟩,hc⟩;rw[h]at this;cases this
def Mx:aW s0 512=[]:=by
 rw[aW,List.filter_eq_nil_iff];intro c _;rw[oE];simp
def Mr(a:InB c):rH ⟨c,c⟩ c=rH bx0 c:=by
 obtain⟨f,g,h⟩:=c;obtain⟨b,d,e⟩:=a;dsimp only at b d e;unfold rH bx0 mi mx;dsimp only;congr 1<;>congr 1<;>(repeat' split)<;>omega
def JU(a:InB c)(l:List Ce):(c::l).foldl rH ⟨c,c⟩=bxS (c::l):=by
 unfold bxS;rw[ab0,ab0,Mr a]
def Bh(F:Ch T)(hf:T 147=some f138)(hr:Rdy h)(E:IsS s):Pu T 147 [sv s] h (JQ (cA s)):=by
 have hp:=F.cr.hr.p;refine .of hp hf hr rfl ?_;have k8:=aN E.len;have k9:=aU E.len;have Y:Ext h ((h.push (qt (cellsOf (sv s)))).push (qt [I.O,I.O,I.O,I.O,I.O,I.O])):=((Ext.refl h).push _).push _;have g0:((h.push (qt (cellsOf (sv s)))).push (qt [I.O,I.O,I.O,I.O,I.O,I.O])).get h.next=some (qt (us s)):=(z4 (eA _)).trans (z3 h _)
 have g1:((h.push (qt (cellsOf (sv s)))).push (qt [I.O,I.O,I.O,I.O,I.O,I.O])).get (h.next+1)=some (qt [I.O,I.O,I.O,I.O,I.O,I.O]):=z3 _ _;have n0:((h.push (qt (cellsOf (sv s)))).push (qt [I.O,I.O,I.O,I.O,I.O,I.O])).next=h.next+2:=rfl
 refine Y5 ?_;generalize((h.push (qt (cellsOf (sv s)))).push (qt [I.O,I.O,I.O,I.O,I.O,I.O]))=H at*;have W:=Y.wf hr.wf;have hL:=Y.log.trans hr.log;have C:=uR F.cr (h:=η H) (.of W) E;have U:∀c∈aW s 512,inG c=true:=λc D=>jt D;have bj:=jd s 512;have n:aW s 512=[]↔s=s0:=⟨Bl E,λe=>by rw[e];exact Mx⟩;have S:cA s=if aW s 512=[]then(⟨c0,c0⟩,false)else(bxS (aW s 512),true):=by
  unfold cA;by_cases e:s=s0
  ·rw[if_pos e,if_pos (n.2 e)]
  ·rw[if_neg e,if_neg (λq=>e (n.1 q))]
 rw[S];generalize aW s 512=l at*;refine Y3 ?_;refine FW.al C (λv g m q=>q.log m) ?_;rintro v f G q;clear C;have k:=Y.trans G;have W2:=k.wf hr.wf;have M:=G.log.trans hL;have n2:=G.next
 have L:=(G.old _ ω).trans g1;clear g0 g1;cases l with
 |nil=>
  obtain rfl:v= .slice none 0 0:=by
   cases q with
   |nil=>rfl
   |full a b c d e=>exact absurd rfl e
  rw[if_pos rfl];have J:cm 6 (bQ 0 (bxL ⟨c0,c0⟩))=bxL ⟨c0,c0⟩:=rfl;refine Y16 ?_;refine an ?_ (bV (own:=true) (s:=1) (l:=bxL ⟨c0,c0⟩) rfl ?_ J rfl rfl) rfl
  ·rw[Heap.aA (by show h.next<=h.next+1;omega)];exact M
  ·exact YG
 |cons d r=>
  rw[if_neg (by simp)];have hd:=lW.1 (U d b7);rw[←JU hd r];have qs:=q.slice ω;obtain⟨b,o,Z,vs,y,tt,rfl,gl,Q,el,_,_,_⟩:=CeQ.elem (i:=0) (x:=d) qs rfl;clear q;generalize hl:d::r=l at*;have be:0<l.length:=by rw[←hl];simp
  clear hl;have m0:zz l.length 0 false:=jH ω;have A:=ff (h:=f) (base:=h.next) ω (qt [I.O,I.O,I.O,I.O,I.O,I.O]) (qt (bxL ⟨d,d⟩));have u:=iW (h:=f) (base:=h.next) [I.O,I.O,I.O,I.O,I.O,I.O] (bxL ⟨d,d⟩);have aw:cm 6 (bQ 0 (bxL ⟨d,d⟩))=bxL ⟨d,d⟩:=rfl;refine Y11 ?_;refine cQ (E0:=[(2, sb (h.next+1)),(4, .slice (some ⟨b,o,none⟩) l.length Z),(5, sb f.next)]) (P:=λg=>Ext f g∧f.next<g.next/\g.get f.next=some (qt (bxL ⟨d,d⟩))) ?_ ?_
  ·refine Y3 ?_;refine qZ9 (c:=bW ρ τ τ ρ) (H:=?_);refine Y2 ?_;refine qZ9 (c:=bW ρ τ τ ρ) (H:=?_);refine qZ9 (c:=mS ρ) (H:=?_);refine ru rfl rfl rfl ρ ρ ρ wT (by refine bY (ah rfl (mS ρ) (by refine mP ?_;refine cD (eT _ _) ?_;refine cD (eT _ _) ?_;refine cD (eT _ _) ?_;refine cD (eT _ _) ?_;refine cD (eT _ _) ?_;refine cD (eT _ _) ?_;exact iq)) ?_;refine bY (ah rfl (bW ρ YG τ ρ) (by refine mP ?_;refine cD (eT _ _) ?_;refine cD (eT _ _) ?_;refine cD (eT _ _) ?_;exact iq)) ?_;refine bY (ah rfl (gU ρ ρ ω) (by exact bh _)) ?_;refine bY (ah rfl (dM ρ) (by exact dw _ _ _)) ?_;refine bY (ah rfl (bW ρ YG τ ρ) (by refine mP ?_;refine cD (eT _ _) ?_;refine cD (eT _ _) ?_;refine cD (eT _ _) ?_;exact iq)) ?_;refine bY (ah rfl (gU ρ ρ ω) (by exact bh _)) ?_;refine bY (ah rfl (dM ρ) (by exact dw _ _ _)) ?_;exact qT) ?_;refine jU rfl rfl rfl ρ ρ ρ YG ρ ρ (by(simp only[z1,z2];omega)) ω (by(repeat apply aB rfl);exact aQ) ?_;refine Y2 ?_;exact⟨rfl,rfl,rfl,A,eA _,u⟩
  clear A u;rintro H5 ⟨A,n5,u⟩;clear gl el;refine Y5 ?_
  refine aY (λm e ds g=>∃j:Nat,j<=l.length/\l.length-j=m/\e=[(2, sb (h.next+1)),(4, .slice (some ⟨b,o,none⟩) l.length Z),(5, sb f.next),(6, zc (j:Nat))]/\ds=[]/\Ext f g∧f.next<g.next/\g.get f.next=some (qt (bxL ((l.take j).foldl rH ⟨d,d⟩))))
   ⟨0,hK _,rfl,rfl,rfl,A,n5,u⟩ ?_
  rintro m e ds g ⟨j,hj,rfl,rfl,rfl,t,hn,B⟩;have ey:=k.trans t;have Wh:=ey.wf hr.wf;have N:=ey.log.trans hr.log;have gc:=(t.old _ ω).trans L;clear u A n5;by_cases hlt:j<l.length
  ·obtain⟨c,D⟩:∃c,l[j]? =some c:=⟨l[j]'hlt,bx _⟩;obtain⟨b',o',c2,cd,ar,bo,hv,gl,_,el,e1,e2,e3⟩:=CeQ.elem (qs.ext t) D;cases hv;have V:(l.take (j+1)).foldl rH ⟨d,d⟩=rH ((l.take j).foldl rH ⟨d,d⟩) c:=by rw[eY D,yr];rfl
   generalize(l.take j).foldl rH ⟨d,d⟩=bb at*;have X:zd j l.length true:=dz ω;have ba:b<f.next:=Q
   obtain⟨⟨x1,aE,cJ⟩,⟨cj,ae,cX⟩⟩:=bb;obtain⟨cx,cy,cz⟩:=c;dsimp only at e1 e2 e3;unfold bxL ceL at B;dsimp only[SW,D4]at B;clear gc;refine Y25 ?_;refine jU rfl rfl rfl ρ ρ ρ τ ρ ρ ω ω (by(repeat apply aB rfl);exact aQ) ?_;refine pn ?_;refine Y11 ?_;refine qZ9 (c:=cw ρ YG τ) (H:=?_);refine Y3 ?_;refine jU rfl rfl rfl ρ ρ ρ YG ρ ρ (by(simp only[z1,z2];omega)) ω (by(repeat apply aB rfl);exact aQ) ?_;refine Y12 ?_;refine qZ9 (c:=cw ρ YG τ) (H:=?_);refine Y3 ?_;refine jU rfl rfl rfl ρ ρ ρ YG ρ ρ (by(simp only[z1,z2];omega)) ω (by(repeat apply aB rfl);exact aQ) ?_;refine Y12 ?_;refine qZ9 (c:=cw ρ YG τ) (H:=?_);refine Y3 ?_;refine jU rfl rfl rfl ρ ρ ρ YG ρ ρ (by(simp only[z1,z2];omega)) ω (by(repeat apply aB rfl);exact aQ) ?_;refine Y12 ?_;refine qZ9 (c:=cw ρ YG τ) (H:=?_);refine Y3 ?_;refine jU rfl rfl rfl ρ ρ ρ YG ρ ρ (by(simp only[z1,z2];omega)) ω (by(repeat apply aB rfl);exact aQ) ?_;refine Y11 ?_;refine qZ9 (c:=cw ρ YG τ) (H:=?_);refine Y3 ?_;refine jU rfl rfl rfl ρ ρ ρ YG ρ ρ (by(simp only[z1,z2];omega)) ω (by(repeat apply aB rfl);exact aQ) ?_;refine Y9 ?_;refine⟨l.length-(j+1),ω,j+1,ω,rfl,rfl,rfl,⟨t.next,?_,λz hz=> ?_,λw=> ?_⟩,hn,?_⟩
   ·rw[Heap.aA ω,Heap.aA ω,Heap.aA ω,Heap.aA ω,Heap.aA ω,Heap.aA ω];exact t.log
   ·simp only[z5 (show z≠f.next by omega)];exact t.old z hz
   ·exact((((((t.wf w).as (AS.wr h.next _ _ _)).as (AS.wr h.next _ _ _)).as (AS.wr h.next _ _ _)).as (AS.wr h.next _ _ _)).as (AS.wr h.next _ _ _)).as (AS.wr h.next _ _ _)
   ·rw[V];exact(Heap.aM (Heap.aM (Heap.aM (Heap.aM (Heap.aM (Heap.aM (B))))))).trans rfl
  ·obtain rfl:j=l.length:=ω
   rw[wd]at B;generalize l.foldl rH ⟨d,d⟩=bb at*;have ck:cm 6 (bQ 0 (bxL bb))=bxL bb:=rfl;have K:Nat.beq (bS (bxL bb)) 6=true:=rfl;have X:zd l.length l.length false:=dG ω;refine Y19 ?_;refine an ?_ (bV (own:=true) (s:=1) (l:=bxL bb) rfl ?_ ck K rfl) rfl
   ·rw[Heap.aA (by show h.next<=h.next+1;omega)];exact N
   ·exact YG
def EG{z z' a:Nat}(h:fk z i=fk z' a):z=z'∧i=a:=by
 unfold fk at h;injection h with h1 h2 h3
 omega
def SX(l:IsS o){d:Ce}(b:inG d=true)(c:Ce):eU (nU o d) c=(eU o c||decide (c=d)):=by
 by_cases hc:inG c=true
 ·obtain⟨z,i,g,f,rfl⟩:=iP hc;obtain⟨m,j,k,h,rfl⟩:=iP b;rw[gi g f,gi g f,yd o h];by_cases e:m=z
  ·subst e;have a:(o.set m (Nat.lor (o.getD m 0) (2 ^ j))).getD m 0=Nat.lor (o.getD m 0) (2 ^ j):=by
    rw[dn,UV (by rw[l.len];exact k)];rfl
   rw[a];show Nat.testBit (o.getD m 0|||2 ^ j) i=_;rw[Nat.testBit_or,Nat.testBit_two_pow];congr 1;by_cases e2:j=i
   ·subst e2;simp
   ·rw[decide_eq_false e2,decide_eq_false (λq=>e2 (EG q).2.symm)]
  ·have a:(o.set m (Nat.lor (o.getD m 0) (2 ^ j))).getD z 0=o.getD z 0:=by
    rw[dn,So e,←List.getD_eq_getElem?_getD]
   rw[a,decide_eq_false (λq=>e (EG q).1.symm),Bool.or_false]
 ·rw[gX hc,gX hc,decide_eq_false (λ(q:c=d)=>hc (by rw[q];exact b))];rfl
variable{f:Ce->Ce}
def NU(c:Ce):∀{l:List Ce},(∀x∈l,inG (f x)=true)->(eU (mN f l) c=true↔ ∃x∈l,f x=c):=by
 intro l;have:∀(l:List Ce) (o:List Nat),IsS o->(∀x∈l,inG (f x)=true)->(eU (l.foldl (λo c=>nU o (f c)) o) c=true↔eU o c=true∨∃x∈l,f x=c):=by
  intro l;induction l with
  |nil=>intro o _ _;simp
  |cons d l ih=>
   intro o g b;rw[ab0,ih _ (g.nU (b d b7)) λx a=>b x (bz _ a),SX g (b d b7),wp,decide_eq_true_eq];constructor
   ·rintro((h|h)|⟨x,a,h⟩)
    ·exact .inl h
    ·exact .inr ⟨d,b7,h.symm⟩
    ·exact .inr ⟨x,bz _ a,h⟩
   ·rintro(h|⟨x,a,h⟩)
    ·exact .inl (.inl h)
    ·rcases List.mem_cons.1 a with rfl|a
     ·exact .inl (.inr h.symm)
     ·exact .inr ⟨x,a,h⟩
 intro b;have e:=this l s0 BP b;rw[oE]at e;simpa[mN]using e
def dZ:c∈aW s 512↔eU s c=true:=by
 constructor
 ·intro h;exact(List.mem_filter.1 h).2
 ·intro h;have a:inG c=true:=by
   cases hq:inG c with
   |true=>rfl
   |false=>rw[gX (by rw[hq];simp)]at h;cases h
  obtain⟨z,i,d,b,rfl⟩:=iP a;exact List.mem_filter.2 ⟨Mw d b,h⟩
def jS(h:∀x∈aW s 512,inG (f x)=true)(c:Ce):eU (iD f s) c=true↔ ∃x,eU s x=true/\f x=c:=by
 unfold iD;rw[NU c h];constructor
 ·rintro⟨x,a,e⟩;exact⟨x,dZ.1 a,e⟩
 ·rintro⟨x,a,e⟩;exact⟨x,dZ.2 a,e⟩
def Tn{p:Nat}(hi:i<64):Nat.testBit (shP p k) i=(decide (0<=(i:Int)-k)&&Nat.testBit p ((i:Int)-k).toNat):=by
 unfold shP;split
 ·rename_i h;show Nat.testBit ((p<<<k.toNat) % 2 ^ 64) i=_;rw[Nat.testBit_mod_two_pow,decide_eq_true hi,yi,Nat.testBit_shiftLeft];by_cases hk:k.toNat<=i
  ·rw[decide_eq_true (show i≥k.toNat from hk),decide_eq_true (show 0<=(i:Int)-k by omega),show((i:Int)-k).toNat=i-k.toNat by omega]
  ·rw[decide_eq_false (show¬i≥k.toNat from hk),decide_eq_false (show¬0<=(i:Int)-k by omega)];rfl
 ·rename_i h;show Nat.testBit (p>>>(-k).toNat) i=_;rw[Nat.testBit_shiftRight,decide_eq_true (show 0<=(i:Int)-k by omega),show((i:Int)-k).toNat=(-k).toNat+i by omega];rfl
def zF{s:List Nat}(b:IsS s){a:Nat}{z k:Int}:∀{n:Nat},0<=(a:Int)+z->(a:Int)+z+(n:Nat)<=8->∀m:Nat,m<8→
 (mE s a z k n).getD m 0=if(a:Int)+z<=(m:Int)/\(m:Int)<(a:Int)+z+(n:Nat)then shP (s.getD ((m:Int)-z).toNat 0) k else 0
 |0,_,_,m,hm=>by
  rw[if_neg ω];have:∀z:Fin 8,s0.getD z.val 0=0:=by decide
  exact this ⟨m,hm⟩
 |n+1,h1,h2,m,hm=>by
  have c:=zF (k:=k) b (n:=n) h1 ω m hm;unfold mE;by_cases e:(((a+n:Nat):Int)+z).toNat=m
  ·rw[dn,e,UV (by rw[(pP b a z k n).len];exact hm),if_pos ω];show shP (s.getD (a+n) 0) k=_;rw[show((m:Int)-z).toNat=a+n by omega]
  ·rw[dn,So e,←List.getD_eq_getElem?_getD,c];by_cases q:(a:Int)+z<=(m:Int)/\(m:Int)<(a:Int)+z+(n:Nat)
   ·rw[if_pos q,if_pos ω]
   ·rw[if_neg q,if_neg ω]
def Rg{x:Nat}(a:x<U64)(h:x.testBit i=true):i<64:=by
 rcases Hk i 64 with hi|hi
 ·exact hi
 ·rw[Nat.testBit_lt_two_pow (m6 a (show 2 ^ 64<=2 ^ i from xl ω hi))]at h;cases h
def om{s:List Nat}{c:Ce}(h:eU s c=true):((cA s).1.lo.x<=c.x/\c.x<=(cA s).1.hi.x)/\((cA s).1.lo.y<=c.y/\c.y<=(cA s).1.hi.y)/\((cA s).1.lo.z<=c.z/\c.z<=(cA s).1.hi.z):=by
 have a:=dZ.2 h;have b:¬s=s0:=λq=>by rw[q,oE]at h;cases h
 have e:(cA s).1=bxS (aW s 512):=by unfold cA;rw[if_neg b]
 rw[e,GN];exact⟨⟨(CX (·.x) _ 7).2 c a,(CT (·.x) _ 0).2 c a⟩,⟨(CX (·.y) _ 7).2 c a,(CT (·.y) _ 0).2 c a⟩,⟨(CX (·.z) _ 7).2 c a,(CT (·.z) _ 0).2 c a⟩⟩
def UW(b:¬s=s0)(d:x<=7)(f:y<=7)(g:z<=7)(h:∀c,eU s c=true->x<=c.x/\y<=c.y/\z<=c.z):x<=(cA s).1.lo.x/\y<=(cA s).1.lo.y/\z<=(cA s).1.lo.z:=by
 have e:(cA s).1=bxS (aW s 512):=by unfold cA;rw[if_neg b]
 rw[e,GN];exact⟨CV (·.x) _ 7 d λc a=>(h c (dZ.1 a)).1,CV (·.y) _ 7 f λc a=>(h c (dZ.1 a)).2.1,CV (·.z) _ 7 g λc a=>(h c (dZ.1 a)).2.2⟩
def GM(b:¬s=s0)(d:0<=x)(f:0<=y)(g:0<=z)(h:∀c,eU s c=true->c.x<=x/\c.y<=y/\c.z<=z):(cA s).1.hi.x<=x/\(cA s).1.hi.y<=y/\(cA s).1.hi.z<=z:=by
 have e:(cA s).1=bxS (aW s 512):=by unfold cA;rw[if_neg b]
 rw[e,GN];exact⟨CU (·.x) _ 0 d λc a=>(h c (dZ.1 a)).1,CU (·.y) _ 0 f λc a=>(h c (dZ.1 a)).2.1,CU (·.z) _ 0 g λc a=>(h c (dZ.1 a)).2.2⟩
def Nd(h:eU s c=true):inG c=true:=by
 cases hq:inG c with
 |true=>rfl
 |false=>rw[gX (by rw[hq];simp)]at h;cases h
def p8(b:IsS s)(a:¬s=s0):∃c,eU s c=true:=by
 cases hl:aW s 512 with
 |nil=>exact absurd (Bl b hl) a
 |cons c l=>exact⟨c,dZ.1 (by rw[hl];exact b7)⟩
structure Rng (b:Bx) (x y z:Int):Prop where
 x:0<=b.lo.x+x/\b.hi.x+x<=7
 y:0<=b.lo.y+y/\b.hi.y+y<=7
 z:0<=b.lo.z+z/\b.hi.z+z<=7
def Rng.all(r:Rng (cA s).1 x y z)(h:eU s c=true):inG (shC x y z c)=true:=by
 obtain⟨a,b,d⟩:=om h;obtain⟨e,f,g⟩:=r;refine lW.2 ⟨?_,?_,?_⟩<;>(unfold shC;dsimp only;omega)
def NI(p:IsS s)(r:Rng (cA s).1 x y z){m:Nat}(l:m<8)(hi:i<64):
 eU (mR s (cA s).1 x y z) (fk m i)=true↔ ∃c,eU s c=true/\shC x y z c=fk m i:=by
 have j:∀c,eU s c=true->inG (shC x y z c)=true:=λc a=>r.all a;have k:=λc a=> @om s c a;obtain⟨⟨C,D,E⟩,⟨w,A,B⟩⟩:=iG s;obtain⟨_,_,L⟩:=r;unfold mR;generalize(cA s).1=b at*;rw[gi l hi];by_cases hlh:b.lo.z<=b.hi.z
 ·rw[zF p ω ω m l];have d:((b.lo.z.toNat:Int)+z<=(m:Int)/\(m:Int)<(b.lo.z.toNat:Int)+z+((b.hi.z-b.lo.z+1).toNat:Nat))↔(b.lo.z+z<=m/\(m:Int)<=b.hi.z+z):=ω
  by_cases hq:b.lo.z+z<=m/\(m:Int)<=b.hi.z+z
  ·rw[if_pos (d.2 hq),Tn hi,gk,decide_eq_true_eq];constructor
   ·rintro⟨J,o⟩;have f:=Rg (p.lV _) o;have g:((m:Int)-z).toNat<8:=ω
    have a:eU s (fk ((m:Int)-z).toNat ((i:Int)-(8*y+x)).toNat)=true:=by rw[gi g f];exact o
    refine⟨_,a,?_⟩;obtain⟨t,u,v⟩:=lW.1 (j _ a);unfold shC fk at t u v⊢;dsimp only at t u v⊢;congr 1<;>omega
   ·rintro⟨c,a,e⟩;obtain⟨I,H,g,f,rfl⟩:=iP (Nd a);rw[gi g f]at a;unfold shC fk at e;injection e with e1 e2 e3
    dsimp only at e1 e2 e3;have F:((m:Int)-z).toNat=I:=ω
    have G:((i:Int)-(8*y+x)).toNat=H:=ω
    rw[F,G];exact⟨ω,a⟩
  ·rw[if_neg (λq=>hq (d.1 q)),Nat.zero_testBit];constructor
   ·intro h;cases h
   ·rintro⟨c,a,e⟩;obtain⟨_,_,K⟩:=k c a;unfold shC fk at e;injection e with e1 e2 e3
    exact absurd ⟨ω,ω⟩ hq
 ·have n:∀c,¬eU s c=true:=λc a=>by have:=(k c a).2.2;omega
  rw[show(b.hi.z-b.lo.z+1).toNat=0 by omega];constructor
  ·intro h;unfold mE at h;have:∀z:Fin 8,s0.getD z.val 0=0:=by decide
   rw[this ⟨m,l⟩,Nat.zero_testBit]at h;cases h
  ·rintro⟨c,a,_⟩;exact absurd a (n c)
def nR(r:Rng (cA s).1 x y z):IsS (iD (shC x y z) s):=tB λc a=>r.all (dZ.1 a)
def I5(d:IsS s)(r:Rng (cA s).1 x y z):mR s (cA s).1 x y z=iD (shC x y z) s:=by
 refine ya (pP d _ _ _ _) (nR r) λm i h g=> ?_;have a:=NI d r h g;have b:=jS (f:=shC x y z) (s:=s) (λc e=>r.all (dZ.1 e)) (fk m i);cases h1:eU (mR s (cA s).1 x y z) (fk m i)with
 |true=>rw[b.2 (a.1 h1)]
 |false=>
  cases h2:eU (iD (shC x y z) s) (fk m i)with
  |false=>rfl
  |true=>rw[a.2 (b.1 h2)]at h1;cases h1
def Eg{lo hi:Int}:z∈zr lo hi↔lo<=z/\z<=hi:=by
 constructor
 ·intro h;obtain⟨n,b,rfl⟩:=List.mem_map.1 h;have:=List.mem_range.1 b;omega
 ·rintro⟨c,a⟩;exact Eh (n:=(z-lo).toNat) ω a
structure Uk (T:Nat->Option aq):Prop where
 tr:Ch T
 f52:T 85=some f52
 f84:T 12=some f84
 f138:T 147=some f138
 f140:T 119=some f140
 f225:T 122=some f225
def He{a:Int}(h:0<=a/\a<=7):vH .neg (zc a)=some (zc (-a)):=by
 simp only[vH,Int.zero_sub];rw[aO ω ω]
def L5{l:List α}{x:α}{p:α->Bool}(h:l.any p=false)(a:p x=false):(l++[x]).any p=false:=by
 rw[QR,h];simp[a]
def ssL(l:List (List Nat)):List Value:=l.flatMap us
structure SsQ (h:Heap) (v:Value) (l:List (List Nat)):Prop where
 sl:aH h 8 v l.length (ssL l)
 ok:∀s∈l,IsS s
def SsQ.ext{h h':Heap}{v:Value}{l:List (List Nat)}(s:SsQ h v l)(x:Ext h h'):SsQ h' v l:=⟨s.sl.ext x,s.ok⟩
def SsQ.log{h:Heap}{v:Value}{l:List (List Nat)}(s:SsQ h v l)(m:List Nat):SsQ {h with log:=m} v l:=⟨s.sl.log m,s.ok⟩
def Jv:∀{l:List (List Nat)} {i:Nat} {x:List Nat},(∀s∈l,IsS s)->l[i]? =some x->((ssL l).drop (i*8)).take 8=us x
 |[],i,x,_,h=>by simp at h
 |c::l,0,x,hl,h=>by
  simp at h;subst h;have e:ssL (c::l)=us c++ssL l:=rfl;have a:(us c).length=8:=by rw[aF,(hl c b7).len]
  rw[e,I0,ww,q9 ω,go ω]
 |c::l,i+1,x,hl,h=>by
  have e:ssL (c::l)=us c++ssL l:=rfl;have a:(us c).length=8:=by rw[aF,(hl c b7).len]
  have b:(us c++ssL l).drop 8=ssL l:=by rw[←a];exact List.drop_left
  rw[e,show(i+1)*8=8+i*8 by omega,←List.drop_drop,b];exact Jv (λs d=>hl s (bz _ d)) (by simpa using h)
variable{l:List (List Nat)}
def SsQ.elem(s:SsQ h v l){x:List Nat}(hi:l[i]? =some x):
 ∃b o c d a t,v= .slice (some ⟨b,o,none⟩) l.length c/\h.get b=some (.cells d a t)/\b<h.next/\cm 8 (bQ (o+i*8) d)=us x:=by
 have g:=(List.getElem?_eq_some_iff.1 hi).1;rcases aH.inv s.sl with⟨_,_,h0,_⟩|⟨b,o,cap,hv,s1,hc⟩
 ·omega
 ·obtain⟨d,a,t,e,f⟩:=s1.obj;refine⟨b,o,cap,d,a,t,hv,e,s1.lt,?_⟩;rw[←Jv s.ok hi,←f];simp only[bw,aT,ab7,ab8,Co];congr 1;omega
def FI(l:List (List Nat)):Int:=if 6<l.length then 2 else if l.any (λs=>decide (s=s0))then 1 else 0
def OM(u:aK T)(t:T 75=some f93)(hr:Rdy h){a:Option Addr}{n c:Nat}(s:SsQ h (.slice a n c) l)(B:n<1000000):Pu T 75 [.slice a n c] h (zc (FI l)):=by
 refine .of u t hr rfl ?_;obtain rfl:n=l.length:=by
  rcases aH.inv s.sl with⟨_,g,h0,_⟩|⟨b,o,cap,g,s1,hc⟩
  ·cases g;exact h0.symm
  ·cases g;rfl
 unfold FI;by_cases h6:6<l.length
 ·rw[if_pos h6];have v:zs l.length 6 true:=fh ω;refine Y15 ?_;exact an hr.log rfl rfl
 rw[if_neg h6];have v:zs l.length 6 false:=gT ω;refine Y17 ?_
 refine aY (λm e p q=>∃j:Nat,j<=l.length/\l.length-j=m/\e=[(0, .slice a l.length c),(3, zc (j:Nat))]/\p=[]/\h=q∧(l.take j).any (λs=>decide (s=s0))=false)
  ⟨0,hK _,rfl,rfl,rfl,rfl,rfl⟩ ?_
 rintro m e p q ⟨j,A,rfl,rfl,rfl,rfl,d⟩;by_cases hlt:j<l.length
 ·obtain⟨x,i⟩:∃x,l[j]? =some x:=⟨l[j]'hlt,bx _⟩;have f:=s.ok x (ci i);obtain⟨b,o,y,E,w,D,g,gl,r,z⟩:=s.elem i;cases g;have C:=aN f.len;have k:zd j l.length true:=dz ω;by_cases h0:x=s0
  ·have e:l.any (λs=>decide (s=s0))=true:=List.any_eq_true.2 ⟨x,ci i,decide_eq_true h0⟩;rw[if_pos e];refine Y18 ?_;refine aG (jK (b:=s0) ρ ρ f.len rfl) ?_;rw[decide_eq_true h0];refine Y11 ?_;exact an hr.log rfl rfl
  ·refine Y18 ?_;refine aG (jK (b:=s0) ρ ρ f.len rfl) ?_;rw[decide_eq_false h0];refine Y10 ?_;refine⟨l.length-(j+1),ω,j+1,ω,rfl,rfl,rfl,rfl,?_⟩;rw[eY i];exact L5 d (decide_eq_false h0)
 ·obtain rfl:j=l.length:=ω
  rw[wd]at d;rw[if_neg (by rw[d];simp)];have k:zd l.length l.length false:=dG ω;refine Y17 ?_;exact an hr.log rfl rfl
def CB{e:Env}{x:Operand}(a:IsS s)(g:ev h e x=some (sv s)):jO h e (eR 1 (aL 8 (.int .u64 0))) [(0,8,x)]=some (us s):=by
 have b:cellsOf (sv s)=us s:=by show(us s).toArray.toList=_;simp
 have f:eR 1 (aL 8 (.int .u64 0))=us s0:=rfl;have c:dP (us s0) 0 (us s)=us s:=by
  rw[gH (by rw[aF,aF,a.len];decide),aF,a.len,ST];simp[us,s0]
 have d:bS (us s)=8:=by rw[cK,aF,a.len]
 rw[f];simp only[jO,g,b,c,d];rfl
structure Un (T:Nat->Option aq):Prop where
 rf:Uk T
 f31:T 74=some f31
 f93:T 75=some f93
def Xj(F:Un T)(hr:Rdy h){w:List Nat×List Nat}(c:IsW w):Pu T 74 [wV w] h (zc (if sIn w.1 w.2 then 0 else 1)):=by
 have f:=F.rf.tr.cr.hr.p;refine .of f F.f31 hr rfl ?_;have d:cellsOf (wV w)=wL w:=by show(wL w).toArray.toList=_;simp
 have j:(h.push (qt (cellsOf (wV w)))).get h.next=some (qt (wL w)):=by rw[d];exact z3 h _
 have W:WF (h.push (qt (cellsOf (wV w)))):=hr.wf.push _;have e:(h.push (qt (cellsOf (wV w)))).log=[]:=hr.log;refine Y4 ?_;generalize(h.push (qt (cellsOf (wV w))))=H at*;have C:=Av f F.rf.f52 F.rf.f140 (h:=η H) (.of W) c.a c.b;have k:=D8 c;have l:=D9 c;have g:=aN c.a.len;have i:=aN c.b.len;cases hin:sIn w.1 w.2 with
 |true=>
  rw[hin]at C;rw[if_pos rfl];refine Y7 ?_;refine FW.pu C ?_;refine Y9 ?_;exact an e rfl rfl
 |false=>
  rw[hin]at C;rw[if_neg (by simp)];refine Y7 ?_;refine FW.pu C ?_;refine Y8 ?_;exact an e rfl rfl
end Go.A.Pk
end
section
namespace Go.A
open Go.Sort
variable {P:Program}
def Uy{μ:Mu}{h:Heap}:∀(l:List Obj) {w:World},R P μ h w->R P μ h (Sort.grow w l.toArray)/\St μ h w μ h (Sort.grow w l.toArray)
 |[],w,hR=>by
  have e:Sort.grow w #[]=w:=grow_empty w;rw[e];exact⟨hR, .refl _ _ _⟩
 |o::l,w,hR=>by
  have e:Sort.grow w (o::l).toArray=Sort.grow (w.alloc o) l.toArray:=by
   rw[alloc_eq_grow,grow_grow];congr 1;apply Array.toList_inj.1;simp
  rw[e];obtain⟨a,c⟩:=hR.Kg (w':=w.alloc o) rfl;obtain⟨b,d⟩:=Uy l a;exact⟨b,c.trans d (bl _)⟩
end Go.A
end
section
namespace Go.A.Pk
open Go.Sort
variable {P:Program}
def leS(x y:List Nat):Bool:= !decide (cmpL y x<0)
def fH(l:List (List Nat)):List (List Nat):=l.mergeSort leS
def lR(l:List (List Nat)):(fH l).length=l.length:=List.length_mergeSort l
variable{l:List (List Nat)}
def iA{x:List Nat}:x∈fH l↔x∈l:=List.mem_mergeSort
def fP:∀{l:List (List Nat)},(∀s∈l,IsS s)->(ssL l).length=l.length*8
 |[],_=>rfl
 |s::l,h=>by
  have e:ssL (s::l)=us s++ssL l:=rfl;rw[e,dk,aF,(h s b7).len,fP (λx a=>h x (bz _ a)),tb];omega
variable{v:Value}
def Ju(h:v∈ssL l):∃m:Nat,v= .int .u64 (m:Nat):=by
 obtain⟨s,_,h⟩:=List.mem_flatMap.1 h;obtain⟨m,_,rfl⟩:=List.mem_map.1 h;exact⟨m,rfl⟩
def J4(k1 k2:Nat):Value->Bool
 | .func (.func k) a b=>(Nat.beq k k1||Nat.beq k k2)&&(Nat.beq (bS a.toList) 0&&Nat.beq (bS b.toList) 0)
 |_=>false
def IQ{c d:Nat}(h:J4 c d v=true):∃k,(k=c∨k=d)/\v= .func (.func k) #[] #[]:=by
 unfold J4 at h;split at h
 ·rename_i k a b;rw[gk,gk,wp,beq_eq,beq_eq,beq_eq,beq_eq,decide_eq_true_eq,decide_eq_true_eq,decide_eq_true_eq,decide_eq_true_eq,cK,cK]at h;obtain⟨g,i,j⟩:=h;have e:a= #[]:=by cases a;simpa using i
  have f:b= #[]:=by cases b;simpa using j
  subst e;subst f;exact⟨k,g,rfl⟩
 ·cases h
def BX:Nat->List Value->Option (List (List Nat))
 |0,_=>some []
 |n+1,vs=>match qG (cm 8 vs)with
  |some p=>bif Nat.beq (bS p) 8 then(match BX n (bQ 8 vs)with
   |some r=>some (p::r)
   |none=>none)else none
  |none=>none
def Ga:∀{n:Nat} {vs:List Value} {l:List (List Nat)},BX n vs=some l->l.length=n/\(∀s∈l,IsS s)/\vs=ssL l++bQ (n*8) vs
 |0,vs,l,h=>by
  cases h;refine⟨rfl,(λs a=>by cases a),?_⟩;rw[aT,I0,ww];rfl
 |n+1,vs,l,h=>by
  unfold BX at h;split at h
  ·rename_i p hp;rw[cond_eq_ite,beq_eq,cK,ec,decide_eq_true_eq]at h;obtain⟨hl,h⟩:=h;split at h
   ·rename_i r hr;cases h;obtain⟨d,f,b⟩:=Ga hr;obtain⟨c,i⟩:=uA hp;refine⟨by rw[tb,d],λs a=> ?_,?_⟩
    ·rcases List.mem_cons.1 a with rfl|a
     ·exact⟨hl,i⟩
     ·exact f s a
    ·have e:ssL (p::r)=us p++ssL r:=rfl;rw[bw]at c;rw[aT,aT]at b;rw[aT,e,←c,At];have g:vs.drop ((n+1)*8)=(vs.drop 8).drop (n*8):=by rw[Co];congr 1;omega
     rw[g,←b,Fr]
   ·cases h
  ·cases h
def F9:∀{l:List (List Nat)} {t:List Value},(∀s∈l,IsS s)->BX l.length (ssL l++t)=some l
 |[],t,_=>rfl
 |s::l,t,h=>by
  have hs:=h s b7;have e:ssL (s::l)++t=us s++(ssL l++t):=by show us s++ssL l++t=_;rw[At]
  have a:(us s).length=8:=by rw[aF,hs.len]
  have b:cm 8 (us s++(ssL l++t))=us s:=by rw[bw,←a,List.take_left]
  have c:bQ 8 (us s++(ssL l++t))=ssL l++t:=by rw[aT,←a,List.drop_left]
  have d:Nat.beq (bS s) 8=true:=by rw[cK,hs.len];rfl
  rw[e,tb,BX,b,Ab hs.lt];dsimp only;rw[d,cond_true,c,F9 λy f=>h y (bz _ f)]
def sM(k1 k2:Nat):List Value->Heap->Option (Value×Heap)
 |[.slice none 0 _,f],h=>bif J4 k1 k2 f then some (.tuple #[],h)else none
 |[.slice (some ⟨b,o,none⟩) n _,f],h=>bif J4 k1 k2 f&&(Nat.beq o 0&&Nat.blt n 1000000)then(match h.get b with
  |some (.cells vs true sz)=>match BX n vs with
   |some l=>some (.tuple #[],h.wr h.next b (.cells (ssL (fH l)++bQ (n*8) vs) true sz))
   |none=>none
  |_=>none)else none
 |_,_=>none
def Yz{μ:Mu}{k:Nat}(h:VR μ (.func (.func k) #[] #[]) v):v= .func (.func k) #[] #[]:=by
 cases h with
 |func hf h1 h2 h3 h4=>
  rename_i f' a' c';cases hf;have a:a'= #[]:=by cases a';simpa using h1.symm
  have b:c'= #[]:=by cases c';simpa using h3.symm
  rw[a,b]
def KH{f k1 k2:Nat}{fn:Func}(hf:P.funcs[f]? =some fn)(hn:fn.name≠ "runtime.NumGoroutine")(hb:fn.body.isSome=true)
 (h0:∀(k:Nat) (p:Option Addr) (cap:Nat) (w:World),Calls P f #[.slice p 0 cap, .func (.func k) #[] #[]] w λe F=>e= .returned (.tuple #[])/\F=w)
 (h1:∀(k:Nat),k=k1∨k=k2→∀(x off cap:Nat) (l:List (List Nat)) (w:World),(∀s∈l,IsS s)→Holds id w x off (ssL l).toArray→x<w.heap.size→l.length<4611686018427387904→
   Calls P f #[.slice (some ⟨x,off,none⟩) l.length cap, .func (.func k) #[] #[]] w λe F=>e= .returned (.tuple #[])/\∃n O,F=Sort.grow (putRow id (Sort.ahead w n) x off (ssL (fH l)).toArray) O):Ci P f (sM k1 k2):=by
 intro bj h v h' a _;unfold sM at a;split at a
 ·rename_i c g;rw[cond_eq_ite,ec]at a;obtain⟨C,a⟩:=a;cases a;obtain⟨k,y,rfl⟩:=IQ C;refine⟨.refl _ _,λμ w A I Z=> ?_⟩;obtain⟨x',y',rfl,hx,hy⟩:=Z.two;obtain rfl:=Yz hy;cases hx;exact lY hf hn hb (h0 _ _ _ w) λe F ⟨S,T⟩=>by subst S;subst T;exact⟨μ, .tuple rfl (λi G=>absurd G (by simp)),I, .refl _ _ _⟩
 ·rename_i b o n c g;rw[cond_eq_ite,ec,gk,gk,beq_eq,blt_eq,decide_eq_true_eq,decide_eq_true_eq]at a;obtain⟨⟨C,rfl,bo⟩,a⟩:=a;obtain⟨kf,aE,rfl⟩:=IQ C;split at a
  ·rename_i vs sz hbo;split at a
   ·rename_i l hxs;cases a;obtain⟨D,E,M⟩:=Ga hxs;have ba:(ssL l).length=n*8:=by rw[fP E,D]
    have L:∀s∈fH l,IsS s:=λs hs=>E s (iA.1 hs);have z:(ssL (fH l)).length=n*8:=by rw[fP L,lR,D]
    have ar:(bQ (n*8) vs).length=vs.length-n*8:=by rw[aT,Kd]
    have cJ:n*8<=vs.length:=by
     have:=congrArg List.length M;rw[dk,ba]at this;omega
    have cd:(ssL (fH l)++bQ (n*8) vs).length=vs.length:=by rw[dk,z,ar];omega
    refine⟨AS.wr _ _ _ _,λμ w A I Z=> ?_⟩;obtain⟨x',y',rfl,hx,hy⟩:=Z.two;obtain rfl:=Yz hy;have N:∀k Y,μ b=some k->rC P (iF P μ h w (.ret (.tuple #[])) (h.wr h.next b (.cells (ssL (fH l)++bQ (n*8) vs) true sz))) ((callFunc f #[.slice (some ⟨k.r,k.d+0,none⟩) n Y, .func (.func kf) #[] #[]]).run P w):=λk Y y=>by
     obtain⟨be,U,el,fz,V,g2,g3,g4,g5⟩:=I.obj b _ hbo k y;obtain⟨hd,he,J⟩:=g5 rfl;have B:∀(W:List Value) j,(t:j<W.length)->gv W j=W[j]:=λW j t=>by simp[gv,cC,t]
     have ae:∀j,(t:j<(ssL l).length)->U[k.d+j]? =some (ssL l)[j]:=λj t=>by
      obtain⟨v',X,Q⟩:=g4 j ω;have e:gv vs j=(ssL l)[j]:=by
       rw[B vs j ω];have:vs[j]? =(ssL l)[j]? :=by
        conv=>lhs;rw[M]
        rw[oB t]
       rw[bx ω,bx t,Option.some.injEq]at this;exact this
      rw[e]at Q;obtain⟨m,hm⟩:=Ju (CS t);rw[hm]at Q⊢;cases Q;exact X
     have hH:Holds id w k.r (k.d+0) (ssL l).toArray:=λj t=>by
      have t:j<(ssL l).length:=by simpa using t
      refine⟨?_,?_⟩
      ·rw[cell_of V,R0,ae j t];simp[t]
      ·have:=J (k.d+0+j) ω;simp only[World.frozen?,V];simpa using this
     have u:=h1 kf aE k.r (k.d+0) Y l w E hH (I.dom _ _ y).2 ω;rw[D]at u;refine lY hf hn hb u λe F ⟨S,m,O,T⟩=> ?_;subst S;subst T;obtain⟨r1,s1⟩:=I.world (w':=Sort.ahead w m) rfl;have C:(putRow id (Sort.ahead w m) k.r (k.d+0) (ssL (fH l)).toArray).heap=w.heap.modify k.r (onCells (putCells id (k.d+0) (ssL (fH l)).toArray)):=rfl;have H:(putRow id (Sort.ahead w m) k.r (k.d+0) (ssL (fH l)).toArray).heap[k.r]? =some (.cells (putCells id (k.d+0) (ssL (fH l)).toArray U) el fz):=by
      rw[C,ab1,if_pos rfl,V];rfl
     have cj:(putCells id (k.d+0) (ssL (fH l)).toArray U).size=U.size:=by simp[putCells]
     obtain⟨r2,s2⟩:=r1.write (base:=h.next) (b:=b) (o:= .cells vs true sz) (o':= .cells (ssL (fH l)++bQ (n*8) vs) true sz) (k:=k) (w':=putRow id (Sort.ahead w m) k.r (k.d+0) (ssL (fH l)).toArray) hbo rfl rfl y
      (by rw[C];simp[Sort.ahead]) (fun r hr=>by rw[C,ab1,if_neg (Ne.symm hr)];rfl) (.zU V H ω) (by
        intro k' K;rw[y]at K;cases K;refine⟨be,_,el,fz,H,ω,ω,λi G=> ?_,λ_=>⟨hd,ω,λj t=>J j ω⟩⟩;obtain⟨v',X,Q⟩:=g4 i ω;have aw:gv (ssL (fH l)++bQ (n*8) vs) i=(ssL (fH l)++bQ (n*8) vs)[i]:=B _ i G;rw[aw];by_cases hi8:i<n*8
        ·rw[List.getElem_append_left ω];obtain⟨q,hq⟩:=Ju (CS (show i<(ssL (fH l)).length by omega));refine⟨(ssL (fH l))[i],?_,by rw[hq];exact .int _ _⟩;simp only[putCells,Array.getElem?_mapIdx,X,z7];rw[if_pos ⟨ω,by simp;omega⟩];have:i<(ssL (fH l)).length:=ω
         simp[this]
        ·refine⟨v',?_,?_⟩
         ·simp only[putCells,Array.getElem?_mapIdx,X,z7];rw[if_neg (λq=>by simp at q;omega)]
         ·have e:(ssL (fH l)++bQ (n*8) vs)[i]? =vs[i]? :=by
           rw[hX ω,z,aT,wn];congr 1;omega
          rw[bx G,bx ω,Option.some.injEq]at e;rw[e,←B vs i ω];exact Q)
     obtain⟨r3,s3⟩:=Uy O.toList r2;have e3:Sort.grow (putRow id (Sort.ahead w m) k.r (k.d+0) (ssL (fH l)).toArray) O.toList.toArray=Sort.grow (putRow id (Sort.ahead w m) k.r (k.d+0) (ssL (fH l)).toArray) O:=rfl;rw[e3]at r3 s3;exact⟨μ, .tuple rfl (λi G=>absurd G (by simp)),r3,(s1.trans s2 (bl _)).trans s3 (bl _)⟩
    cases hx with
    |slice y S T=>exact N _ _ y
    |fR y S T q3=>exact N _ _ y
   ·cases a
  ·cases a
 ·cases a
end Go.A.Pk
end
section
namespace Go.A.Pk
variable {T:Nat->Option aq}
variable{h:Heap}{a:Option Addr}{c n:Nat}{l:List (List Nat)}
def SsQ.len(s:SsQ h (.slice a n c) l):n=l.length:=by
 rcases aH.inv s.sl with⟨_,hv,h0,_⟩|⟨b,o,cap,hv,s1,hc⟩
 ·cases hv;exact h0.symm
 ·cases hv;rfl
def kj(P:List Nat->Bool):List (List Nat)->Nat->Int
 |[],_=> -1
 |r::l,i=>if P r then(i:Int)else kj P l (i+1)
variable{i:Nat}{r:List Nat}
def Ka(P:List Nat->Bool)(hi:l[i]? =some r):kj P (l.drop i) i=if P r then(i:Int)else kj P (l.drop (i+1)) (i+1):=by
 obtain⟨a,rfl⟩:=List.getElem?_eq_some_iff.1 hi;rw[Ix a,kj]
def Nl(P:List Nat->Bool)(l:List (List Nat)):kj P (l.drop l.length) l.length= -1:=by rw[List.drop_length];rfl
def Fb(P:List Nat->Bool):∀(l:List (List Nat)) (i:Nat),decide (0<=kj P l i)=l.any P
 |[],i=>rfl
 |r::l,i=>by
  rw[kj,List.any_cons];by_cases h:P r=true
  ·rw[if_pos h,h,decide_eq_true ω];rfl
  ·rw[if_neg h,Fb P l (i+1)];rw[Bool.not_eq_true]at h;rw[h,Bool.false_or]
def Fe(P:List Nat->Bool):∀(l:List (List Nat)) (i:Nat),0<=kj P l i->∃k r,l[k]? =some r/\P r=true/\kj P l i=((i+k:Nat):Int)/\∀x∈l.take k,P x=false
 |[],i,h=>by simp[kj]at h
 |r::l,i,h=>by
  rw[kj]at h⊢;by_cases hp:P r=true
  ·exact⟨0,r,rfl,hp,by rw[if_pos hp];rfl,λx a=>by simp at a⟩
  ·rw[if_neg hp]at h⊢;obtain⟨k,q,h1,h2,h3,h4⟩:=Fe P l (i+1) h;refine⟨k+1,q,by simpa using h1,h2,by rw[h3];congr 1;omega,λx a=> ?_⟩;rw[Sp]at a;rcases List.mem_cons.1 a with rfl|a
   ·simpa using hp
   ·exact h4 x a
def Fc(P:List Nat->Bool):∀(l:List (List Nat)) (i:Nat),¬0<=kj P l i->kj P l i= -1/\∀x∈l,P x=false
 |[],i,h=>⟨rfl,λx a=>by simp at a⟩
 |r::l,i,h=>by
  rw[kj]at h⊢;by_cases hp:P r=true
  ·rw[if_pos hp]at h;omega
  ·rw[if_neg hp]at h⊢;obtain⟨h1,h2⟩:=Fc P l (i+1) h;refine⟨h1,λx a=> ?_⟩;rcases List.mem_cons.1 a with rfl|a
   ·simpa using hp
   ·exact h2 x a
variable{cap:List Value}
def Fg(v:aK T)(q:T 141=some f257)(hr:Rdy h)(s:SsQ h (.slice a n c) l)(B:n<1000000){g:Nat}(P:List Nat->Bool)
 (j:∀r∈l,Pu T g (sv r::cap) h (.bool (P r))):Pu T 141 [.slice a n c, .func (.func g) #[] cap.toArray] h (zc (kj P l 0)):=by
 refine .of v q hr rfl ?_;obtain rfl:=s.len;refine Y10 ?_
 refine aY (λm e k p=>∃i:Nat,i<=l.length/\m=l.length-i/\e=[(0, .slice a l.length c),(1, .func (.func g) #[] cap.toArray),(7, zc (l.length:Nat)),(8, zc (i:Nat))]/\k=[]/\h=p∧kj P l 0=kj P (l.drop i) i)
  ⟨0,hK _,rfl,rfl,rfl,rfl,rfl⟩ ?_
 rintro m e k _ ⟨i,u,rfl,rfl,rfl,rfl,f⟩;by_cases hlt:i<l.length
 ·obtain⟨r,d⟩:∃r,l[i]? =some r:=⟨l[i],bx hlt⟩;obtain⟨b,o,y,E,x,t,w,z,A,C⟩:=s.elem d;cases w;have D:=aN (s.ok r (ci d)).len;have H:=j r (ci d);rw[Ka P d]at f;refine Y19 ?_;refine oK (yx (all:=sv r::cap) ρ ρ ρ (by rw[dS,dS];simp[sv])) ?_;refine FW.pu (by rw[hr.self];exact H) ?_;clear H j;cases hpr:P r with
  |true=>
   rw[hpr,if_pos rfl]at f;rw[f];refine Y12 ?_;exact an hr.log rfl rfl
  |false=>
   rw[hpr,if_neg (by simp)]at f;refine Y9 ?_;exact⟨l.length-(i+1),ω,i+1,ω,rfl,rfl,rfl,rfl,f⟩
 ·obtain rfl:i=l.length:=ω
  rw[Nl]at f;rw[f];refine Y14 ?_;exact an hr.log rfl rfl
def wX(d:aK T)(f:T 109=some f196)(b:T 141=some f257)(hr:Rdy h)(s:SsQ h (.slice a n c) l)(i:n<1000000){g:Nat}(P:List Nat->Bool)
 (e:∀r∈l,Pu T g (sv r::cap) h (.bool (P r))):Pu T 109 [.slice a n c, .func (.func g) #[] cap.toArray] h (.bool (l.any P)):=by
 refine .of d f hr rfl ?_;have C:=Fg d b hr s i P e;rw[←Fb P l 0];generalize kj P l 0=z at C⊢;refine Y7 ?_;refine FW.pu (by rw[hr.self];exact C) ?_;clear C;have j:af .geq (zc z) (zc 0)=some (.bool (decide (0<=z))):=BB;refine Y4 ?_;exact an hr.log rfl rfl
def OwS(lo:Nat)(h:Heap)(v:Value)(l:List (List Nat)):Prop:=
 (v= .slice none 0 0/\l=[])∨∃b c t,lo<=b/\b<h.next/\h.get b=some (.cells (ssL l++t) true 8)/\v= sh b l.length c/\l.length<=c/\(l≠[]->c=UNK)
def vB(v:Value)(z:Nat):Prop:=∃m c,v= sh z m c
variable{lo:Nat}{v:Value}
def OwS.vb(q:OwS lo h v l){z:Nat}(a:vB v z):lo<=z/\z<h.next:=by
 obtain⟨m,c,a⟩:=a;rcases q with⟨rfl,_⟩|⟨b,c,t,h1,h2,h3,rfl,_⟩
 ·cases a
 ·cases a;exact⟨h1,h2⟩
def OwS.ss(q:OwS lo h v l)(a:∀s∈l,IsS s):SsQ h v l:=by
 refine⟨?_,a⟩;rcases q with⟨rfl,rfl⟩|⟨b,c,t,h1,h2,h3,rfl,h4,h5⟩
 ·exact .nil
 ·refine .mem ⟨h2,⟨_,_,_,h3,?_⟩,fP a⟩ h4;rw[bw,aT,ww,q9 (by rw[fP a];omega),go (by rw[fP a];omega)]
variable{h':Heap}
def OwS.keep(q:OwS lo h v l)(d:h.next<=h'.next)(a:∀z,lo<=z->z<h.next->h'.get z=h.get z):OwS lo h' v l:=by
 rcases q with q|⟨b,c,t,h1,h2,h3,rfl,h4,h5⟩
 ·exact .inl q
 ·exact .inr ⟨b,c,t,h1,ω,(a b h1 h2).trans h3,rfl,h4,h5⟩
def OwS.ext(q:OwS lo h v l)(x:Ext h h'):OwS lo h' v l:=q.keep x.next λz _ a=>x.old z a
def OwS.log(q:OwS lo h v l)(m:List Nat):OwS lo {h with log:=m} v l:=q
def OwS.low{a:Nat}(q:OwS lo h v l)(d:a≤lo):OwS a h v l:=by
 rcases q with q|⟨b,c,t,h1,h2⟩
 ·exact .inl q
 ·exact .inr ⟨b,c,t,ω,h2⟩
def OwS.flat{a:Nat}(d:dA v=true)(q:OwS lo h v l):OwS a h' v l:=by
 rcases q with q|⟨b,c,t,h1,h2,h3,rfl,_⟩
 ·exact .inl q
 ·cases d
def OwS.form(q:OwS lo h v l):∃a c,v= .slice a l.length c:=by
 rcases q with⟨rfl,rfl⟩|⟨b,c,t,h1,h2,h3,rfl,_⟩
 ·exact⟨none,0,rfl⟩
 ·exact⟨_,c,rfl⟩
def Own.owS(q:Own lo h 8 v l.length (ssL l))(a:l.length<4000000):OwS lo h v l:=by
 generalize hm:l.length=n at q;generalize hc:ssL l=cs at q;cases q with
 |nil=>exact .inl ⟨rfl,List.length_eq_zero_iff.1 hm⟩
 |full h1 h2 h3 h4 h5=>
  subst hm;subst hc;exact .inr ⟨_,UNK,[],h1,h2,by rw[wl];exact h3,rfl,by unfold UNK;omega,λ_=>rfl⟩
def qY(a b:List (List Nat)):ssL (a++b)=ssL a++ssL b:=by simp[ssL]
def Ge(a:List Nat)(b:List (List Nat)):ssL (a::b)=us a++ssL b:=rfl
def AH(h:∀r∈l,IsS r):(ssL l).take (i*8)=ssL (l.take i):=by
 by_cases hi:i<=l.length
 ·have e:l=l.take i++l.drop i:=(Fr i l).symm;have a:(ssL (l.take i)).length=i*8:=by rw[fP λr b=>h r (yn b),lp,FX hi]
  conv=>lhs;rw[e,qY]
  rw[←a,List.take_left]
 ·rw[go (by rw[fP h];omega),go ω]
def Gf(h:∀r∈l,IsS r):(ssL l).drop (i*8)=ssL (l.drop i):=by
 by_cases hi:i<=l.length
 ·have e:l=l.take i++l.drop i:=(Fr i l).symm;have a:(ssL (l.take i)).length=i*8:=by rw[fP λr b=>h r (yn b),lp,FX hi]
  conv=>lhs;rw[e,qY]
  rw[←a,List.drop_left]
 ·rw[xi (by rw[fP h];omega),xi ω];rfl
def DS{t:List Value}(h:∀r∈l,IsS r)(hr:IsS r)(hi:i<l.length):dP (ssL l++t) (0+i*8) (us r)=ssL (l.set i r)++t:=by
 have b:=fP h;have a:(us r).length=8:=by rw[aF,hr.len]
 rw[hF,gH (by rw[a,dk,b];omega),a,q9 ω,Ej ω,AH h,show i*8+8=(i+1)*8 by omega,Gf h,List.set_eq_take_append_cons_drop,if_pos hi,qY,Ge];simp
variable{x:List Nat}
def qZ{t:List Value}(h:∀r∈l,IsS r)(hi:l[i]? =some x):cm 8 (bQ (0+i*8) (ssL l++t))=us x:=by
 have a:=(List.getElem?_eq_some_iff.1 hi).1;have b:=fP h;rw[bw,aT,hF,Ej ω,q9 (by rw[Kd];omega),Jv h hi]
def DT{t:List Value}(h:∀r∈l,IsS r)(hr:IsS r)(hi:i<l.length):(Nat.beq (bS (cellsOf (sv r))) 8&&Nat.ble (0+i*8+8) (bS (ssL l++t))&&eN (cellsOf (sv r)))=true:=by
 have e:cellsOf (sv r)=us r:=by show(us r).toArray.toList=_;simp
 rw[e,cK,cK,aF,hr.len,bZ,dk,fP h,gh ω];rfl
def MB(f:aK T)(e:T 107=some f194)(hr:Rdy h)(s:SsQ h v l)(j:l.length<1000000):Al T 107 [v] h λv h'=>OwS h.next h' v l:=by
 refine .of f e hr (λv i g q=>OwS.flat g q) ?_;rcases aH.inv s.sl with⟨c',rfl,h0,_⟩|⟨b,o,cap,rfl,s1,hc⟩
 ·have a:l=[]:=List.length_eq_zero_iff.1 h0;subst a;refine Y6 ?_;refine aG (Ep ρ ρ ρ) ?_;refine Y7 ?_;exact cW hr.log rfl (.inl ⟨rfl,rfl⟩)
 ·have d:=AG (s.sl.ext ((Ext.refl h).push (.cells [] true 8)));by_cases h0:l.length=0
  ·have a:l=[]:=List.length_eq_zero_iff.1 h0;subst a;refine Y6 ?_;refine aG (Ep ρ ρ ρ) ?_;refine Y7 ?_;refine aG (qg ρ ρ d (bl _)) ?_;refine Y3 ?_;refine cW hr.log rfl (.inr ⟨h.next,_,[],bl _,eA _,?_,rfl,bl _,λq=>absurd rfl q⟩)
   (simp(disch:=first|omega|(simp only[z1,z2];omega))only[z3,z4,z5,z6,z7,z1,z2];exact rfl)
  ·refine Y6 ?_;refine aG (Ep ρ ρ ρ) ?_;refine Y7 ?_;refine aG (qf (c:=0) (len:=0) ρ ρ d h0 ω (by decide) (z3 h _) (by exact bl _) ω ρ) ?_;refine Y3 ?_;refine cW hr.log rfl (.inr ⟨h.next+1,UNK,[],Hm _,eA _,?_,?_,by unfold UNK;omega,λ_=>rfl⟩)
   ·rw[wl];(simp(disch:=first|omega|(simp only[z1,z2];omega)|(simp only[z1,z2];done)|fail)only[z8,z4,z5,z9,z7,z1,z2];exact rfl)
   ·rw[hF];rfl
def vG(hi:l[i]? =some r)(Q:List Nat->Bool):(l.take (i+1)).filter Q=(l.take i).filter Q++(if Q r then [r]else []):=by
 obtain⟨a,rfl⟩:=List.getElem?_eq_some_iff.1 hi;rw[xa a,ac6];congr 1;by_cases hq:Q l[i]=true
 ·simp[hq]
 ·simp[hq]
def BW(hi:i<l.length):(l.set i r).take (i+1)=l.take i++[r]:=by
 apply wy;intro k;by_cases hk:k<i
 ·rw[wi ω,So ω,oB (by rw[lp];omega),wi hk]
 ·by_cases hk2:k=i
  ·subst hk2;rw[wi ω,UV hi,hX (by rw[lp];omega),lp,FX ω,J0];rfl
  ·rw[kz (by rw[lp,hG];omega),kz (by rw[dk,lp,Do];omega)]
def BV{j:Nat}(hi:i<j):(l.set i r).drop j=l.drop j:=by
 apply wy;intro k;rw[wn,wn,So ω]
def zS:List Value:=aL 8 (.int .u64 0)
def Ed:∀n,eN (eR n zS)=true
 |0=>rfl
 |n+1=>by
  show eN (eL zS (eR n zS))=true;rw[dS];exact nT rfl (Ed n)
def AI{D:List (List Nat)}{t ws:List Value}(b:∀r∈l,IsS r)(hi:i<=l.length)(c:l.take i=D)(d:dP (ssL l++t) (0+i*8) (eR (l.length-i) zS)=ws):∃t',ws=ssL D++t':=by
 have e:(eR (l.length-i) zS).length=(l.length-i)*8:=by rw[mF];rfl
 have a:=fP b;rw[←d,gH (by rw[e,dk,a];omega),hF,q9 ω,AH b,c,At];exact⟨_,rfl⟩
def JY(K:aK T)(hf:T 106=some f193)(O:T 141=some f257)(hr:Rdy h)(q:OwS lo h v l)(S:∀r∈l,IsS r)(hn:l.length<1000000){g:Nat}(P:List Nat->Bool)
 (Z:∀h':Heap,WF h'→h.next<=h'.next->(∀z,z<lo->h'.get z=h.get z)->∀r,IsS r->Pu T g (sv r::cap) {h' with log:=[]} (.bool (P r))):
 Gs T 106 [v, .func (.func g) #[] cap.toArray] h (vB v) (λv h'=>OwS lo h' v (l.filter λr=> !P r)):=by
 have sR:=q.ss S;obtain⟨a,c,rfl⟩:=q.form;refine .of K hf ?_ ?_
 ·intro v F M Y be aw hq;exact OwS.flat Y hq
 have C:=Fg K O hr sR hn P (λr hR=>by
  have:=Z h hr.wf (bl _) (λ_ _=>rfl) r (S r hR)
  rwa [show ({h with log:=[]}:Heap)=h from hr.self]at this)
 refine Y7 ?_;refine FW.pu (by rw[hr.self];exact C) ?_;clear C;by_cases hi:0<=kj P l 0
 ·obtain⟨k,rk,F,M,h3,h4⟩:=Fe P l 0 hi;rw[hF]at h3;rw[h3];have s:k<l.length:=(List.getElem?_eq_some_iff.1 F).1;rcases q with⟨_,rfl⟩|⟨b,c',tl,hb1,hb2,hb3,Y,hcl,hcu⟩
  ·simp at s
  ·cases Y;obtain rfl:=hcu (λq=>by rw[q]at s;simp at s);have m1:zz k (-1) false:=jH ω;refine Y17 ?_;refine aY (λmm e ds h'=>∃(j i:Nat) (m:List (List Nat)),j<=l.length/\i<j/\mm=l.length-j/\e=[(0, sh b l.length UNK),(1, .func (.func g) #[] cap.toArray),(5, zc (i:Nat)),(6, zc (j:Nat))]/\ds=[]∧
    WF h'∧h.next<=h'.next/\(∀z,z<lo->h'.get z=h.get z)/\(∀z∈h'.log,vB (sh b l.length UNK) z)/\h'.get b=some (.cells (ssL m++tl) true 8)/\m.length=l.length/\(∀r∈m,IsS r)/\m.take i=(l.take j).filter (λr=> !P r)/\m.drop j=l.drop j)
    ⟨k+1,k,l,s,eA _,rfl,rfl,rfl,hr.wf,bl _,λ_ _=>rfl,(by rw[hr.log];intro z p;cases p),hb3,rfl,S,?_,rfl⟩ ?_
   ·rw[vG F,M];simp only[LE,Cl,if_false,wl];exact(List.filter_eq_self.2 (λx D=>by rw[h4 x D];rfl)).symm
   rintro mm e ds H ⟨j,i,m,hj,aE,rfl,rfl,rfl,hw,W,w,I,L,U,d,o,A⟩;have G:b<H.next:=WF.dJ hw L
   by_cases hlt:j<l.length
   ·obtain⟨r,B⟩:∃r,l[j]? =some r:=⟨l[j],bx hlt⟩;have J:m[j]? =some r:=by
     have e1:(m.drop j)[0]? =(l.drop j)[0]? :=by rw[A]
     rw[wn,wn]at e1;exact e1.trans B
    have f:=d r (ci J);have bj:=qZ (t:=tl) d J;have rl:=aN f.len;have bo:=aU f.len;have cd:=f.len;refine Y17 ?_;refine aG (wT) ?_;refine aG (bH ρ ρ YG (by(simp only[aF];assumption)) ρ (by exact bZ _)) ?_;refine Y3 ?_;refine aG (bW ρ YG τ τ) ?_;have N:WF (((H.push (qt (aL 8 (.int .u64 0)))).wr h.next H.next (qt (us r)))):=(hw.push (qt (aL 8 (.int .u64 0)))).as (AS.wr h.next _ _ _);have E:=Z _ N (show h.next<=H.next+1 by omega) (λz p=>by
     rw[z5 ω,z4 ω];exact w z p) r f
    refine oK (yx (all:=sv r::cap) ρ ρ ρ (by rw[dS,dS];simp[sv])) ?_;refine FW.pu E ?_;clear E;have u:∀z∈(((H.push (qt (aL 8 (.int .u64 0)))).wr h.next H.next (qt (us r)))).log,vB (sh b l.length UNK) z:=by
     rw[Heap.aA W];exact I
    have y:(((H.push (qt (aL 8 (.int .u64 0)))).wr h.next H.next (qt (us r)))).get b=some (.cells (ssL m++tl) true 8):=by
     rw[z5 ω,z4 G];exact L
    have ar:(((H.push (qt (aL 8 (.int .u64 0)))).wr h.next H.next (qt (us r)))).get H.next=some (qt (us r)):=by
     rw[z6,z3];rfl
    have n:∀z,z<lo->(((H.push (qt (aL 8 (.int .u64 0)))).wr h.next H.next (qt (us r)))).get z=h.get z:=λz p=>by
     rw[z5 ω,z4 ω];exact w z p
    have ae:(((H.push (qt (aL 8 (.int .u64 0)))).wr h.next H.next (qt (us r)))).next=H.next+1:=rfl
    generalize(((H.push (qt (aL 8 (.int .u64 0)))).wr h.next H.next (qt (us r))))=H2 at*;cases K:P r with
    |true=>
     refine Y11 ?_;refine⟨l.length-(j+1),ω,j+1,i,m,ω,ω,rfl,rfl,rfl,N,ω,n,u,y,U,d,?_,?_⟩
     ·rw[vG B,K,o];simp
     ·rw[←List.drop_drop,←List.drop_drop,A]
    |false=>
     have kc:=DT (t:=tl) d f (i:=i) ω;have kw:dP (ssL m++tl) (0+i*8) (cellsOf (sv r))=ssL (m.set i r)++tl:=by
      have e:cellsOf (sv r)=us r:=by show(us r).toArray.toList=_;simp
      rw[e,DS d f ω]
     refine Y8 ?_;refine aG (kC ρ ρ y kc kw) ?_;refine Y5 ?_;refine bA ?_;refine Y8 ?_;refine⟨l.length-(j+1),ω,j+1,i+1,m.set i r,ω,ω,rfl,rfl,rfl,N.as (AS.wr h.next _ _ _),(by show h.next<=H2.next;omega),?_,AP u ⟨_,_,rfl⟩,?_,by rw[hG];exact U,?_,?_,?_⟩
     ·intro z p;rw[z5 ω];exact n z p
     ·rw[z6,y];rfl
     ·intro x D;rcases A3 D with D|rfl
      ·exact d x D
      ·exact f
     ·rw[BW ω,vG B,K,o];simp
     ·rw[BV ω,←List.drop_drop,←List.drop_drop,A]
   ·obtain rfl:j=l.length:=ω
    rw[wd]at o;have p:(eR (l.length-i) zS).length=(l.length-i)*8:=by rw[mF];rfl
    have ba:i<=l.length:=ω
    have V:=fP d;refine Y16 ?_;refine aG (qj ρ ρ τ ω) ?_;refine aG (Iv (z:=zS) ρ ω L (by rw[p,dk,V];omega) (by exact Ed _) rfl) ?_;refine Y4 ?_;refine aG (ue ρ ρ YG ω ω) ?_;refine Y3 ?_;refine iO (AP I ⟨_,_,rfl⟩) rfl ?_;have Q:(l.filter λr=> !P r).length=i:=by
     rw[←o,lp];omega
    obtain⟨t',X⟩:=AI (t:=tl) (i:=i) (ws:=dP (ssL m++tl) (0+i*8) (eR (l.length-i) zS)) d ω o (by rw[U]);refine .inr ⟨b,UNK,t',hb1,G,?_,?_,by unfold UNK;omega,λ_=>rfl⟩
    ·rw[z6,L,z7,X]
    ·rw[Q];rfl
 ·obtain⟨F,M⟩:=Fc P l 0 hi;rw[F];refine Y14 ?_;refine iO (by rw[hr.log];intro z p;cases p) rfl ?_;show OwS lo h (.slice a l.length c) _;rw[List.filter_eq_self.2 (λx D=>by rw[M x D];rfl)];exact q
def ddS:List (List Nat)->List (List Nat)
 |a::b::l=>if a=b then ddS (b::l)else a::ddS (b::l)
 |l=>l
def y8:∀(l:List (List Nat)) (y x:List Nat),ddS (l++[y,x])=if y=x then ddS (l++[y])else ddS (l++[y])++[x]
 |[],y,x=>by
  show(if y=x then [x]else y::[x])=if y=x then [y]else [y]++[x]
  by_cases h:y=x
  ·rw[if_pos h,if_pos h,h]
  ·rw[if_neg h,if_neg h];rfl
 |[a],y,x=>by
  have c:=y8 [] y x;simp only[D4]at c;show(if a=y then ddS (y::[x])else a::ddS (y::[x]))=_;have e:ddS ([a]++[y])=if a=y then ddS [y]else a::ddS [y]:=rfl
  rw[e,c];by_cases h:a=y
  ·simp only[if_pos h]
  ·simp only[if_neg h];by_cases h2:y=x
   ·simp only[if_pos h2]
   ·simp only[if_neg h2];rfl
 |a::b::l,y,x=>by
  have c:=y8 (b::l) y x;show(if a=b then ddS (b::l++[y,x])else a::ddS (b::l++[y,x]))=_;have e:ddS (a::b::l++[y])=if a=b then ddS (b::l++[y])else a::ddS (b::l++[y]):=rfl
  rw[e,c];by_cases h:a=b
  ·simp only[if_pos h]
  ·simp only[if_neg h];by_cases h2:y=x
   ·simp only[if_pos h2]
   ·simp only[if_neg h2];rfl
def EK{k:Nat}{y:List Nat}(b:l[k]? =some y)(a:l[k+1]? =some x):ddS (l.take (k+1+1))=if y=x then ddS (l.take (k+1))else ddS (l.take (k+1))++[x]:=by
 rw[eY a,eY b,At];exact y8 _ y x
def qq:∀{l:List (List Nat)} {x:List Nat},x∈ddS l->x∈l
 |[],_,h=>h
 |[a],_,h=>h
 |a::b::l,x,h=>by
  unfold ddS at h;by_cases e:a=b
  ·rw[if_pos e]at h;exact bz _ (qq h)
  ·rw[if_neg e]at h;rcases List.mem_cons.1 h with rfl|h
   ·exact b7
   ·exact bz _ (qq h)
def uX:∀{l:List (List Nat)} {x:List Nat},x∈l->x∈ddS l
 |[],_,h=>h
 |[a],_,h=>h
 |a::b::l,x,h=>by
  unfold ddS;by_cases e:a=b
  ·rw[if_pos e];rcases List.mem_cons.1 h with rfl|h
   ·exact uX (by rw[e];exact b7)
   ·exact uX h
  ·rw[if_neg e];rcases List.mem_cons.1 h with rfl|h
   ·exact b7
   ·exact bz _ (uX h)
def Bq{m:List (List Nat)}(h:m.drop n=l.drop n):m.drop (n+1)=l.drop (n+1):=by
 have:=congrArg (List.drop 1) h
 rwa [Co,Co]at this
def Cw:∀l:List (List Nat),(ddS l).length<=l.length
 |[]=>bl _
 |[a]=>bl _
 |a::b::l=>by
  have ih:=Cw (b::l);unfold ddS;by_cases e:a=b
  ·rw[if_pos e];exact HP ih
  ·rw[if_neg e];exact Nat.succ_le_succ ih
def yR(hp:aK T)(hf:T 105=some f192)(hr:Rdy h)(q:OwS lo h v l)(L:∀r∈l,IsS r)(hn:l.length<1000000):
 Gs T 105 [v] h (vB v) (λv p=>OwS lo p v (ddS l)):=by
 obtain⟨a,c,rfl⟩:=q.form;refine .of hp hf ?_ ?_
 ·intro v h1 K hv aE ae hq;exact OwS.flat hv hq
 by_cases K:l.length<2
 ·have e:ddS l=l:=by
   match l,K with
   |[],_=>rfl
   |[_],_=>rfl
  rw[e];have m1:zd l.length 2 true:=dz ω;refine Y16 ?_;exact iO (by rw[hr.log];intro z A;cases A) rfl q
 have m0:zd l.length 2 false:=dG ω;rcases q with⟨_,rfl⟩|⟨b,c',tl,hb1,hb2,hb3,hv,hcl,hcu⟩
 ·exact absurd (show([]:List (List Nat)).length<2 by decide) K
 cases hv;obtain rfl:=hcu (λq=>by rw[q]at K;simp at K);refine Y17 ?_
 refine aY (λP e I p=>∃k:Nat,k+1<=l.length/\l.length-(k+1)=P/\e=[(0, sh b l.length UNK),(3, zc ((k+1:Nat):Int))]/\I=[]/\h=p∧ddS (l.take (k+1))=l.take (k+1))
  ⟨0,ω,rfl,rfl,rfl,rfl,?_⟩ ?_
 ·cases l with
  |nil=>rfl
  |cons a l=>rfl
 rintro P e I _ ⟨k,hk,rfl,rfl,rfl,rfl,s⟩;by_cases hlt:k+1<l.length
 ·obtain⟨x,w⟩:∃r,l[k+1]? =some r:=⟨l[k+1],bx hlt⟩;obtain⟨y,U⟩:∃r,l[k]? =some r:=⟨l[k],bx ω⟩;have f:=L x (ci w);have n:=L y (ci U);have j:=EK U w;have rx:=qZ (t:=tl) L w;have ry:=qZ (t:=tl) L U;have kx:=aN f.len;have ky:=aN n.len;have B:zd ((k+1:Nat):Int) l.length true:=dz ω;have Q:vi ((k+1:Nat):Int) 1 ((k:Nat):Int):=jD (by rw[aO]<;>omega);by_cases hxy:y=x
  ·rw[if_pos hxy,s]at j;refine Y23 ?_;refine qZ9 (c:=jK (b:=y) ρ ρ f.len n.len) (H:=?_);rw[decide_eq_true hxy.symm];refine Y7 ?_;refine aG (qj ρ ρ τ ω) ?_;refine Y7 ?_;refine aY (λP e I p=>∃(d i:Nat) (m:List (List Nat)),d+1<=l.length-(k+1)/\l.length-(k+1)-(d+1)=P/\e=[(0, sh b l.length UNK),(3, zc (i:Nat)),(4, .slice (some ⟨b,0+(k+1)*8,none⟩) (l.length-(k+1)) UNK),(5, zc ((d+1:Nat):Int))]/\I=[]∧
    WF p∧h.next<=p.next/\(∀z,z<lo->p.get z=h.get z)/\(∀z∈p.log,vB (sh b l.length UNK) z)/\p.get b=some (.cells (ssL m++tl) true 8)/\m.length=l.length/\(∀r∈m,IsS r)/\i<=k+1+d/\m.take i=ddS (l.take (k+1+d+1))/\m.drop (k+1+d)=l.drop (k+1+d))
    ⟨0,k+1,l,ω,rfl,rfl,rfl,hr.wf,bl _,λ_ _=>rfl,(by rw[hr.log];intro z A;cases A),hb3,rfl,L,bl _,j.symm,rfl⟩ ?_
   rintro P e I H ⟨d,i,m,aw,rfl,rfl,rfl,hw,M,D,F,G,X,g,ar,o,u⟩;have V:b<H.next:=WF.dJ hw G
   clear w U f n j rx ry kx ky B Q hxy;by_cases hlt2:d+1<l.length-(k+1)
   ·obtain⟨C,N⟩:∃r,l[k+1+d+1]? =some r:=⟨l[k+1+d+1],bx ω⟩;obtain⟨S,O⟩:∃r,l[k+1+d]? =some r:=⟨l[k+1+d],bx ω⟩;have mx:m[k+1+d+1]? =some C:=by
     have J:(m.drop (k+1+d))[1]? =(l.drop (k+1+d))[1]? :=by rw[u]
     rw[wn,wn]at J;exact J.trans N
    have my:m[k+1+d]? =some S:=by
     have J:(m.drop (k+1+d))[0]? =(l.drop (k+1+d))[0]? :=by rw[u]
     rw[wn,wn]at J;exact J.trans O
    have f:=g C (ci mx);have n:=g S (ci my);have j:=EK O N;have rx:=qZ (t:=tl) g mx;have ry:=qZ (t:=tl) g my;rw[show 0+(k+1+d+1)*8=0+(k+1)*8+(d+1)*8 by omega]at rx;rw[show 0+(k+1+d)*8=0+(k+1)*8+d*8 by omega]at ry;have kx:=aN f.len;have ky:=aN n.len;have B:zd ((d+1:Nat):Int) ((l.length-(k+1):Nat):Int) true:=dz ω;have Q:vi ((d+1:Nat):Int) 1 ((d:Nat):Int):=jD (by rw[aO]<;>omega);by_cases hxy:S=C
    ·rw[if_pos hxy]at j;refine Y23 ?_;refine qZ9 (c:=jK (b:=S) ρ ρ f.len n.len) (H:=?_);rw[decide_eq_true hxy.symm];refine Y12 ?_;exact⟨l.length-(k+1)-(d+1+1),ω,d+1,i,m,ω,rfl,rfl,rfl,hw,M,D,F,G,X,g,ω,by rw[o,←j];rfl,Bq u⟩
    ·rw[if_neg hxy]at j;have kc:=DT (t:=tl) g f (i:=i) ω;have kw:dP (ssL m++tl) (0+i*8) (cellsOf (sv C))=ssL (m.set i C)++tl:=by
      have e:cellsOf (sv C)=us C:=by show(us C).toArray.toList=_;simp
      rw[e,DS g f ω]
     refine Y23 ?_;refine qZ9 (c:=jK (b:=S) ρ ρ f.len n.len) (H:=?_);rw[decide_eq_false (Ne.symm hxy)];refine Y12 ?_;refine aG (kC ρ ρ G kc kw) ?_;refine Y5 ?_;refine bA ?_;refine Y8 ?_;refine⟨l.length-(k+1)-(d+1+1),ω,d+1,i+1,m.set i C,ω,rfl,rfl,rfl,hw.as (AS.wr h.next _ _ _),M,?_,AP F ⟨_,_,rfl⟩,?_,by rw[hG];exact X,?_,ω,?_,?_⟩
     ·intro z A;rw[z5 ω];exact D z A
     ·rw[z6,G];rfl
     ·intro r w;rcases A3 w with w|rfl
      ·exact g r w
      ·exact f
     ·rw[BW ω,o,←Nat.add_assoc,j]
     ·rw[BV ω];exact Bq u
   ·have E:k+1+d+1=l.length:=ω
    rw[E,wd]at o;have B:zd ((d+1:Nat):Int) ((l.length-(k+1):Nat):Int) false:=dG ω;have A:(eR (l.length-i) zS).length=(l.length-i)*8:=by rw[mF];rfl
    have Y:=fP g;refine Y16 ?_;refine aG (qj ρ ρ τ ω) ?_;refine aG (Iv (z:=zS) ρ ω G (by rw[A,dk,Y];omega) (by exact Ed _) rfl) ?_;refine Y4 ?_;refine aG (ue ρ ρ YG ω ω) ?_;refine Y8 ?_;refine iO (AP F ⟨_,_,rfl⟩) rfl ?_;have W:(ddS l).length=i:=by
     rw[←o,lp];omega
    obtain⟨t',Z⟩:=AI (t:=tl) (i:=i) (ws:=dP (ssL m++tl) (0+i*8) (eR (l.length-i) zS)) g ω o (by rw[X]);refine .inr ⟨b,UNK,t',hb1,V,?_,?_,by unfold UNK;omega,λ_=>rfl⟩
    ·rw[z6,G,z7,Z]
    ·rw[W];rfl
  ·rw[if_neg hxy,s,←eY w]at j;refine Y23 ?_;refine qZ9 (c:=jK (b:=y) ρ ρ f.len n.len) (H:=?_);rw[decide_eq_false (Ne.symm hxy)];refine Y12 ?_;exact⟨l.length-(k+1+1),ω,k+1,ω,rfl,rfl,rfl,rfl,j⟩
 ·have E:k+1=l.length:=ω
  rw[E,wd]at s;have B:zd ((k+1:Nat):Int) l.length false:=dG ω;refine Y18 ?_;refine iO (by rw[hr.log];intro z A;cases A) rfl ?_;rw[s];exact .inr ⟨b,UNK,tl,hb1,hb2,hb3,rfl,hcl,λ_=>rfl⟩
end Go.A.Pk
end
