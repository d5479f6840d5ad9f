/- Walks of functions, plain laws, the table. -/
import Derived.Test.YtalmahakphchfaaGreatDoorSU5
import Derived.Test.YtalmahakphchfaaGreatDoorSU1
import Derived.Test.YtalmahakphchfaaGreatDoorSD
import Derived.Test.YtalmahakphchfaaGreatDoorSU4
import Derived.Test.YtalmahakphchfaaGreatDoorSF
import Derived.Test.YtalmahakphchfaaGreatDoorSU3
set_option linter.all false
section
set_option maxRecDepth 100000
namespace Go.A.Pk
variable {T:Nat→Option af}
def seL(ov sv:Value)(r:Int):List Value:=[ov,sv, .int .i64 r]
def seV(ov sv:Value)(r:Int):Value:= .agg (seL ov sv r).toArray
def seB(os:List Od)(ss:List Sp)(r:Int):Bool:=oy odB Od.id [] os&&oy spB Sp.id [] ss&&decide (os.length≤40)&&decide (ss.length≤20)&&inR r 0 1000
def seE(os:List Od)(ss:List Sp)(r:Int):Int:=if seB os ss r then 0 else 1
structure JX (T:Nat→Option af):Prop where
 df:DU T
 f237:T 63=some f237
set_option maxHeartbeats 16000000 in
theorem KQ(F:JX T){h:Heap}(hr:Rdy h){ov sv:Value}{os:List Od}{ss:List Sp}{r:Int}(so:OdS h ov os)(ho:os.length<4611686018427387904)(sp:SpS h sv ss)(hs:ss.length<4611686018427387904):
 Pu T 63 [seV ov sv r] h (.int .i64 (seE os ss r)):=by
 refine .of F.df.rt.p F.f237 hr rfl ?_
 obtain⟨a,c,rfl⟩:=so.form
 obtain⟨a2,c2,rfl⟩:=sp.form
 have hc:cellsOf (seV (.slice a os.length c) (.slice a2 ss.length c2) r)=seL (.slice a os.length c) (.slice a2 ss.length c2) r:=by show(seL _ _ r).toArray.toList=_;simp
 have x0:Ext h (h.push (.cells (cellsOf (seV (.slice a os.length c) (.slice a2 ss.length c2) r)) true 1)):=(Ext.refl h).push _
 have g0:(h.push (.cells (cellsOf (seV (.slice a os.length c) (.slice a2 ss.length c2) r)) true 1)).get h.next=some (.cells (seL (.slice a os.length c) (.slice a2 ss.length c2) r) true 1):=by rw[hc];exact z3 _ _
 refine y4 ?_;refine yB ?_;refine yM ?_;refine y3 ?_
 generalize(h.push (.cells (cellsOf (seV (.slice a os.length c) (.slice a2 ss.length c2) r)) true 1))=H at*
 have W:=x0.wf hr.wf
 have hL:=x0.log.trans hr.log
 have k0:bD (seL (.slice a os.length c) (.slice a2 ss.length c2) r) (0+0)=some (.slice a os.length c):=rfl
 have k1:bD (seL (.slice a os.length c) (.slice a2 ss.length c2) r) (0+1)=some (.slice a2 ss.length c2):=rfl
 have k2:bD (seL (.slice a os.length c) (.slice a2 ss.length c2) r) (0+2)=some (.int .i64 r):=rfl
 generalize seL (.slice a os.length c) (.slice a2 ss.length c2) r=sl at*
 have C1:=Ia F.df (h:={H with log:=[]}) (.of W) ((so.ext x0).log []) ho
 have C2:=Ib F.df (h:={H with log:=[]}) (.of W) ((sp.ext x0).log []) hs
 have C3:=BQ F.df.rt (h:={H with log:=[]}) (.of W) r 0 1000
 unfold seE seB
 generalize oy odB Od.id [] os=b1 at*
 generalize oy spB Sp.id [] ss=b2 at*
 generalize inR r 0 1000=b3 at*
 refine y4 ?_;refine yF ?_;refine ah (dD (by exact rfl) (by assumption) (by assumption)) ?_
 refine yC ?_
 refine FW.pu C1 ?_
 clear C1
 refine yM ?_;refine y3 ?_;refine y4 ?_;refine yF ?_;refine ah (dD (by exact rfl) (by assumption) (by assumption)) ?_
 refine yC ?_
 refine FW.pu C2 ?_
 clear C2
 cases b1 with
 |false=>
  refine yM ?_;refine y3 ?_;refine an ?_;refine y4 ?_;refine yM ?_;refine yA ?_;refine yM ?_
  refine yP ?_;refine yP ?_;refine yT ?_;refine yM ?_;refine yP ?_;refine yP ?_;refine yP ?_;refine yP ?_
  refine yT ?_;refine yM ?_;refine yP ?_;refine yP ?_;refine yP ?_;refine yP ?_;refine yT ?_;refine yM ?_
  refine yP ?_;refine yP ?_;refine yP ?_;refine yP ?_;refine yT ?_;refine y3 ?_
  refine yY ?_;refine y4 ?_;refine yM ?_;refine y3 ?_;refine aM ?_;refine dZ ?_
  exact aD hL rfl rfl
 |true=>
 cases b2 with
 |false=>
  refine yM ?_;refine y3 ?_;refine an ?_;refine y4 ?_;refine yM ?_;refine yA ?_;refine yM ?_;refine yO ?_
  refine yM ?_;refine yO ?_;refine yA ?_;refine yU ?_;refine yM ?_;refine yP ?_;refine yP ?_;refine yP ?_
  refine yP ?_;refine yT ?_;refine yM ?_;refine yP ?_;refine yP ?_;refine yP ?_;refine yP ?_;refine yT ?_
  refine yM ?_;refine yP ?_;refine yP ?_;refine yP ?_;refine yP ?_;refine yT ?_;refine y3 ?_;refine yY ?_;refine y4 ?_;refine yM ?_;refine y3 ?_;refine aM ?_;refine dZ ?_
  exact aD hL rfl rfl
 |true=>
 by_cases h40:os.length≤40
 case neg=>
  have m1:aA .gtr (.int .i64 (os.length:Nat)) (.int .i64 40)=some (.bool true):=mg (by omega)
  rw[decide_eq_false h40]
  refine yM ?_;refine y3 ?_;refine an ?_;refine y4 ?_;refine yM ?_;refine yA ?_;refine yM ?_;refine yO ?_
  refine yM ?_;refine yO ?_;refine yA ?_;refine yU ?_;refine yM ?_;refine yO ?_;refine yF ?_;refine yO ?_;refine ah (dD (by exact rfl) (by assumption) (by assumption)) ?_
  refine yO ?_;refine yD ?_;refine yO ?_;refine yW ?_;refine yU ?_;refine yM ?_;refine yP ?_;refine yP ?_
  refine yP ?_;refine yP ?_;refine yT ?_;refine yM ?_;refine yP ?_;refine yP ?_;refine yP ?_;refine yP ?_
  refine yT ?_;refine y3 ?_;refine yY ?_;refine y4 ?_;refine yM ?_;refine y3 ?_;refine aM ?_;refine dZ ?_
  exact aD hL rfl rfl
 have m1:aA .gtr (.int .i64 (os.length:Nat)) (.int .i64 40)=some (.bool false):=mb (by omega)
 rw[decide_eq_true h40]
 by_cases h20:ss.length≤20
 case neg=>
  have m2:aA .gtr (.int .i64 (ss.length:Nat)) (.int .i64 20)=some (.bool true):=mg (by omega)
  rw[decide_eq_false h20]
  refine yM ?_;refine y3 ?_;refine an ?_;refine y4 ?_;refine yM ?_;refine yA ?_;refine yM ?_;refine yO ?_
  refine yM ?_;refine yO ?_;refine yA ?_;refine yU ?_;refine yM ?_;refine yO ?_;refine yF ?_;refine yO ?_;refine ah (dD (by exact rfl) (by assumption) (by assumption)) ?_
  refine yO ?_;refine yD ?_;refine yO ?_;refine yW ?_;refine yU ?_;refine yM ?_;refine yO ?_;refine yF ?_;refine yO ?_
  refine ah (dD (by exact rfl) (by assumption) (by assumption)) ?_;refine yO ?_;refine yD ?_;refine yO ?_;refine yW ?_;refine yU ?_;refine yM ?_
  refine yP ?_;refine yP ?_;refine yP ?_;refine yP ?_;refine yT ?_;refine y3 ?_
  refine yY ?_;refine y4 ?_;refine yM ?_;refine y3 ?_;refine aM ?_;refine dZ ?_
  exact aD hL rfl rfl
 have m2:aA .gtr (.int .i64 (ss.length:Nat)) (.int .i64 20)=some (.bool false):=mb (by omega)
 rw[decide_eq_true h20]
 cases b3 with
 |false=>
  refine yM ?_;refine y3 ?_;refine an ?_;refine y4 ?_;refine yM ?_;refine yA ?_;refine yM ?_;refine yO ?_
  refine yM ?_;refine yO ?_;refine yA ?_;refine yU ?_;refine yM ?_;refine yO ?_;refine yF ?_;refine yO ?_;refine ah (dD (by exact rfl) (by assumption) (by assumption)) ?_
  refine yO ?_;refine yD ?_;refine yO ?_;refine yW ?_;refine yU ?_;refine yM ?_;refine yO ?_;refine yF ?_;refine yO ?_
  refine ah (dD (by exact rfl) (by assumption) (by assumption)) ?_;refine yO ?_;refine yD ?_;refine yO ?_;refine yW ?_;refine yU ?_;refine yM ?_;refine yO ?_
  refine yF ?_;refine yO ?_;refine ah (dD (by exact rfl) (by assumption) (by assumption)) ?_;refine yO ?_
  refine yC ?_
  refine FW.pu C3 ?_
  refine yO ?_;refine yA ?_;refine yU ?_;refine y3 ?_;refine yY ?_;refine y4 ?_;refine yM ?_;refine y3 ?_;refine aM ?_;refine dZ ?_
  exact aD hL rfl rfl
 |true=>
  refine yM ?_;refine y3 ?_;refine an ?_;refine y4 ?_;refine yM ?_;refine yA ?_;refine yM ?_;refine yO ?_
  refine yM ?_;refine yO ?_;refine yA ?_;refine yU ?_;refine yM ?_;refine yO ?_;refine yF ?_;refine yO ?_;refine ah (dD (by exact rfl) (by assumption) (by assumption)) ?_
  refine yO ?_;refine yD ?_;refine yO ?_;refine yW ?_;refine yU ?_;refine yM ?_;refine yO ?_;refine yF ?_;refine yO ?_
  refine ah (dD (by exact rfl) (by assumption) (by assumption)) ?_;refine yO ?_;refine yD ?_;refine yO ?_;refine yW ?_;refine yU ?_;refine yM ?_;refine yO ?_
  refine yF ?_;refine yO ?_;refine ah (dD (by exact rfl) (by assumption) (by assumption)) ?_;refine yO ?_
  refine yC ?_
  refine FW.pu C3 ?_
  refine yO ?_;refine yA ?_;refine yU ?_;refine y3 ?_;refine yX ?_;refine bA ?_;refine bH ?_;refine y4 ?_
  refine yM ?_;refine y3 ?_;refine aM ?_
  exact aD hL rfl rfl
def uy(ks:List (List Nat×List Nat)):List (Value×Value):=ks.map fun k=>(wV k, .bool (jt k.1 k.2))
theorem Kz(w:List Nat×List Nat):wL w=us (w.1++w.2):=by unfold wL us;rw[List.map_append]
theorem lN(w:List Nat×List Nat):cellsOf (wV w)=wL w:=by show(wL w).toArray.toList=_;simp
theorem BS{a b:List Nat×List Nat}(ha:IsW a)(hb:IsW b):bC (aW 16 (.i .u64)) (wL a) (wL b)=some (decide (a=b)):=by
 have e1:(a.1++a.2).length=16:=by rw[List.length_append,ha.a.len,ha.b.len]
 have e2:(b.1++b.2).length=16:=by rw[List.length_append,hb.a.len,hb.b.len]
 have:=rz (a.1++a.2) (b.1++b.2) (by omega)
 rw[e1]at this
 rw[Kz,Kz,this]
 congr 1
 refine decide_eq_decide.2 ⟨fun q=> ?_,fun q=>by rw[q]⟩
 obtain⟨q1,q2⟩:=List.append_inj q (by rw[ha.a.len,hb.a.len])
 exact Prod.ext q1 q2
theorem Fa{a:List Nat×List Nat}(ha:IsW a):iL true (aW 16 (.i .u64)) (wV a)=true:=by
 unfold iL
 rw[lN,BS ha ha]
 rfl
theorem K8{a b:List Nat×List Nat}(ha:IsW a)(hb:IsW b):lC true (aW 16 (.i .u64)) (wV a) (wV b)=some (decide (a=b)):=by
 unfold lC
 rw[lN,lN,BS ha hb]
 rfl
def tf(k:List Nat×List Nat):Nat→List (List Nat×List Nat)→Option Nat
 |_,[]=>none
 |i,x::ks=>if k=x then some i else tf k (i+1) ks
theorem EP{k:List Nat×List Nat}(hk:IsW k):∀{ks:List (List Nat×List Nat)} {i:Nat},(∀x∈ks,IsW x)→ji true (aW 16 (.i .u64)) (wV k) i (uy ks)=some ((tf k i ks).map fun j=>(j, .bool (jt k.1 k.2)))
 |[],_,_=>rfl
 |x::ks,i,h=>by
  show ji true (aW 16 (.i .u64)) (wV k) i ((wV x, .bool (jt x.1 x.2))::uy ks)=_
  unfold ji tf
  rw[K8 hk (h x List.mem_cons_self)]
  by_cases e:k=x
  ·rw[decide_eq_true e,if_pos e,e];rfl
  ·rw[decide_eq_false e,if_neg e]
   exact EP hk fun y hy=>h y (List.mem_cons_of_mem _ hy)
theorem Bz{base:Nat}{h:Heap}{e:Env}{m k:Operand}{r:Nat}{ks:List (List Nat×List Nat)}{f:List Nat×List Nat}{u:Value}(hm:ev h e m=some (.map (some r)))(hk:ev h e k=some (wV f))(hr:h.get r=some (.map (uy ks)))(hf:IsW f)(h8:∀x∈ks,IsW x)
 (hu:(match tf f 0 ks with|some _=>Value.tuple #[.bool (jt f.1 f.2), .bool true]|none=> .tuple #[.bool false, .bool false])=u):aop h base e (.lookup true (aW 16 (.i .u64)) (.bool false) true m k)=some (.val u h):=by
 subst hu
 simp only[aop,hm,hk,hr,tq,Fa hf,cond_true,EP hf h8]
 cases tf f 0 ks<;>rfl
theorem Eb{base:Nat}{h:Heap}{e:Env}{m k v:Operand}{r:Nat}{ks:List (List Nat×List Nat)}{f:List Nat×List Nat}(hm:ev h e m=some (.map (some r)))(hk:ev h e k=some (wV f))(hv:ev h e v=some (.bool (jt f.1 f.2)))(hr:h.get r=some (.map (uy ks)))(hf:IsW f)(h8:∀x∈ks,IsW x)(hn:tf f 0 ks=none):
 aop h base e (.iy true (aW 16 (.i .u64)) m k v)=some (.val (.tuple #[]) (h.wr base r (.map (uy (ks++[f]))))):=by
 simp only[aop,hm,hk,hv,hr,Fa hf,cond_true,EP hf h8,hn,Option.map_none,dW]
 unfold uy;rw[List.map_append];rfl
theorem DY{base:Nat}{h:Heap}{e:Env}{x y:Operand}{a b:List Nat}(hx:ev h e x=some (sv a))(hy:ev h e y=some (sv b))(ha:IsS a)(hb:IsS b):aop h base e (.build (aW 16 (.int .u64 0)) [(0,8,x),(8,8,y)])=some (.val (wV (a,b)) h):=by
 refine dS ?_
 have e1:cg (aW 16 (.int .u64 0)) 0 (us a)=wL (a,s0):=JI (w:=(s0,s0)) ⟨lK,lK⟩ ha
 have e2:cg (wL (a,s0)) 8 (us b)=wL (a,b):=JJ (w:=(a,s0)) ⟨ha,lK⟩ hb
 have ca:cellsOf (sv a)=us a:=by show(us a).toArray.toList=_;simp
 have cb:cellsOf (sv b)=us b:=by show(us b).toArray.toList=_;simp
 have f1:Nat.ble (0+8) (bO (aW 16 (Value.int .u64 0)))=true:=rfl
 have f2:Nat.ble (8+8) (bO (wL (a,s0)))=true:=by rw[bN,iP (w:=(a,s0)) ⟨ha,lK⟩];rfl
 simp only[iJ,hx,hy,ca,cb,bU ha.len,bU hb.len,cond_true,e1,e2,f1,f2,Bool.and_self]
structure JY (T:Nat→Option af):Prop where
 fi:Bu T
 f238:T 64=some f238
def FrQ(m:Nat)(b:Bool)(v:Value)(h':Heap):Prop:=v= .bool b∧∃ks,h'.get m=some (.map (uy ks))∧∀k∈ks,IsW k
set_option maxHeartbeats 16000000 in
theorem BO(F:JY T){h:Heap}(hr:Rdy h)(hg:Tab h)(h2:0<h.next){m:Nat}{ks:List (List Nat×List Nat)}(gm:h.get m=some (.map (uy ks)))(hks:∀k∈ks,IsW k){a b:List Nat}(ha:IsS a)(hb:IsS b):
 Gs T 64 [.map (some m),sv a,sv b] h (fun z=>z=m) (FrQ m (jt a b)):=by
 have hp:=F.fi.ft.li.p
 have hmn:=hr.wf.gF gm
 refine .of hp F.f238 (fun v h1 h2 _ hn hx ⟨e,ks',q1,q2⟩=>⟨e,ks',(hx m hmn).trans q1,q2⟩) ?_
 have hca:cellsOf (sv a)=us a:=by show(us a).toArray.toList=_;simp
 have hcb:cellsOf (sv b)=us b:=by show(us b).toArray.toList=_;simp
 have x0:Ext h ((h.push (.cells (cellsOf (sv a)) true 1)).push (.cells (cellsOf (sv b)) true 1)):=((Ext.refl h).push _).push _
 have g4:((h.push (.cells (cellsOf (sv a)) true 1)).push (.cells (cellsOf (sv b)) true 1)).get h.next=some (.cells (us a) true 1):=by rw[hca];exact(z4 (Nat.lt_succ_self _)).trans (z3 h _)
 have g5:((h.push (.cells (cellsOf (sv a)) true 1)).push (.cells (cellsOf (sv b)) true 1)).get (h.next+1)=some (.cells (us b) true 1):=by rw[hcb];exact z3 _ _
 have n0:((h.push (.cells (cellsOf (sv a)) true 1)).push (.cells (cellsOf (sv b)) true 1)).next=h.next+2:=rfl
 have hnx:(h.push (.cells (cellsOf (sv a)) true 1)).next=h.next+1:=rfl
 refine y4 ?_;refine yB ?_;refine yB ?_;refine yM ?_;refine y3 ?_
 rw[hnx]
 generalize((h.push (.cells (cellsOf (sv a)) true 1)).push (.cells (cellsOf (sv b)) true 1))=H at*
 clear hnx
 have W:=x0.wf hr.wf
 have hL:=x0.log.trans hr.log
 have k1:=bU ha.len
 have k2:=dh ha.len
 have k3:=bU hb.len
 have k4:=dh hb.len
 have hw:IsW (a,b):=⟨ha,hb⟩
 have wk:=xA hw
 have wkl:=mF hw
 refine cH (E0:=[(0, .map (some m)),(4, .pointer (some ⟨h.next,0,none⟩)),(5, .pointer (some ⟨h.next+1,0,none⟩)),(7, .pointer (some ⟨H.next,0,none⟩))]) (P:=fun h'=>Ext H h'∧h'.next=H.next+1∧h'.get H.next=some (.cells (wL (a,b)) true 1)) ?_ ?_
 ·refine aq ?_;refine yV ?_;refine yV ?_
  refine ah (DY (by exact rfl) (by exact rfl) ha hb) ?_
  have wk1:=JH (a,b)
  have wkn:=iP hw
  refine ah (cZ) ?_;refine ah (bQ (by exact rfl) (by exact rfl) (by(simp(disch:=first|omega|(simp only[z1,z2];omega))only[z3,z4,z5,z6,z7,z1,z2,gm,g4,g5];exact rfl)) (by assumption) (by exact rfl) (by assumption)) ?_;refine ct ?_
  refine y1 ?_
  exact⟨rfl,rfl,rfl,ff (by omega) _ _,rfl,fE _ _⟩
 rintro G ⟨x1,n1,g7⟩
 have xx:=x0.trans x1
 have WG:=x1.wf W
 have hLG:=x1.log.trans hL
 have g4G:=(x1.old _ (by omega)).trans g4
 have g5G:=(x1.old _ (by omega)).trans g5
 have gmG:=(xx.old _ hmn).trans gm
 clear g4 g5
 cases hf:tf (a,b) 0 ks with
 |some j=>
  refine y4 ?_;refine yM ?_;refine yV ?_
  refine ah (Bz (ks:=ks) (f:=(a,b)) (u:= .tuple #[.bool (jt a b), .bool true]) (by exact rfl) (by exact rfl) gmG hw hks (by rw[hf])) ?_
  refine yM ?_;refine yE ?_;refine yE ?_;refine yM ?_;refine yM ?_;refine y3 ?_;refine an ?_
  refine y4 ?_;refine yM ?_;refine yA ?_;refine y3 ?_;refine yX ?_;refine bA ?_;refine bH ?_;refine y4 ?_
  refine yM ?_;refine yM ?_;refine y3 ?_;refine aM ?_
  refine pP (fun z hz=>by rw[hLG]at hz;cases hz) rfl ⟨rfl,ks,gmG,hks⟩
 |none=>
  refine y4 ?_;refine yM ?_;refine yV ?_
  refine ah (Bz (ks:=ks) (f:=(a,b)) (u:= .tuple #[.bool false, .bool false]) (by exact rfl) (by exact rfl) gmG hw hks (by rw[hf])) ?_
  refine yM ?_;refine yE ?_;refine yE ?_;refine yM ?_;refine yM ?_;refine y3 ?_;refine an ?_
  refine y4 ?_;refine yM ?_;refine yA ?_;refine y3 ?_;refine yY ?_;refine y4 ?_
  refine yV ?_;refine yV ?_
  have C:=K0 F.fi (h:={G with log:=[]}) (.of WG) (show Tab G from hg.ext xx h2) (by show 0<G.next;omega) ha hb
  refine yC ?_
  refine FW.al C (fun v h' lg q=>q) ?_
  clear C
  rintro _ G2 x2 ⟨t',x',y',z',rfl⟩
  have n2:=x2.next
  have hLG2:=x2.log.trans hLG
  have g72:=(x2.old _ (by omega)).trans g7
  have gm2:=(x2.old _ (by omega)).trans gmG
  refine yM ?_;refine yE ?_;refine yE ?_;refine yM ?_;refine y3 ?_;refine aq ?_;refine yM ?_
  refine yV ?_;refine yM ?_
  refine ah (Eb (ks:=ks) (f:=(a,b)) (by exact rfl) (by exact rfl) (by exact rfl) gm2 hw hks hf) ?_
  refine y3 ?_;refine y4 ?_;refine yM ?_;refine yM ?_;refine y3 ?_
  refine aM ?_
  refine pP (ML (fun z hz=>by rw[hLG2]at hz;cases hz) rfl) rfl ⟨rfl,ks++[(a,b)],by rw[z6,gm2];rfl,fun k hk=> ?_⟩
  rcases List.mem_append.1 hk with q|q
  ·exact hks k q
  ·rw[List.mem_singleton.1 q];exact hw
end Go.A.Pk
end
section
set_option maxRecDepth 100000
namespace Go.A.Pk
variable {T:Nat→Option af}
def bos(l:List Bool):List Value:=l.map .bool
theorem eV(l:List Bool):(bos l).length=l.length:=by simp[bos]
theorem vG(l:List Bool)(i:Nat)(b:Bool):(bos l).set i (.bool b)=bos (l.set i b):=by simp[bos,List.map_set]
theorem iM{l:List Value}{n:Nat}{v:Value}(h:n<l.length):cg l n [v]=l.set n v:=by
 rw[gu (by simp;omega),List.set_eq_take_append_cons_drop,if_pos h]
 simp
def bkL(ov sv:Value)(r:Int)(fo be:List Bool)(mo ms:Nat):List Value:=([ov,sv, .int .i64 r]++bos fo)++(bos be++[.map (some mo), .map (some ms)])
section
variable {ov sv:Value} {r:Int} {fo be:List Bool} {mo ms:Nat}
theorem lU(h1:fo.length=1600)(h2:be.length=800):(bkL ov sv r fo be mo ms).length=2405:=by
 unfold bkL;simp only[List.length_append,eV,h1,h2];rfl
theorem KL:bD (bkL ov sv r fo be mo ms) (0+0+0)=some ov:=rfl
theorem OU:bD (bkL ov sv r fo be mo ms) (0+0+1)=some sv:=rfl
theorem M3(h1:fo.length=1600){i k:Nat}(hi:i<40)(hk:k<40):bD (bkL ov sv r fo be mo ms) (0+3+i*40+k*1)=some (.bool (fo.getD (i*40+k) false)):=by
 have e:fo[i*40+k]? =some (fo.getD (i*40+k) false):=by
  rw[List.getD_eq_getElem?_getD,List.getElem?_eq_getElem (by omega)];rfl
 rw[cG]
 unfold bkL
 rw[List.getElem?_append_left (by rw[List.length_append,eV,h1];show _<3+1600;omega),List.getElem?_append_right (by show 3≤_;omega)]
 show(bos fo)[0+3+i*40+k*1-3]? =_
 rw[show 0+3+i*40+k*1-3=i*40+k by omega]
 unfold bos
 rw[List.getElem?_map,e];rfl
theorem M1(h1:fo.length=1600)(h2:be.length=800){i k:Nat}(hi:i<20)(hk:k<40):bD (bkL ov sv r fo be mo ms) (0+1603+i*40+k*1)=some (.bool (be.getD (i*40+k) false)):=by
 have e:be[i*40+k]? =some (be.getD (i*40+k) false):=by
  rw[List.getD_eq_getElem?_getD,List.getElem?_eq_getElem (by omega)];rfl
 have hl:([ov,sv,Value.int .i64 r]++bos fo).length=1603:=by rw[List.length_append,eV,h1];rfl
 rw[cG]
 unfold bkL
 rw[List.getElem?_append_right (by omega),hl,show 0+1603+i*40+k*1-1603=i*40+k by omega,List.getElem?_append_left (by rw[eV];omega)]
 unfold bos
 rw[List.getElem?_map,e];rfl
theorem BD(h1:fo.length=1600)(h2:be.length=800):bD (bkL ov sv r fo be mo ms) (0+2403)=some (.map (some mo))∧bD (bkL ov sv r fo be mo ms) (0+2404)=some (.map (some ms)):=by
 have hl:([ov,sv,Value.int .i64 r]++bos fo).length=1603:=by rw[List.length_append,eV,h1];rfl
 have hb:(bos be).length=800:=by rw[eV,h2]
 constructor
 ·rw[cG]
  unfold bkL
  rw[List.getElem?_append_right (by omega),hl,List.getElem?_append_right (by omega),hb];rfl
 ·rw[cG]
  unfold bkL
  rw[List.getElem?_append_right (by omega),hl,List.getElem?_append_right (by omega),hb];rfl
theorem HX(h1:fo.length=1600)(h2:be.length=800){i k:Nat}(hi:i<40)(hk:k<40)(b:Bool):cg (bkL ov sv r fo be mo ms) (0+3+i*40+k*1) (cellsOf (.bool b))=bkL ov sv r (fo.set (i*40+k) b) be mo ms:=by
 show cg _ _ [Value.bool b]=_
 rw[iM (by rw[lU h1 h2];omega)]
 unfold bkL
 rw[List.set_append_left _ _ (by rw[List.length_append,eV,h1];show _<3+1600;omega),List.set_append_right _ _ (by show 3≤_;omega)]
 show([ov,sv,Value.int .i64 r]++(bos fo).set (0+3+i*40+k*1-3) (.bool b))++_=_
 rw[show 0+3+i*40+k*1-3=i*40+k by omega,vG]
theorem HW(h1:fo.length=1600)(h2:be.length=800){i k:Nat}(hi:i<20)(hk:k<40)(b:Bool):cg (bkL ov sv r fo be mo ms) (0+1603+i*40+k*1) (cellsOf (.bool b))=bkL ov sv r fo (be.set (i*40+k) b) mo ms:=by
 have hl:([ov,sv,Value.int .i64 r]++bos fo).length=1603:=by rw[List.length_append,eV,h1];rfl
 show cg _ _ [Value.bool b]=_
 rw[iM (by rw[lU h1 h2];omega)]
 unfold bkL
 rw[List.set_append_right _ _ (by omega),hl,show 0+1603+i*40+k*1-1603=i*40+k by omega,List.set_append_left _ _ (by rw[eV];omega),vG]
end
def kn(ids:List Int):List (Value×Value):=ids.zipIdx.map fun x=>(.int .i64 x.1, .int .i64 ((x.2:Nat):Int))
theorem Kk:∀{ids:List Int} {c:Int} {i j:Nat},ji false [.i .i64] (.int .i64 c) i (((ids.zipIdx j).map fun x=>((.int .i64 x.1:Value),(.int .i64 ((x.2:Nat):Int):Value))))=some ((jS c i ids).map fun p=>(p, .int .i64 ((p-i+j:Nat):Int)))
 |[],_,_,_=>rfl
 |x::ids,c,i,j=>by
  rw[List.zipIdx_cons,List.map_cons]
  unfold ji jS
  have ke:lC false [.i .i64] (.int .i64 c) (.int .i64 x)=some (decide (c=x)):=by
   exact NT c x
  rw[ke]
  by_cases e:c=x
  ·rw[decide_eq_true e,if_pos e]
   simp
  ·rw[decide_eq_false e,if_neg e]
   have ih:=Kk (ids:=ids) (c:=c) (i:=i+1) (j:=j+1)
   dsimp only
   rw[ih]
   cases hq:jS c (i+1) ids with
   |none=>rfl
   |some p=>
    have:=(j9 hq).1
    simp only[z7,Option.some.injEq,Prod.mk.injEq,true_and]
    congr 2
    omega
end Go.A.Pk
end
section
set_option maxRecDepth 100000
namespace Go.A.Pk
variable {T:Nat→Option af}
theorem zN{α:Type}(l:List α)(x:α):(l++[x]).zipIdx=l.zipIdx++[(x,l.length)]:=by
 rw[List.zipIdx_append];simp
theorem Ea{base:Nat}{h:Heap}{e:Env}{m k v:Operand}{r n:Nat}{ids:List Int}{c:Int}(hm:ev h e m=some (.map (some r)))(hk:ev h e k=some (.int .i64 c))(hv:ev h e v=some (.int .i64 (n:Nat)))(hl:ids.length=n)(hr:h.get r=some (.map (kn ids)))(hn:c ∉ ids):
 aop h base e (.iy false [.i .i64] m k v)=some (.val (.tuple #[]) (h.wr base r (.map (kn (ids++[c]))))):=by
 subst hl
 have hf:=Kk (ids:=ids) (c:=c) (i:=0) (j:=0)
 have hi:jS c 0 ids=none:=by
  cases q:jS c 0 ids with
  |none=>rfl
  |some j=>exact absurd (List.mem_of_getElem? (j9 q).2) hn
 rw[hi]at hf
 have e1:kn (ids++[c])=kn ids++[(.int .i64 c, .int .i64 ((ids.length:Nat):Int))]:=by unfold kn;rw[zN,List.map_append];rfl
 have hf':ji false [.i .i64] (.int .i64 c) 0 (kn ids)=some none:=hf
 simp only[aop,hm,hk,hv,hr,Ah,cond_true,hf',dW,e1]
theorem vw{base:Nat}{e:Env}{h:Heap}{ops:List bB}{bf:List Nat}{rs rs':List Rec}{Q:Env→Heap→Prop}{i mask:Nat}{is:List Nat}{dst:Option Nat}{m k v:Operand}{g:Option (Nat×Bool)}{er:Env}{r n:Nat}{ids:List Int}{c:Int}(ho:bD ops i=some ⟨dst, .iy false [.i .i64] m k v,g⟩)(hm:bD bf i=some mask)
 (he:cu e (cQ ⟨dst, .iy false [.i .i64] m k v,g⟩)=er)(hw:bY er g=some true)(hmv:ev {h with log:=[]} er m=some (.map (some r)))(hk:ev {h with log:=[]} er k=some (.int .i64 c))(hv:ev {h with log:=[]} er v=some (.int .i64 (n:Nat)))(hl:ids.length=n)(hr:h.get r=some (.map (kn ids)))(hn:c ∉ ids)(hlt:r<h.next)
 (hrs:bF (h.wr base r (.map (kn (ids++[c])))) base [r] mask rs=some rs')
 (H:WD T base ops bf Q is rs' (cD e dst (.tuple #[])) (h.wr base r (.map (kn (ids++[c]))))):WD T base ops bf Q (i::is) rs e h:=
 qi ho hm he hw rfl (Ea (h:={h with log:=[]}) hmv hk hv hl hr hn) (EM hlt _) (th hlt _) hrs H
def TbS(R n:Nat)(f:Nat→Nat→Bool)(i k:Nat)(l:List Bool):Prop:=l.length=R*40∧∀a b,a<R→b<40→l.getD (a*40+b) false=(decide ((a<i∨a=i∧b<k)∧b<n)&&f a b)
theorem CC{l:List Bool}{i j:Nat}{x:Bool}(h:i<l.length):(l.set i x).getD j false=if i=j then x else l.getD j false:=by
 rw[List.getD_eq_getElem?_getD,List.getD_eq_getElem?_getD,List.getElem?_set]
 by_cases e:i=j
 ·rw[if_pos e,if_pos e,if_pos h];rfl
 ·rw[if_neg e,if_neg e]
theorem TbS.zero(R n:Nat)(f:Nat→Nat→Bool):TbS R n f 0 0 (List.replicate (R*40) false):=by
 refine⟨List.length_replicate,fun a b ha hb=> ?_⟩
 rw[List.getD_eq_getElem?_getD,List.getElem?_replicate,if_pos (by omega),decide_eq_false (by omega)];rfl
theorem TbS.put{R n i k:Nat}{f:Nat→Nat→Bool}{l:List Bool}(h:TbS R n f i k l)(hi:i<R)(hk:k<40)(hn:k<n):TbS R n f i (k+1) (l.set (i*40+k) (f i k)):=by
 refine⟨by rw[List.length_set];exact h.1,fun a b ha hb=> ?_⟩
 rw[CC (by rw[h.1];omega)]
 by_cases e:i*40+k=a*40+b
 ·obtain rfl:i=a:=by omega
  obtain rfl:k=b:=by omega
  rw[if_pos rfl,decide_eq_true ⟨.inr ⟨rfl,by omega⟩,hn⟩];rfl
 ·rw[if_neg e,h.2 a b ha hb]
  congr 1
  refine decide_eq_decide.2 ?_
  omega
theorem TbS.row{R n i k:Nat}{f:Nat→Nat→Bool}{l:List Bool}(h:TbS R n f i k l)(hk:n≤k):TbS R n f (i+1) 0 l:=by
 refine⟨h.1,fun a b ha hb=> ?_⟩
 rw[h.2 a b ha hb]
 congr 1
 refine decide_eq_decide.2 ?_
 omega
def yj(x y:Od):Bool:=decide (y.fr>x.to)&&decide (x.size=y.size)&&jt x.cI y.cI
def Cw(x:Sp)(y:Od):Bool:=decide (x.size=y.size)&&jt x.cI y.cI
def oS(os:List Od)(i k:Nat):Bool:=match os[i]?,os[k]? with|some x,some y=>yj x y|_,_=>false
def ot(ss:List Sp)(os:List Od)(i k:Nat):Bool:=match ss[i]?,os[k]? with|some x,some y=>Cw x y|_,_=>false
structure OpI (h G:Heap) (p1 q mo ms mc:Nat) (ov sv:Value) (r:Int) (fo be:List Bool) (io is':List Int):Prop where
 wf:WF G
 log:G.log=[]
 np:h.next≤p1∧p1<G.next
 nq:h.next≤q∧q<G.next
 no:h.next≤mo∧mo<G.next
 ns:h.next≤ms∧ms<G.next
 nc:h.next≤mc∧mc<G.next
 old:∀z,z<h.next→G.get z=h.get z
 g1:G.get p1=some (.cells (seL ov sv r) true 1)
 gq:G.get q=some (.cells (bkL ov sv r fo be mo ms) true 1)
 l1:fo.length=1600
 l2:be.length=800
 gmo:G.get mo=some (.map (kn io))
 gms:G.get ms=some (.map (kn is'))
 gmc:∃ks,G.get mc=some (.map (uy ks))∧∀k∈ks,IsW k
section
variable {h G:Heap} {p1 q mo ms mc:Nat} {ov sv:Value} {r:Int} {fo be:List Bool} {io is':List Int}
theorem OpI.ext(I:OpI h G p1 q mo ms mc ov sv r fo be io is'){G':Heap}(x:Ext G G'):OpI h G' p1 q mo ms mc ov sv r fo be io is':=by
 have n:=x.next
 obtain⟨ks,a,b⟩:=I.gmc
 have:=I.np;have:=I.nq;have:=I.no;have:=I.ns;have:=I.nc
 exact⟨x.wf I.wf,x.log.trans I.log,by omega,by omega,by omega,by omega,by omega,fun z hz=>(x.old z (by omega)).trans (I.old z hz),(x.old _ (by omega)).trans I.g1,(x.old _ (by omega)).trans I.gq,I.l1,I.l2,(x.old _ (by omega)).trans I.gmo,(x.old _ (by omega)).trans I.gms,ks,(x.old _ (by omega)).trans a,b⟩
theorem OpI.wr(I:OpI h G p1 q mo ms mc ov sv r fo be io is'){base b:Nat}{o:bK}(hb:base≤h.next)(hbn:h.next≤b){fo' be':List Bool}{io' is2:List Int}(n1:p1≠b)(n5:mc≠b)(gq:(G.wr base b o).get q=some (.cells (bkL ov sv r fo' be' mo ms) true 1))(l1:fo'.length=1600)(l2:be'.length=800)
 (gmo:(G.wr base b o).get mo=some (.map (kn io')))(gms:(G.wr base b o).get ms=some (.map (kn is2))):OpI h (G.wr base b o) p1 q mo ms mc ov sv r fo' be' io' is2:=by
 obtain⟨ks,a,c⟩:=I.gmc
 exact⟨I.wf.as (AS.wr base _ _ _),(Heap.aL (by omega)).trans I.log,I.np,I.nq,I.no,I.ns,I.nc,fun z hz=>(z5 (by omega)).trans (I.old z hz),(z5 n1).trans I.g1,gq,l1,l2,gmo,gms,ks,(z5 n5).trans a,c⟩
theorem OpI.mem(I:OpI h G p1 q mo ms mc ov sv r fo be io is'){G':Heap}{base:Nat}(x:WsL base (fun z=>z=mc) G G')(hb:base≤mc)(n1:p1≠mc)(n2:q≠mc)(n3:mo≠mc)(n4:ms≠mc)(gm:∃ks,G'.get mc=some (.map (uy ks))∧∀k∈ks,IsW k):OpI h G' p1 q mo ms mc ov sv r fo be io is':=by
 have n:=x.next
 have:=I.np;have:=I.nq;have:=I.no;have:=I.ns;have:=I.nc
 refine⟨x.wf I.wf,List.eq_nil_iff_forall_not_mem.2 fun z hz=> ?_,by omega,by omega,by omega,by omega,by omega,fun z hz=>(x.old z (by omega) (show¬z=mc by omega)).trans (I.old z hz),(x.old _ (by omega) n1).trans I.g1,(x.old _ (by omega) n2).trans I.gq,I.l1,I.l2,(x.old _ (by omega) n3).trans I.gmo,(x.old _ (by omega) n4).trans I.gms,gm⟩
 rcases x.QA z hz with e|⟨e,e2⟩
 ·rw[I.log]at e;cases e
 ·have:z=mc:=e
  omega
end
theorem Fp{a b c x y z:Value}{X:List Value}:cg ([a,b,c]++X) 0 [x,y,z]=[x,y,z]++X:=by
 rw[gu (by rw[List.length_append];show 0+3≤3+X.length;omega)];rfl
theorem BU{P:List Value}{n:Nat}(h:P.length=n){u w v:Value}:cg (P++[u,w]) n [v]=P++[v,w]∧cg (P++[u,w]) (n+1) [v]=P++[u,v]:=by
 subst h
 have hl:(P++[u,w]).length=P.length+2:=by rw[List.length_append];rfl
 constructor
 ·rw[iM (by omega),List.set_append_right _ _ (Nat.le_refl _),Nat.sub_self];rfl
 ·rw[iM (by omega),List.set_append_right _ _ (Nat.le_succ _),show P.length+1-P.length=1 by omega];rfl
theorem Ig{h:Heap}{e:Env}{x y z:Operand}{ov sv:Value}{r:Int}{mo ms n:Nat}{A:List Value}(hA:A.length=n){a b c u w:Value}(hx:ev h e x=some (seV ov sv r))(hy:ev h e y=some (.map (some mo)))(hz:ev h e z=some (.map (some ms))):
 iJ h e ([a,b,c]++(A++[u,w])) [(0,3,x),(n+3,1,y),(n+4,1,z)]=some ([ov,sv, .int .i64 r]++(A++[.map (some mo), .map (some ms)])):=by
 have cx:cellsOf (seV ov sv r)=[ov,sv, .int .i64 r]:=rfl
 have cy:cellsOf (.map (some mo))=[.map (some mo)]:=rfl
 have cz:cellsOf (.map (some ms))=[.map (some ms)]:=rfl
 have b1:Nat.beq (bO [ov,sv,Value.int .i64 r]) 3=true:=rfl
 have b2:∀v:Value,Nat.beq (bO [v]) 1=true:=fun _=>rfl
 have hl:∀(p q s u w:Value),([p,q,s]++(A++[u,w])).length=n+5:=fun p q s u w=>by rw[List.length_append,List.length_append,hA];show 3+(n+2)=_;omega
 have k0:Nat.ble (0+3) (bO ([a,b,c]++(A++[u,w])))=true:=by rw[bN,hl];exact gJ (by omega)
 have k1:∀u w:Value,Nat.ble (n+3+1) (bO ([ov,sv,Value.int .i64 r]++(A++[u,w])))=true:=fun u w=>by rw[bN,hl];exact gJ (by omega)
 have k2:∀u w:Value,Nat.ble (n+4+1) (bO ([ov,sv,Value.int .i64 r]++(A++[u,w])))=true:=fun u w=>by rw[bN,hl];exact gJ (by omega)
 have hP:([ov,sv,Value.int .i64 r]++A).length=n+3:=by rw[List.length_append,hA];show 3+n=_;omega
 have e1:=fun v:Value=>(BU hP (u:=u) (w:=w) (v:=v)).1
 have e2:=fun v1 v:Value=>(BU hP (u:=v1) (w:=w) (v:=v)).2
 simp only[List.append_assoc]at e1 e2
 simp only[iJ,hx,hy,hz,cx,cy,cz,b1,b2,k0,k1,k2,Bool.and_self,cond_true,Fp,e1,e2]
theorem Cr{base:Nat}{h:Heap}{e:Env}{x y z:Operand}{ov sv:Value}{r:Int}{mo ms:Nat}(hx:ev h e x=some (seV ov sv r))(hy:ev h e y=some (.map (some mo)))(hz:ev h e z=some (.map (some ms))):
 aop h base e (.build (dO [.slice none 0 0, .slice none 0 0,I.O] (dO (aW 2400 (.bool false)) [.map none, .map none])) [(0,3,x),(2403,1,y),(2404,1,z)])=some (.val (.agg (bkL ov sv r (List.replicate 1600 false) (List.replicate 800 false) mo ms).toArray) h):=by
 refine dS ?_
 rw[dW,dW,we]
 have e3:bkL ov sv r (List.replicate 1600 false) (List.replicate 800 false) mo ms=[ov,sv,Value.int .i64 r]++(List.replicate 2400 (Value.bool false)++[.map (some mo), .map (some ms)]):=by
  unfold bkL bos
  rw[List.map_replicate,List.map_replicate,List.append_assoc,←List.append_assoc (List.replicate 1600 _),List.replicate_append_replicate]
 rw[e3]
 exact Ig (n:=2400) List.length_replicate hx hy hz
def BkH(h':Heap)(q:Nat)(ov sv:Value)(r:Int)(os:List Od)(ss:List Sp):Prop:=∃fo be mo ms,h'.get q=some (.cells (bkL ov sv r fo be mo ms) true 1)∧fo.length=1600∧be.length=800∧(∀a b,a<40→b<40→fo.getD (a*40+b) false=oS os a b)∧(∀a b,a<20→b<40→be.getD (a*40+b) false=ot ss os a b)∧h'.get mo=some (.map (kn (os.map Od.id)))∧h'.get ms=some (.map (kn (ss.map Sp.id)))
def OpQ(lo:Nat)(ov sv:Value)(r:Int)(os:List Od)(ss:List Sp)(v:Value)(h':Heap):Prop:=(seB os ss r=false∧v= .tuple #[.pointer none, .int .i64 1])∨(seB os ss r=true∧∃q,v= .tuple #[.pointer (some ⟨q,0,none⟩), .int .i64 0]∧lo≤q∧q<h'.next∧BkH h' q ov sv r os ss)
structure Bs (T:Nat→Option af):Prop where
 cs:JX T
 fm:JY T
 f164:T 35=some f164
theorem Mf{os:List Od}{ss:List Sp}{r:Int}(h:seB os ss r=true):os.length≤40∧ss.length≤20∧(os.map Od.id).Nodup∧(ss.map Sp.id).Nodup∧(∀x∈os,odB x=true)∧(∀x∈ss,spB x=true)∧inR r 0 1000=true:=by
 unfold seB at h
 simp only[Bool.and_eq_true,decide_eq_true_eq]at h
 obtain⟨⟨⟨⟨h1,h2⟩,h3⟩,h4⟩,h5⟩:=h
 have a:=mV.1 h1
 have b:=mV.1 h2
 exact⟨h3,h4,a.2.1,b.2.1,a.1,b.1,h5⟩
theorem oM{α:Type}{f:α→Int}{l:List α}{i:Nat}{x:α}(h:l[i]? =some x):(l.take (i+1)).map f=(l.take i).map f++[f x]:=by
 obtain⟨hlt,rfl⟩:=List.getElem?_eq_some_iff.1 h
 rw[List.take_succ_eq_append_getElem hlt,List.map_append];rfl
theorem qd{α:Type}{f:α→Int}{l:List α}{i:Nat}{x:α}(hn:(l.map f).Nodup)(h:l[i]? =some x):f x ∉ (l.take i).map f:=by
 intro hm
 obtain⟨y,hy,e⟩:=List.mem_map.1 hm
 obtain⟨j,hj⟩:=List.getElem?_of_mem hy
 have hji:j<i:=by
  have:=(List.getElem?_eq_some_iff.1 hj).1
  rw[List.length_take]at this;omega
 rw[List.getElem?_take_of_lt hji]at hj
 obtain⟨h1,e1⟩:=List.getElem?_eq_some_iff.1 hj
 obtain⟨h2,e2⟩:=List.getElem?_eq_some_iff.1 h
 have:=List.pairwise_iff_getElem.1 hn j i (by rw[List.length_map];exact h1) (by rw[List.length_map];exact h2) hji
 apply this
 rw[List.getElem_map,List.getElem_map,e1,e2,e]
def hdQ:aU→aU
 | .seq a _=>a
 |_=> .skip
def opA:aU:=hdQ (tlC (tlC (tlC (tlC (cdF f164)))))
set_option maxHeartbeats 64000000 in
theorem LQ(F:Bs T){h G:Heap}(hr:Rdy h)(hg:Tab h)(h2:0<h.next){a:Option Addr}{c:Nat}{ov sv:Value}{os:List Od}{r:Int}(so:OdS h ov os)(hov:(.slice a os.length c:Value)=ov)(hov1:dG [ov]=true)(hsv1:dG [sv]=true)(h40:os.length≤40)(hno:(os.map Od.id).Nodup)
 {p1 q mo ms mc:Nat}(d:p1<mo∧mo<ms∧ms<q∧q<mc){be:List Bool}{is':List Int}(I:OpI h G p1 q mo ms mc ov sv r (List.replicate 1600 false) be [] is'):
 WE T h.next none opA (fun x e' ds' h'=>x= .normal∧(∃r,e'=(1, .pointer (some ⟨p1,0,none⟩))::(5, .pointer (some ⟨q,0,none⟩))::(6, .map (some mc))::r)∧ds'=[]∧∃fo,OpI h h' p1 q mo ms mc ov sv r fo be (os.map Od.id) is'∧TbS 40 os.length (oS os) os.length 0 fo) [(1, .pointer (some ⟨p1,0,none⟩)),(5, .pointer (some ⟨q,0,none⟩)),(6, .map (some mc))] [] G:=by
 have b0:=I.np
 have b1:=I.nq
 have b2:=I.nc
 have g1:=I.g1
 have s0:bD (seL ov sv r) (0+0)=some ov:=rfl
 unfold opA hdQ tlC cdF f164
 dsimp only
 subst hov
 refine y4 ?_;refine yF ?_;refine yL ?_;refine yD ?_;refine yM ?_;refine y3 ?_;refine aO ?_
 refine dL (fun m e ds h'=>∃i:Nat,∃fo,i≤os.length∧os.length-i=m∧e=[(1, .pointer (some ⟨p1,0,none⟩)),(5, .pointer (some ⟨q,0,none⟩)),(6, .map (some mc)),(27, .slice a os.length c),(28, .int .i64 (os.length:Nat)),(29, .int .i64 (i:Nat))]∧ds=[]∧OpI h h' p1 q mo ms mc (.slice a os.length c) sv r fo be ((os.take i).map Od.id) is'∧TbS 40 os.length (oS os) i 0 fo)
  ⟨0,_,Nat.zero_le _,rfl,rfl,rfl,I, .zero _ _ _⟩ ?_
 rintro m e ds G1 ⟨i,fo,hi,rfl,rfl,rfl,I1,T1⟩
 clear I g1
 have W1:=I1.wf
 have hL1:=I1.log
 have c1:=I1.np
 have c2':=I1.no
 have c3:=I1.nc
 have c4:=I1.nq
 by_cases hlt:i<os.length
 ·obtain⟨x,hx⟩:∃r,os[i]? =some r:=⟨os[i],List.getElem?_eq_getElem hlt⟩
  have hxw:=so.ok x (List.mem_of_getElem? hx)
  obtain⟨b,o,cc,vs,own,tt,hv,gl,hbl,el⟩:=so.elem hx
  cases hv
  have gl1:=(I1.old _ hbl).trans gl
  have mlt:aA .lss (.int .i64 (i:Nat)) (.int .i64 (os.length:Nat))=some (.bool true):=gP (by omega)
  have k1:=ny hxw
  have k2:=qe hxw
  have k3:=fS hxw
  have k4:=nA x
  refine y4 ?_;refine yW ?_;refine y3 ?_;refine an ?_;refine yY ?_;refine bA ?_;refine bH ?_;refine an ?_;refine aO ?_
  refine cH (E0:=[(1, .pointer (some ⟨p1,0,none⟩)),(5, .pointer (some ⟨q,0,none⟩)),(6, .map (some mc)),(7, .int .i64 (i:Nat)),(8, .pointer (some ⟨G1.next,0,none⟩)),(27, .slice (some ⟨b,o,none⟩) os.length c),(28, .int .i64 (os.length:Nat)),(29, .int .i64 (i:Nat))]) (P:=fun h'=>Ext G1 h'∧h'.next=G1.next+1∧h'.get G1.next=some (.cells (odL x) true 1)) ?_ ?_
  ·refine aq ?_;refine yM ?_;refine yI ?_;refine yV ?_;refine ah (cZ) ?_;refine yM ?_
   refine ah (bQ (by exact rfl) (by exact rfl) (by(simp(disch:=first|omega|(simp only[z1,z2];omega))only[z3,z4,z5,z6,z7,z1,z2,gl,gl1];exact rfl)) (by assumption) (by exact rfl) (by exact cF _)) ?_;refine ct ?_
   refine y1 ?_
   exact⟨rfl,rfl,rfl,ff (by omega) _ _,rfl,fE _ _⟩
  rintro G2 ⟨x2,n2,g8⟩
  have I2:=I1.ext x2
  have gq2:=I2.gq
  have gmo2:=I2.gmo
  have kt:=(BD (ov:= .slice (some ⟨b,o,none⟩) os.length c) (sv:=sv) (r:=r) (mo:=mo) (ms:=ms) I2.l1 I2.l2).1
  have ki:bD (odL x) (0+0)=some (.int .i64 x.id):=rfl
  have hnm:=qd (f:=Od.id) hno hx
  have htl:((os.take i).map Od.id).length=i:=by rw[List.length_map,List.length_take];omega
  clear k1 k2 k3 k4 I1 gl1 hL1 W1
  refine an ?_;refine dn ?_;refine qM ?_;refine aF rfl rfl rfl (by exact rfl) (by exact rfl) (by exact rfl) (bP (by exact rfl)) ?_;refine qF ?_
  refine qK ?_;refine qF ?_;refine qL ?_
  refine qM ?_
  refine vw (ids:=(os.take i).map Od.id) (c:=x.id) (n:=i) rfl rfl rfl (by exact rfl) (by exact rfl) (by exact rfl) (by exact rfl) htl gmo2 hnm (by omega) (by(repeat apply aT rfl);exact cO) ?_
  refine dH ?_;refine y1 ?_;refine bH ?_
  rw[←oM hx]
  have I3:OpI h (G2.wr h.next mo (.map (kn ((os.take (i+1)).map Od.id)))) p1 q mo ms mc (.slice (some ⟨b,o,none⟩) os.length c) sv r fo be ((os.take (i+1)).map Od.id) is':=
   I2.wr (Nat.le_refl _) (by omega) (by omega) (by omega) ((z5 (by omega)).trans gq2) I2.l1 I2.l2 (by rw[z6,gmo2];rfl) ((z5 (by omega)).trans I2.gms)
  have g83:(G2.wr h.next mo (.map (kn ((os.take (i+1)).map Od.id)))).get G1.next=some (.cells (odL x) true 1):=(z5 (by omega)).trans g8
  have n3:(G2.wr h.next mo (.map (kn ((os.take (i+1)).map Od.id)))).next=G2.next:=rfl
  generalize(G2.wr h.next mo (.map (kn ((os.take (i+1)).map Od.id))))=G3 at*
  have g13:=I3.g1
  clear I2 gq2 gmo2 kt ki hnm htl g8
  refine y4 ?_;refine yF ?_;refine yL ?_;refine yD ?_;refine yM ?_;refine y3 ?_;refine aO ?_
  refine dL (fun m e ds h'=>∃k:Nat,∃fo,k≤os.length∧os.length-k=m∧e=[(1, .pointer (some ⟨p1,0,none⟩)),(5, .pointer (some ⟨q,0,none⟩)),(6, .map (some mc)),(7, .int .i64 (i:Nat)),(8, .pointer (some ⟨G1.next,0,none⟩)),(27, .slice (some ⟨b,o,none⟩) os.length c),(28, .int .i64 (os.length:Nat)),(29, .int .i64 (i:Nat)),(42, .slice (some ⟨b,o,none⟩) os.length c),(43, .int .i64 (os.length:Nat)),(44, .int .i64 (k:Nat))]∧ds=[]∧OpI h h' p1 q mo ms mc (.slice (some ⟨b,o,none⟩) os.length c) sv r fo be ((os.take (i+1)).map Od.id) is'∧TbS 40 os.length (oS os) i k fo∧h'.get G1.next=some (.cells (odL x) true 1)∧G1.next<h'.next)
   ⟨0,fo,Nat.zero_le _,rfl,rfl,rfl,I3,T1,g83,by omega⟩ ?_
  clear I3 T1 g83 g13 n3
  rintro m e ds J ⟨k,fo,hk,rfl,rfl,rfl,IJ,TJ,g8J,nJ⟩
  have WJ:=IJ.wf
  have hLJ:=IJ.log
  by_cases hkt:k<os.length
  ·obtain⟨y,hy⟩:∃r,os[k]? =some r:=⟨os[k],List.getElem?_eq_getElem hkt⟩
   have hyw:=so.ok y (List.mem_of_getElem? hy)
   obtain⟨b',o',cc',vs',own',tt',hv,gl',hbl',el'⟩:=so.elem hy
   cases hv
   have gl1:=(IJ.old _ hbl).trans gl'
   have mlt:aA .lss (.int .i64 (k:Nat)) (.int .i64 (os.length:Nat))=some (.bool true):=gP (by omega)
   have k1:=ny hyw
   have k2:=qe hyw
   have k3:=fS hyw
   have k4:=nA y
   refine y4 ?_;refine yW ?_;refine y3 ?_;refine an ?_;refine yY ?_;refine bA ?_;refine bH ?_;refine an ?_;refine aO ?_
   refine cH (E0:=[(1, .pointer (some ⟨p1,0,none⟩)),(5, .pointer (some ⟨q,0,none⟩)),(6, .map (some mc)),(7, .int .i64 (i:Nat)),(8, .pointer (some ⟨G1.next,0,none⟩)),(9, .int .i64 (k:Nat)),(10, .pointer (some ⟨J.next,0,none⟩)),(27, .slice (some ⟨b,o,none⟩) os.length c),(28, .int .i64 (os.length:Nat)),(29, .int .i64 (i:Nat)),(42, .slice (some ⟨b,o,none⟩) os.length c),(43, .int .i64 (os.length:Nat)),(44, .int .i64 (k:Nat))]) (P:=fun h'=>Ext J h'∧h'.next=J.next+1∧h'.get J.next=some (.cells (odL y) true 1)) ?_ ?_
   ·refine aq ?_;refine yM ?_;refine yI ?_;refine yV ?_;refine ah (cZ) ?_;refine yM ?_
    refine ah (bQ (by exact rfl) (by exact rfl) (by(simp(disch:=first|omega|(simp only[z1,z2];omega))only[z3,z4,z5,z6,z7,z1,z2,gl,g8J,gl',gl1];exact rfl)) (by assumption) (by exact rfl) (by exact cF _)) ?_;refine ct ?_
    refine y1 ?_
    exact⟨rfl,rfl,rfl,ff (by omega) _ _,rfl,fE _ _⟩
   rintro J2 ⟨xJ2,nJ2,g10⟩
   have IJ2:=IJ.ext xJ2
   have g8J2:=(xJ2.old _ nJ).trans g8J
   clear k1 k2 k3 k4 IJ gl1 hLJ WJ g8J
   have hf:oS os i k=yj x y:=by unfold oS;rw[hx,hy]
   have TP:=TJ.put (by omega) (by omega) hkt
   rw[hf]at TP
   have l1:=IJ2.l1
   have l2:=IJ2.l2
   have gq:=IJ2.gq
   have kw:=fun bb=>HX (ov:= .slice (some ⟨b,o,none⟩) os.length c) (sv:=sv) (r:=r) (mo:=mo) (ms:=ms) l1 l2 (i:=i) (k:=k) (by omega) (by omega) bb
   have kc:∀bb:Bool,(Nat.beq (bO (cellsOf (.bool bb))) 1&&Nat.ble (0+3+i*40+k*1+1) (bO (bkL (.slice (some ⟨b,o,none⟩) os.length c) sv r fo be mo ms))&&dG (cellsOf (.bool bb)))=true:=fun bb=>by
    rw[bN (bkL _ _ _ _ _ _ _),lU l1 l2,gJ (by omega)];rfl
   have wy1:bD (odL y) (0+1)=some (.int .i64 y.fr):=rfl
   have x2':bD (odL x) (0+2)=some (.int .i64 x.to):=rfl
   have wy3:bD (odL y) (0+3)=some (.int .i64 y.size):=rfl
   have x3':bD (odL x) (0+3)=some (.int .i64 x.size):=rfl
   have wy5:=lI hyw
   have x5:=lI hxw
   have yl:=bU hyw.len
   have xl:=bU hxw.len
   by_cases h1:y.fr>x.to
   case neg=>
    have m1:aA .gtr (.int .i64 y.fr) (.int .i64 x.to)=some (.bool false):=mb (by omega)
    rw[show yj x y=false by unfold yj;rw[decide_eq_false h1];rfl]at TP
    refine dn ?_;refine qM ?_;refine qM ?_;refine qM ?_
    refine qF ?_;refine qL ?_;refine qF ?_
    refine qL ?_;refine qW ?_;refine qM ?_
    refine qO ?_;refine qO ?_;refine qO ?_;refine qO ?_;refine qO ?_;refine aF rfl rfl rfl (by exact rfl) (by exact rfl) (by exact rfl) (iQ (by exact rfl) (by exact rfl)) ?_
    refine qM ?_;refine qO ?_;refine qO ?_;refine qO ?_;refine qO ?_;refine qO ?_
    refine aF rfl rfl rfl (by exact rfl) (by exact rfl) (by exact rfl) (bP (by exact rfl)) ?_;refine qF ?_;refine qJ ?_;refine qO ?_
    refine aF rfl rfl rfl (by exact rfl) (by exact rfl) (by exact rfl) (iQ (by exact rfl) (by exact rfl)) ?_;refine qJ ?_
    refine ec (vs:=bkL (.slice (some ⟨b,o,none⟩) os.length c) sv r fo be mo ms) (ws:=bkL (.slice (some ⟨b,o,none⟩) os.length c) sv r (fo.set (i*40+k) false) be mo ms) rfl rfl rfl (by exact rfl) (by exact rfl) (by exact rfl) gq (kc false) (kw false) (by omega) (by(repeat apply aT rfl);exact cO) ?_
    refine dH ?_;refine y1 ?_;refine fF ?_;refine bH ?_;refine aq ?_;refine iI ?_;refine yM ?_;refine y3 ?_
    exact⟨os.length-(k+1),by omega,k+1,_,by omega,rfl,rfl,rfl,IJ2.wr (Nat.le_refl _) (by omega) (by omega) (by omega) (Heap.aJ gq) (by rw[List.length_set];exact l1) l2 ((z5 (by omega)).trans IJ2.gmo) ((z5 (by omega)).trans IJ2.gms),TP,(z5 (by omega)).trans g8J2,by show G1.next<J2.next;omega⟩
   have m1:aA .gtr (.int .i64 y.fr) (.int .i64 x.to)=some (.bool true):=mg (by omega)
   by_cases h3:x.size=y.size
   case neg=>
    have m2:aA .eql (.int .i64 x.size) (.int .i64 y.size)=some (.bool false):=wg h3
    rw[show yj x y=false by unfold yj;rw[decide_eq_false h3,Bool.and_false];rfl]at TP
    refine dn ?_;refine qM ?_;refine qM ?_;refine qM ?_
    refine qF ?_;refine qL ?_;refine qF ?_
    refine qL ?_;refine qW ?_;refine qM ?_
    refine qF ?_;refine qL ?_;refine qF ?_
    refine qL ?_;refine qW ?_;refine aF rfl rfl rfl (by exact rfl) (by exact rfl) (by exact rfl) (iR (by exact rfl) (by exact rfl)) ?_
    refine qM ?_;refine qO ?_;refine qO ?_;refine qO ?_;refine qO ?_;refine qO ?_
    refine aF rfl rfl rfl (by exact rfl) (by exact rfl) (by exact rfl) (bP (by exact rfl)) ?_;refine qF ?_;refine qJ ?_;refine qO ?_
    refine aF rfl rfl rfl (by exact rfl) (by exact rfl) (by exact rfl) (iQ (by exact rfl) (by exact rfl)) ?_;refine qJ ?_
    refine ec (vs:=bkL (.slice (some ⟨b,o,none⟩) os.length c) sv r fo be mo ms) (ws:=bkL (.slice (some ⟨b,o,none⟩) os.length c) sv r (fo.set (i*40+k) false) be mo ms) rfl rfl rfl (by exact rfl) (by exact rfl) (by exact rfl) gq (kc false) (kw false) (by omega) (by(repeat apply aT rfl);exact cO) ?_
    refine dH ?_;refine y1 ?_;refine fF ?_;refine bH ?_;refine aq ?_;refine iI ?_;refine yM ?_;refine y3 ?_
    exact⟨os.length-(k+1),by omega,k+1,_,by omega,rfl,rfl,rfl,IJ2.wr (Nat.le_refl _) (by omega) (by omega) (by omega) (Heap.aJ gq) (by rw[List.length_set];exact l1) l2 ((z5 (by omega)).trans IJ2.gmo) ((z5 (by omega)).trans IJ2.gms),TP,(z5 (by omega)).trans g8J2,by show G1.next<J2.next;omega⟩
   have m2:aA .eql (.int .i64 x.size) (.int .i64 y.size)=some (.bool true):=Am h3
   rw[show yj x y=jt x.cI y.cI by unfold yj;rw[decide_eq_true h1,decide_eq_true h3];rfl]at TP
   obtain⟨ks,gm,hks⟩:=IJ2.gmc
   have C:=BO F.fm (h:={J2 with log:=[]}) (.of IJ2.wf) (show Tab J2 from(IJ2.old 0 h2).trans hg) (by show 0<J2.next;omega) gm hks hxw hyw
   refine dn ?_;refine qM ?_;refine qM ?_;refine qM ?_
   refine qF ?_;refine qL ?_;refine qF ?_
   refine qL ?_;refine qW ?_;refine qM ?_
   refine qF ?_;refine qL ?_;refine qF ?_
   refine qL ?_;refine qW ?_;refine aF rfl rfl rfl (by exact rfl) (by exact rfl) (by exact rfl) (iR (by exact rfl) (by exact rfl)) ?_
   refine qM ?_;refine qM ?_;refine qF ?_
   refine qV ?_;refine qF ?_;refine qV ?_
   refine aF rfl rfl rfl (by exact rfl) (by exact rfl) (by exact rfl) (bP (by exact rfl)) ?_;refine qF ?_;refine qJ ?_
   refine qC ?_
   refine FW.NL C (fun v h' lg q=>q) ?_
   clear C
   rintro _ J3 lg x3 hlg ⟨rfl,gm3⟩
   have nx3:=x3.next
   have I3:=IJ2.mem x3 (by omega) (by omega) (by omega) (by omega) (by omega) gm3
   have g83:=(x3.old _ (by omega) (show¬G1.next=mc by omega)).trans g8J2
   have g103:=(x3.old _ (by omega) (show¬J.next=mc by omega)).trans g10
   have gq3:=I3.gq
   clear g8J2 g10 gq gm
   refine⟨_,by apply aN rfl (aI rfl (fk (by exact rfl) (by exact rfl) (by omega)) (by exact dB _)) rfl;apply aN rfl (aI rfl (dV (by exact rfl)) (by exact dB _)) rfl;apply aN rfl (aI rfl (bP (by exact rfl)) (by exact dB _)) rfl;(repeat apply aT rfl);apply aN rfl (aI rfl (iu (by exact rfl)) (by exact eN _ _)) rfl;apply aN rfl (aI rfl (iu (by exact rfl)) (by exact eN _ _)) rfl;apply aN rfl (aI rfl (iu (by exact rfl)) (by exact dB _)) rfl;exact cO,?_⟩
   refine aF rfl rfl rfl (by exact rfl) (by exact rfl) (by exact rfl) (iR (by exact rfl) (by exact rfl)) ?_;refine qJ ?_
   refine ec (vs:=bkL (.slice (some ⟨b,o,none⟩) os.length c) sv r fo be mo ms) (ws:=bkL (.slice (some ⟨b,o,none⟩) os.length c) sv r (fo.set (i*40+k) (jt x.cI y.cI)) be mo ms) rfl rfl rfl (by exact rfl) (by exact rfl) (by exact rfl) gq3 (kc (jt x.cI y.cI)) (kw (jt x.cI y.cI)) (by omega) (by(repeat apply aT rfl);exact cO) ?_
   refine dH ?_;refine y1 ?_;refine fF ?_;refine bH ?_;refine aq ?_;refine iI ?_;refine yM ?_;refine y3 ?_
   exact⟨os.length-(k+1),by omega,k+1,_,by omega,rfl,rfl,rfl,I3.wr (Nat.le_refl _) (by omega) (by omega) (by omega) (Heap.aJ gq3) (by rw[List.length_set];exact l1) l2 ((z5 (by omega)).trans I3.gmo) ((z5 (by omega)).trans I3.gms),TP,(z5 (by omega)).trans g83,by show G1.next<J3.next;omega⟩
  ·obtain rfl:k=os.length:=by omega
   have mlt:aA .lss (.int .i64 (os.length:Nat)) (.int .i64 (os.length:Nat))=some (.bool false):=iF (by omega)
   refine y4 ?_;refine yW ?_;refine y3 ?_;refine an ?_;refine yX ?_;refine dz ?_;refine ek ?_;refine ek ?_;refine iY ?_;refine fF ?_
   refine bH ?_;refine aq ?_;refine iI ?_;refine yM ?_;refine y3 ?_
   exact⟨os.length-(i+1),by omega,i+1,fo,by omega,rfl,rfl,rfl,IJ,TJ.row (Nat.le_refl _)⟩
 ·obtain rfl:i=os.length:=by omega
  have mlt:aA .lss (.int .i64 (os.length:Nat)) (.int .i64 (os.length:Nat))=some (.bool false):=iF (by omega)
  rw[List.take_length]at I1
  refine y4 ?_;refine yW ?_;refine y3 ?_;refine an ?_;refine yX ?_;refine dz ?_;refine ek ?_;refine ek ?_;refine iY ?_
  exact⟨rfl,⟨_,rfl⟩,rfl,fo,I1,T1⟩
def opB:aU:=hdQ (tlC (tlC (tlC (tlC (tlC (cdF f164))))))
set_option maxHeartbeats 64000000 in
theorem LS(F:Bs T){h G:Heap}(hr:Rdy h)(hg:Tab h)(h2:0<h.next){a a2:Option Addr}{c c2:Nat}{os:List Od}{ss:List Sp}{r:Int}(so:OdS h (.slice a os.length c) os)(sp:SpS h (.slice a2 ss.length c2) ss)(h40:os.length≤40)(h20:ss.length≤20)(hns:(ss.map Sp.id).Nodup)
 {p1 q mo ms mc:Nat}(d:p1<mo∧mo<ms∧ms<q∧q<mc){fo:List Bool}{io:List Int}{er:Env}(I:OpI h G p1 q mo ms mc (.slice a os.length c) (.slice a2 ss.length c2) r fo (List.replicate 800 false) io []):
 WE T h.next none opB (fun x e' ds' h'=>x= .normal∧(∃r,e'=(1, .pointer (some ⟨p1,0,none⟩))::(5, .pointer (some ⟨q,0,none⟩))::(6, .map (some mc))::r)∧ds'=[]∧∃be,OpI h h' p1 q mo ms mc (.slice a os.length c) (.slice a2 ss.length c2) r fo be io (ss.map Sp.id)∧TbS 20 os.length (ot ss os) ss.length 0 be) ((1, .pointer (some ⟨p1,0,none⟩))::(5, .pointer (some ⟨q,0,none⟩))::(6, .map (some mc))::er) [] G:=by
 have b0:=I.np
 have b1:=I.nq
 have b2:=I.nc
 have g1:=I.g1
 have s0:bD (seL (.slice a os.length c) (.slice a2 ss.length c2) r) (0+0)=some (.slice a os.length c):=rfl
 have s1:bD (seL (.slice a os.length c) (.slice a2 ss.length c2) r) (0+1)=some (.slice a2 ss.length c2):=rfl
 unfold opB hdQ tlC cdF f164
 dsimp only
 refine y4 ?_;refine yF ?_;refine yL ?_;refine yD ?_;refine yM ?_;refine y3 ?_;refine aO ?_
 refine dL (fun m e ds h'=>∃i:Nat,∃be,i≤ss.length∧ss.length-i=m∧e=[(1, .pointer (some ⟨p1,0,none⟩)),(5, .pointer (some ⟨q,0,none⟩)),(6, .map (some mc)),(79, .slice a2 ss.length c2),(80, .int .i64 (ss.length:Nat)),(81, .int .i64 (i:Nat))]∧ds=[]∧OpI h h' p1 q mo ms mc (.slice a os.length c) (.slice a2 ss.length c2) r fo be io ((ss.take i).map Sp.id)∧TbS 20 os.length (ot ss os) i 0 be)
  ⟨0,_,Nat.zero_le _,rfl,rfl,rfl,I, .zero _ _ _⟩ ?_
 rintro m e ds G1 ⟨i,be,hi,rfl,rfl,rfl,I1,T1⟩
 clear I g1
 have W1:=I1.wf
 have hL1:=I1.log
 have c1:=I1.np
 have c2':=I1.no
 have c3:=I1.nc
 have c4:=I1.nq
 have c5:=I1.ns
 by_cases hlt:i<ss.length
 ·obtain⟨x,hx⟩:∃r,ss[i]? =some r:=⟨ss[i],List.getElem?_eq_getElem hlt⟩
  have hxw:=sp.ok x (List.mem_of_getElem? hx)
  obtain⟨b,o,cc,vs,own,tt,hv,gl,hbl,el⟩:=sp.elem hx
  cases hv
  have gl1:=(I1.old _ hbl).trans gl
  have mlt:aA .lss (.int .i64 (i:Nat)) (.int .i64 (ss.length:Nat))=some (.bool true):=gP (by omega)
  have k1:=kE hxw
  have k2:=mE hxw
  have k3:=eM hxw
  have k4:=kF x
  refine y4 ?_;refine yW ?_;refine y3 ?_;refine an ?_;refine yY ?_;refine bA ?_;refine bH ?_;refine an ?_;refine aO ?_
  refine cH (E0:=[(1, .pointer (some ⟨p1,0,none⟩)),(5, .pointer (some ⟨q,0,none⟩)),(6, .map (some mc)),(11, .int .i64 (i:Nat)),(12, .pointer (some ⟨G1.next,0,none⟩)),(79, .slice (some ⟨b,o,none⟩) ss.length c2),(80, .int .i64 (ss.length:Nat)),(81, .int .i64 (i:Nat))]) (P:=fun h'=>Ext G1 h'∧h'.next=G1.next+1∧h'.get G1.next=some (.cells (spL x) true 1)) ?_ ?_
  ·refine aq ?_;refine yM ?_;refine yI ?_;refine yV ?_;refine ah (cZ) ?_;refine yM ?_
   refine ah (bQ (by exact rfl) (by exact rfl) (by(simp(disch:=first|omega|(simp only[z1,z2];omega))only[z3,z4,z5,z6,z7,z1,z2,gl,gl1];exact rfl)) (by assumption) (by exact rfl) (by exact cF _)) ?_;refine ct ?_
   refine y1 ?_
   exact⟨rfl,rfl,rfl,ff (by omega) _ _,rfl,fE _ _⟩
  rintro G2 ⟨x2,n2,g8⟩
  have I2:=I1.ext x2
  have gq2:=I2.gq
  have gms2:=I2.gms
  have kt:=(BD (ov:= .slice a os.length c) (sv:= .slice (some ⟨b,o,none⟩) ss.length c2) (r:=r) (mo:=mo) (ms:=ms) I2.l1 I2.l2).2
  have ki:bD (spL x) (0+0)=some (.int .i64 x.id):=rfl
  have hnm:=qd (f:=Sp.id) hns hx
  have htl:((ss.take i).map Sp.id).length=i:=by rw[List.length_map,List.length_take];omega
  clear k1 k2 k3 k4 I1 gl1 hL1 W1
  refine an ?_;refine dn ?_;refine qM ?_;refine aF rfl rfl rfl (by exact rfl) (by exact rfl) (by exact rfl) (bP (by exact rfl)) ?_;refine qF ?_
  refine qK ?_;refine qF ?_;refine qL ?_
  refine qM ?_
  refine vw (ids:=(ss.take i).map Sp.id) (c:=x.id) (n:=i) rfl rfl rfl (by exact rfl) (by exact rfl) (by exact rfl) (by exact rfl) htl gms2 hnm (by omega) (by(repeat apply aT rfl);exact cO) ?_
  refine dH ?_;refine y1 ?_;refine bH ?_
  rw[←oM hx]
  have I3:OpI h (G2.wr h.next ms (.map (kn ((ss.take (i+1)).map Sp.id)))) p1 q mo ms mc (.slice a os.length c) (.slice (some ⟨b,o,none⟩) ss.length c2) r fo be io ((ss.take (i+1)).map Sp.id):=
   I2.wr (Nat.le_refl _) (by omega) (by omega) (by omega) ((z5 (by omega)).trans gq2) I2.l1 I2.l2 ((z5 (by omega)).trans I2.gmo) (by rw[z6,gms2];rfl)
  have g83:(G2.wr h.next ms (.map (kn ((ss.take (i+1)).map Sp.id)))).get G1.next=some (.cells (spL x) true 1):=(z5 (by omega)).trans g8
  have n3:(G2.wr h.next ms (.map (kn ((ss.take (i+1)).map Sp.id)))).next=G2.next:=rfl
  generalize(G2.wr h.next ms (.map (kn ((ss.take (i+1)).map Sp.id))))=G3 at*
  have g13:=I3.g1
  clear I2 gq2 gms2 kt ki hnm htl g8
  refine y4 ?_;refine yF ?_;refine yL ?_;refine yD ?_;refine yM ?_;refine y3 ?_;refine aO ?_
  refine dL (fun m e ds h'=>∃k:Nat,∃be,k≤os.length∧os.length-k=m∧e=[(1, .pointer (some ⟨p1,0,none⟩)),(5, .pointer (some ⟨q,0,none⟩)),(6, .map (some mc)),(11, .int .i64 (i:Nat)),(12, .pointer (some ⟨G1.next,0,none⟩)),(79, .slice (some ⟨b,o,none⟩) ss.length c2),(80, .int .i64 (ss.length:Nat)),(81, .int .i64 (i:Nat)),(94, .slice a os.length c),(95, .int .i64 (os.length:Nat)),(96, .int .i64 (k:Nat))]∧ds=[]∧OpI h h' p1 q mo ms mc (.slice a os.length c) (.slice (some ⟨b,o,none⟩) ss.length c2) r fo be io ((ss.take (i+1)).map Sp.id)∧TbS 20 os.length (ot ss os) i k be∧h'.get G1.next=some (.cells (spL x) true 1)∧G1.next<h'.next)
   ⟨0,be,Nat.zero_le _,rfl,rfl,rfl,I3,T1,g83,by omega⟩ ?_
  clear I3 T1 g83 g13 n3
  rintro m e ds J ⟨k,be,hk,rfl,rfl,rfl,IJ,TJ,g8J,nJ⟩
  have WJ:=IJ.wf
  have hLJ:=IJ.log
  by_cases hkt:k<os.length
  ·obtain⟨y,hy⟩:∃r,os[k]? =some r:=⟨os[k],List.getElem?_eq_getElem hkt⟩
   have hyw:=so.ok y (List.mem_of_getElem? hy)
   obtain⟨b',o',cc',vs',own',tt',hv,gl',hbl',el'⟩:=so.elem hy
   cases hv
   have gl1:=(IJ.old _ hbl').trans gl'
   have mlt:aA .lss (.int .i64 (k:Nat)) (.int .i64 (os.length:Nat))=some (.bool true):=gP (by omega)
   have k1:=ny hyw
   have k2:=qe hyw
   have k3:=fS hyw
   have k4:=nA y
   refine y4 ?_;refine yW ?_;refine y3 ?_;refine an ?_;refine yY ?_;refine bA ?_;refine bH ?_;refine an ?_;refine aO ?_
   refine cH (E0:=[(1, .pointer (some ⟨p1,0,none⟩)),(5, .pointer (some ⟨q,0,none⟩)),(6, .map (some mc)),(11, .int .i64 (i:Nat)),(12, .pointer (some ⟨G1.next,0,none⟩)),(13, .int .i64 (k:Nat)),(14, .pointer (some ⟨J.next,0,none⟩)),(79, .slice (some ⟨b,o,none⟩) ss.length c2),(80, .int .i64 (ss.length:Nat)),(81, .int .i64 (i:Nat)),(94, .slice (some ⟨b',o',none⟩) os.length c),(95, .int .i64 (os.length:Nat)),(96, .int .i64 (k:Nat))]) (P:=fun h'=>Ext J h'∧h'.next=J.next+1∧h'.get J.next=some (.cells (odL y) true 1)) ?_ ?_
   ·refine aq ?_;refine yM ?_;refine yI ?_;refine yV ?_;refine ah (cZ) ?_;refine yM ?_
    refine ah (bQ (by exact rfl) (by exact rfl) (by(simp(disch:=first|omega|(simp only[z1,z2];omega))only[z3,z4,z5,z6,z7,z1,z2,gl,g8J,gl',gl1];exact rfl)) (by assumption) (by exact rfl) (by exact cF _)) ?_;refine ct ?_
    refine y1 ?_
    exact⟨rfl,rfl,rfl,ff (by omega) _ _,rfl,fE _ _⟩
   rintro J2 ⟨xJ2,nJ2,g10⟩
   have IJ2:=IJ.ext xJ2
   have g8J2:=(xJ2.old _ nJ).trans g8J
   clear k1 k2 k3 k4 IJ gl1 hLJ WJ g8J
   have hf:ot ss os i k=Cw x y:=by unfold ot;rw[hx,hy]
   have TP:=TJ.put (by omega) (by omega) hkt
   rw[hf]at TP
   have l1:=IJ2.l1
   have l2:=IJ2.l2
   have gq:=IJ2.gq
   have kw:=fun bb=>HW (ov:= .slice (some ⟨b',o',none⟩) os.length c) (sv:= .slice (some ⟨b,o,none⟩) ss.length c2) (r:=r) (mo:=mo) (ms:=ms) l1 l2 (i:=i) (k:=k) (by omega) (by omega) bb
   have kc:∀bb:Bool,(Nat.beq (bO (cellsOf (.bool bb))) 1&&Nat.ble (0+1603+i*40+k*1+1) (bO (bkL (.slice (some ⟨b',o',none⟩) os.length c) (.slice (some ⟨b,o,none⟩) ss.length c2) r fo be mo ms))&&dG (cellsOf (.bool bb)))=true:=fun bb=>by
    rw[bN (bkL _ _ _ _ _ _ _),lU l1 l2,gJ (by omega)];rfl
   have x1':bD (spL x) (0+1)=some (.int .i64 x.size):=rfl
   have wy3:bD (odL y) (0+3)=some (.int .i64 y.size):=rfl
   have wy5:=lI hyw
   have x5:=nN hxw
   have yl:=bU hyw.len
   have xl:=bU hxw.len
   by_cases h3:x.size=y.size
   case neg=>
    have m2:aA .eql (.int .i64 x.size) (.int .i64 y.size)=some (.bool false):=wg h3
    rw[show Cw x y=false by unfold Cw;rw[decide_eq_false h3];rfl]at TP
    refine dn ?_;refine qM ?_;refine qM ?_;refine qM ?_
    refine qF ?_;refine qL ?_;refine qF ?_
    refine qL ?_;refine qW ?_;refine qM ?_
    refine qO ?_;refine qO ?_;refine qO ?_;refine qO ?_;refine qO ?_;refine aF rfl rfl rfl (by exact rfl) (by exact rfl) (by exact rfl) (bP (by exact rfl)) ?_
    refine qF ?_;refine qJ ?_;refine qO ?_;refine aF rfl rfl rfl (by exact rfl) (by exact rfl) (by exact rfl) (iQ (by exact rfl) (by exact rfl)) ?_
    refine qJ ?_
    refine ec (vs:=bkL (.slice (some ⟨b',o',none⟩) os.length c) (.slice (some ⟨b,o,none⟩) ss.length c2) r fo be mo ms) (ws:=bkL (.slice (some ⟨b',o',none⟩) os.length c) (.slice (some ⟨b,o,none⟩) ss.length c2) r fo (be.set (i*40+k) false) mo ms) rfl rfl rfl (by exact rfl) (by exact rfl) (by exact rfl) gq (kc false) (kw false) (by omega) (by(repeat apply aT rfl);exact cO) ?_
    refine dH ?_;refine y1 ?_;refine fF ?_;refine bH ?_;refine aq ?_;refine iI ?_;refine yM ?_;refine y3 ?_
    exact⟨os.length-(k+1),by omega,k+1,_,by omega,rfl,rfl,rfl,IJ2.wr (Nat.le_refl _) (by omega) (by omega) (by omega) (Heap.aJ gq) l1 (by rw[List.length_set];exact l2) ((z5 (by omega)).trans IJ2.gmo) ((z5 (by omega)).trans IJ2.gms),TP,(z5 (by omega)).trans g8J2,by show G1.next<J2.next;omega⟩
   have m2:aA .eql (.int .i64 x.size) (.int .i64 y.size)=some (.bool true):=Am h3
   rw[show Cw x y=jt x.cI y.cI by unfold Cw;rw[decide_eq_true h3];rfl]at TP
   obtain⟨ks,gm,hks⟩:=IJ2.gmc
   have C:=BO F.fm (h:={J2 with log:=[]}) (.of IJ2.wf) (show Tab J2 from(IJ2.old 0 h2).trans hg) (by show 0<J2.next;omega) gm hks hxw hyw
   refine dn ?_;refine qM ?_;refine qM ?_;refine qM ?_
   refine qF ?_;refine qL ?_;refine qF ?_
   refine qL ?_;refine qW ?_;refine qM ?_
   refine qM ?_;refine qF ?_;refine qV ?_
   refine qF ?_;refine qV ?_;refine aF rfl rfl rfl (by exact rfl) (by exact rfl) (by exact rfl) (bP (by exact rfl)) ?_
   refine qF ?_;refine qJ ?_
   refine qC ?_
   refine FW.NL C (fun v h' lg q=>q) ?_
   clear C
   rintro _ J3 lg x3 hlg ⟨rfl,gm3⟩
   have nx3:=x3.next
   have I3:=IJ2.mem x3 (by omega) (by omega) (by omega) (by omega) (by omega) gm3
   have g83:=(x3.old _ (by omega) (show¬G1.next=mc by omega)).trans g8J2
   have g103:=(x3.old _ (by omega) (show¬J.next=mc by omega)).trans g10
   have gq3:=I3.gq
   clear g8J2 g10 gq gm
   refine⟨_,by apply aN rfl (aI rfl (fk (by exact rfl) (by exact rfl) (by omega)) (by exact dB _)) rfl;apply aN rfl (aI rfl (dV (by exact rfl)) (by exact dB _)) rfl;apply aN rfl (aI rfl (bP (by exact rfl)) (by exact dB _)) rfl;(repeat apply aT rfl);apply aN rfl (aI rfl (iu (by exact rfl)) (by exact eN _ _)) rfl;apply aN rfl (aI rfl (iu (by exact rfl)) (by exact eN _ _)) rfl;apply aN rfl (aI rfl (iu (by exact rfl)) (by exact dB _)) rfl;exact cO,?_⟩
   refine aF rfl rfl rfl (by exact rfl) (by exact rfl) (by exact rfl) (iR (by exact rfl) (by exact rfl)) ?_;refine qJ ?_
   refine ec (vs:=bkL (.slice (some ⟨b',o',none⟩) os.length c) (.slice (some ⟨b,o,none⟩) ss.length c2) r fo be mo ms) (ws:=bkL (.slice (some ⟨b',o',none⟩) os.length c) (.slice (some ⟨b,o,none⟩) ss.length c2) r fo (be.set (i*40+k) (jt x.cI y.cI)) mo ms) rfl rfl rfl (by exact rfl) (by exact rfl) (by exact rfl) gq3 (kc (jt x.cI y.cI)) (kw (jt x.cI y.cI)) (by omega) (by(repeat apply aT rfl);exact cO) ?_
   refine dH ?_;refine y1 ?_;refine fF ?_;refine bH ?_;refine aq ?_;refine iI ?_;refine yM ?_;refine y3 ?_
   exact⟨os.length-(k+1),by omega,k+1,_,by omega,rfl,rfl,rfl,I3.wr (Nat.le_refl _) (by omega) (by omega) (by omega) (Heap.aJ gq3) l1 (by rw[List.length_set];exact l2) ((z5 (by omega)).trans I3.gmo) ((z5 (by omega)).trans I3.gms),TP,(z5 (by omega)).trans g83,by show G1.next<J3.next;omega⟩
  ·obtain rfl:k=os.length:=by omega
   have mlt:aA .lss (.int .i64 (os.length:Nat)) (.int .i64 (os.length:Nat))=some (.bool false):=iF (by omega)
   refine y4 ?_;refine yW ?_;refine y3 ?_;refine an ?_;refine yX ?_;refine dz ?_;refine ek ?_;refine ek ?_;refine iY ?_;refine fF ?_
   refine bH ?_;refine aq ?_;refine iI ?_;refine yM ?_;refine y3 ?_
   exact⟨ss.length-(i+1),by omega,i+1,be,by omega,rfl,rfl,rfl,IJ,TJ.row (Nat.le_refl _)⟩
 ·obtain rfl:i=ss.length:=by omega
  have mlt:aA .lss (.int .i64 (ss.length:Nat)) (.int .i64 (ss.length:Nat))=some (.bool false):=iF (by omega)
  rw[List.take_length]at I1
  refine y4 ?_;refine yW ?_;refine y3 ?_;refine an ?_;refine yX ?_;refine dz ?_;refine ek ?_;refine ek ?_;refine iY ?_
  exact⟨rfl,⟨_,rfl⟩,rfl,be,I1,T1⟩
theorem IN{h G:Heap}{p1 q mo ms mc:Nat}{ov sv:Value}{r:Int}{fo be:List Bool}{os:List Od}{ss:List Sp}(hb:seB os ss r=true)(I:OpI h G p1 q mo ms mc ov sv r fo be (os.map Od.id) (ss.map Sp.id))(TF:TbS 40 os.length (oS os) os.length 0 fo)(TB:TbS 20 os.length (ot ss os) ss.length 0 be):OpQ h.next ov sv r os ss (.tuple #[.pointer (some ⟨q,0,none⟩), .int .i64 0]) G:=by
 refine .inr ⟨hb,q,rfl,I.nq.1,I.nq.2,fo,be,mo,ms,I.gq,I.l1,I.l2,fun a b ha hb'=> ?_,fun a b ha hb'=> ?_,I.gmo,I.gms⟩
 ·rw[TF.2 a b ha hb']
  by_cases h1:a<os.length∧b<os.length
  ·rw[decide_eq_true (by omega),Bool.true_and]
  ·rw[decide_eq_false (by omega),Bool.false_and]
   unfold oS
   rcases(show os.length≤a∨os.length≤b by omega)with q'|q'
   ·rw[List.getElem?_eq_none q']
   ·rw[List.getElem?_eq_none q'];cases os[a]? <;>rfl
 ·rw[TB.2 a b ha hb']
  by_cases h1:a<ss.length∧b<os.length
  ·rw[decide_eq_true (by omega),Bool.true_and]
  ·rw[decide_eq_false (by omega),Bool.false_and]
   unfold ot
   rcases(show ss.length≤a∨os.length≤b by omega)with q'|q'
   ·rw[List.getElem?_eq_none q']
   ·rw[List.getElem?_eq_none q'];cases ss[a]? <;>rfl
set_option maxHeartbeats 64000000 in
theorem Df(F:Bs T){h:Heap}(hr:Rdy h)(hg:Tab h)(h2:0<h.next){ov sv:Value}{os:List Od}{ss:List Sp}{r:Int}(so:OdS h ov os)(ho:os.length<4611686018427387904)(sp:SpS h sv ss)(hs:ss.length<4611686018427387904):
 Al T 35 [seV ov sv r] h (OpQ h.next ov sv r os ss):=by
 have hp:=F.cs.df.rt.p
 refine .of hp F.f164 hr ?_ ?_
 ·rintro v h1 hv (q|⟨_,q,rfl,_⟩)
  ·exact .inl q
  ·cases hv
 obtain⟨a,c,rfl⟩:=so.form
 obtain⟨a2,c2,rfl⟩:=sp.form
 generalize hov:(.slice a os.length c:Value)=ov at*
 generalize hsv:(.slice a2 ss.length c2:Value)=sv at*
 have hov1:dG [ov]=true:=by rw[←hov];rfl
 have hsv1:dG [sv]=true:=by rw[←hsv];rfl
 have hc:cellsOf (seV ov sv r)=seL ov sv r:=rfl
 have x0:Ext h (h.push (.cells (cellsOf (seV ov sv r)) true 1)):=(Ext.refl h).push _
 have g0:(h.push (.cells (cellsOf (seV ov sv r)) true 1)).get h.next=some (.cells (seL ov sv r) true 1):=by rw[hc];exact z3 _ _
 have n0:(h.push (.cells (cellsOf (seV ov sv r)) true 1)).next=h.next+1:=rfl
 refine y4 ?_;refine yB ?_;refine yM ?_;refine yM ?_;refine y3 ?_
 generalize(h.push (.cells (cellsOf (seV ov sv r)) true 1))=H at*
 have W:=x0.wf hr.wf
 have hL:=x0.log.trans hr.log
 have k0:bT 3 (bS 0 (seL ov sv r))=seL ov sv r:=rfl
 have k1:Nat.beq (bO (seL ov sv r)) 3=true:=rfl
 have C:=KQ F.cs (h:={H with log:=[]}) (.of W) (r:=r) ((so.ext x0).log []) ho ((sp.ext x0).log []) hs
 unfold seE at C
 cases hb:seB os ss r with
 |false=>
  rw[hb,if_neg (by simp)]at C
  refine an ?_;refine y4 ?_;refine yN ?_
  refine yC ?_
  refine FW.pu C ?_
  refine yM ?_;refine y3 ?_;refine y4 ?_;refine yM ?_;refine yt ?_;refine y3 ?_;refine yY ?_;refine y4 ?_;refine yM ?_;refine yM ?_;refine yM ?_;refine y3 ?_;refine aM ?_;refine dZ ?_
  exact iV hL rfl (.inl ⟨hb,rfl⟩)
 |true=>
 rw[hb,if_pos rfl]at C
 obtain⟨h40,h20,hno,hns,_,_,_⟩:=Mf hb
 refine an ?_;refine y4 ?_;refine yN ?_
 refine yC ?_
 refine FW.pu C ?_
 clear C
 have hcb:cellsOf (.agg (bkL ov sv r (List.replicate 1600 false) (List.replicate 800 false) H.next (H.next+1)).toArray)=bkL ov sv r (List.replicate 1600 false) (List.replicate 800 false) H.next (H.next+1):=by show(bkL _ _ _ _ _ _ _).toArray.toList=_;simp
 refine yM ?_;refine y3 ?_;refine y4 ?_;refine yM ?_;refine yf ?_;refine y3 ?_;refine yX ?_;refine bA ?_;refine bH ?_
 refine cH (E0:=[(1, .pointer (some ⟨h.next,0,none⟩)),(5, .pointer (some ⟨H.next+2,0,none⟩))]) (P:=fun h'=>Ext H h'∧h'.next=H.next+3∧h'.get (H.next+2)=some (.cells (bkL ov sv r (List.replicate 1600 false) (List.replicate 800 false) H.next (H.next+1)) true 1)∧h'.get H.next=some (.map [])∧h'.get (H.next+1)=some (.map [])) ?_ ?_
 ·refine aq ?_;refine yN ?_
  refine ah pN ?_
  refine ah pN ?_
  refine ah (Cr (ov:=ov) (sv:=sv) (r:=r) (mo:=H.next) (ms:=H.next+1) (by exact rfl) (by exact rfl) (by exact rfl)) ?_
  refine yB ?_;refine yM ?_;refine ct ?_;refine y1 ?_
  refine⟨rfl,rfl,rfl,(((Ext.refl H).push _).push _).push _,rfl,?_,?_,?_⟩
  ·rw[hcb];exact z3 _ _
  ·exact(z4 (by show H.next<H.next+2;omega)).trans ((z4 (by show H.next<H.next+1;omega)).trans (z3 _ _))
  ·exact(z4 (by show H.next+1<H.next+2;omega)).trans (z3 _ _)
 rintro H1 ⟨x1,n1,gq,gmo,gms⟩
 clear hcb
 have xa:=x0.trans x1
 refine y4 ?_
 refine ah pN ?_
 have I0:OpI h (H1.push (.map [])) h.next (H.next+2) H.next (H.next+1) H1.next ov sv r (List.replicate 1600 false) (List.replicate 800 false) [] []:=by
  have xb:=xa.push (.map [])
  exact⟨xb.wf hr.wf,xb.log.trans hr.log,by show _∧_<H1.next+1;omega,by show _∧_<H1.next+1;omega,by show _∧_<H1.next+1;omega,by show _∧_<H1.next+1;omega,by show _∧_<H1.next+1;omega,xb.old,((Ext.refl H1).push _).old _ (by omega)|>.trans ((x1.old _ (by omega)).trans g0),((Ext.refl H1).push _).old _ (by omega)|>.trans gq,List.length_replicate,List.length_replicate,((Ext.refl H1).push _).old _ (by omega)|>.trans gmo,((Ext.refl H1).push _).old _ (by omega)|>.trans gms,[],z3 _ _,fun k hk=>by cases hk⟩
 have nI:(H1.push (.map [])).next=H1.next+1:=rfl
 generalize(H1.push (.map []))=H2 at*
 clear gq gmo gms g0
 refine yM ?_;refine y3 ?_
 rw[←hov,←hsv]at I0
 have so':OdS h (.slice a os.length c) os:=by rw[hov];exact so
 have sp':SpS h (.slice a2 ss.length c2) ss:=by rw[hsv];exact sp
 refine Bh (E0:=fun r=>(1, .pointer (some ⟨h.next,0,none⟩))::(5, .pointer (some ⟨H.next+2,0,none⟩))::(6, .map (some H1.next))::r) (P:=fun h'=>∃fo,OpI h h' h.next (H.next+2) H.next (H.next+1) H1.next (.slice a os.length c) (.slice a2 ss.length c2) r fo (List.replicate 800 false) (os.map Od.id) []∧TbS 40 os.length (oS os) os.length 0 fo) ?_ ?_
 ·exact LQ F hr hg h2 so' rfl rfl rfl h40 hno (by omega) I0
 rintro er G1 ⟨fo,I1,TF⟩
 refine Bh (E0:=fun r=>(1, .pointer (some ⟨h.next,0,none⟩))::(5, .pointer (some ⟨H.next+2,0,none⟩))::(6, .map (some H1.next))::r) (P:=fun h'=>∃be,OpI h h' h.next (H.next+2) H.next (H.next+1) H1.next (.slice a os.length c) (.slice a2 ss.length c2) r fo be (os.map Od.id) (ss.map Sp.id)∧TbS 20 os.length (ot ss os) ss.length 0 be) ?_ ?_
 ·exact LS F hr hg h2 so' sp' h40 h20 hns (by omega) I1
 rintro er2 G2 ⟨be,I2,TB⟩
 rw[hov,hsv]at I2
 refine y4 ?_;refine yM ?_;refine yM ?_;refine yM ?_;refine y3 ?_;refine aM ?_
 exact iV I2.log rfl (IN hb I2 TF TB)
def wdO(os:List Od)(i:Nat):Int:=match os[i]? with|some x=>(eR x.cI:Nat)|none=>0
def wdS(ss:List Sp)(i:Nat):Int:=match ss[i]? with|some x=>(eR x.cI:Nat)|none=>0
def uB(os:List Od)(nd:Int)(k n:Nat):List (Int×Int):=((List.range n).filter fun i=>oS os i k).map fun(i:Nat)=>((i:Int),wdO os i-nd)
def xq(ss:List Sp)(os:List Od)(nd:Int)(k n:Nat):List (Int×Int):=((List.range n).filter fun i=>ot ss os i k).map fun(i:Nat)=>(40+(i:Int),wdS ss i-nd)
def mJ(os:List Od)(ss:List Sp)(k:Nat):List (Int×Int):=uB os (wdO os k) k os.length++xq ss os (wdO os k) k ss.length
def srV(p:Int×Int):List Value:=[.int .i64 p.1, .int .i64 p.2]
theorem vo(os:List Od)(nd:Int)(k n:Nat):uB os nd k (n+1)=uB os nd k n++(if oS os n k=true then [((n:Int),wdO os n-nd)]else []):=by
 unfold uB
 rw[List.range_succ,List.filter_append,List.map_append]
 congr 1
 cases h:oS os n k with
 |true=>simp[List.filter,h]
 |false=>simp[List.filter,h]
theorem vp(ss:List Sp)(os:List Od)(nd:Int)(k n:Nat):xq ss os nd k (n+1)=xq ss os nd k n++(if ot ss os n k=true then [(40+(n:Int),wdS ss n-nd)]else []):=by
 unfold xq
 rw[List.range_succ,List.filter_append,List.map_append]
 congr 1
 cases h:ot ss os n k with
 |true=>simp[List.filter,h]
 |false=>simp[List.filter,h]
theorem G6(os:List Od)(nd:Int)(k:Nat){n m:Nat}(h:n≤m):uB os nd k n<+:uB os nd k m:=by
 induction h with
 |refl=>exact List.prefix_refl _
 |step _ ih=>rw[vo];exact ih.trans (List.prefix_append _ _)
theorem G7(ss:List Sp)(os:List Od)(nd:Int)(k:Nat){n m:Nat}(h:n≤m):xq ss os nd k n<+:xq ss os nd k m:=by
 induction h with
 |refl=>exact List.prefix_refl _
 |step _ ih=>rw[vp];exact ih.trans (List.prefix_append _ _)
theorem su(s:List Nat):eR s≤512:=oQ s 512
theorem Gb{vs:List Value}{o:Nat}{x:Od}(h:IsS x.cI)(el:bT 13 (bS o vs)=odL x):bT 8 (bS (o+5) vs)=us x.cI:=by
 refine Jl el (by omega) ?_
 have:=lI h
 rwa [Nat.zero_add]at this
structure BkG (H:Heap) (b1 b2 q k:Nat) (ov sv:Value) (r:Int) (os:List Od) (ss:List Sp) (fo be:List Bool) (mo ms:Nat):Prop where
 g1:H.get b1=some (.cells [.pointer (some ⟨q,0,none⟩)] true 1)
 g2:H.get b2=some (.cells [.int .i64 (k:Nat)] true 1)
 gq:H.get q=some (.cells (bkL ov sv r fo be mo ms) true 1)
 so:OdS H ov os
 sp:SpS H sv ss
structure BkT (os:List Od) (ss:List Sp) (fo be:List Bool):Prop where
 l1:fo.length=1600
 l2:be.length=800
 fo:∀a b,a<40→b<40→fo.getD (a*40+b) false=oS os a b
 be:∀a b,a<20→b<40→be.getD (a*40+b) false=ot ss os a b
structure J7 (T:Nat→Option af):Prop where
 co:DT T
 f323:T 139=some f323
 f347:T 163=some f347
set_option maxHeartbeats 64000000 in
theorem Mh(F:J7 T){h:Heap}(hr:Rdy h){px:br}{W:Nat→Prop}{l N b1 b2 q k:Nat}{a a2:Option Addr}{c c2:Nat}{r:Int}{os:List Od}{ss:List Sp}{fo be:List Bool}{mo ms:Nat}{P:List (Int×Int)→Heap→Prop}{S:Heap→Prop}(hN:N≤h.next)(hlN:l<N)
 (Y:HU px T W N l srV (mJ os ss k) P S)(hB:∀d H,P d H→BkG H b1 b2 q k (.slice a os.length c) (.slice a2 ss.length c2) r os ss fo be mo ms)(BT:BkT os ss fo be)(h0:P [] h)(hk:k<os.length)(h40:os.length≤40)(h20:ss.length≤20):
 GrW T 163 [.func (.yield l) #[] #[], .pointer (some ⟨b1,0,none⟩), .pointer (some ⟨b2,0,none⟩)] h W (P (mJ os ss k)) S:=by
 have hlb:l<h.next:=by omega
 have hp:=F.co.p
 refine GrW.of (l:=l) hp F.f347 hlb (fun h1 h2 hn ha q=>Y.eZ _ _ _ q (Nat.le_trans hN hn) fun x hx=>ha x (by omega)) Y.vm ?_
 obtain⟨z,hz⟩:∃r,os[k]? =some r:=⟨os[k],List.getElem?_eq_getElem hk⟩
 have B:=hB _ _ h0
 have hzw:=B.so.ok z (List.mem_of_getElem? hz)
 have g1:=B.g1
 have g2:=B.g2
 have gq:=B.gq
 obtain⟨b,o,cc,vs,own,tt,hv,gl,hbl,el⟩:=B.so.elem hz
 cases hv
 have wz1:=Gb hzw el
 have zl:=bU hzw.len
 have C:=mU F.co (h:={h with log:=[]}) (.of hr.wf) hzw
 have q0:bD (bkL (.slice (some ⟨b,o,none⟩) os.length c) (.slice a2 ss.length c2) r fo be mo ms) (0+0+0)=some (.slice (some ⟨b,o,none⟩) os.length c):=KL
 refine y4 ?_;refine yM ?_;refine y3 ?_;refine an ?_;refine dn ?_;refine qM ?_
 refine qL ?_;refine aF rfl rfl rfl (by exact rfl) (by exact rfl) (by exact rfl) (bP (by exact rfl)) ?_;refine qF ?_
 refine qF ?_;refine qL ?_;refine qL ?_
 refine qI ?_;refine qF ?_;refine qV ?_
 refine qC ?_
 refine FW.puD C (by(repeat apply aT rfl);exact cO) ?_
 clear C
 refine qM ?_;refine dH ?_;refine y1 ?_;refine bH ?_;refine an ?_;refine y4 ?_;refine yL ?_
 refine ah (bP (by exact rfl)) ?_;refine yF ?_;refine yF ?_;refine yL ?_;refine yD ?_;refine yM ?_;refine y3 ?_;refine aO ?_
 have hnd:wdO os k=((eR z.cI:Nat):Int):=by unfold wdO;rw[hz]
 refine dL (fun m e ds h'=>∃i:Nat,i≤os.length∧os.length-i=m∧e=[(0, .func (.yield l) #[] #[]),(1, .pointer (some ⟨b1,0,none⟩)),(2, .pointer (some ⟨b2,0,none⟩)),(4, .func (.func 79) #[] #[]),(5, .int .i64 ((eR z.cI:Nat):Int)),(25, .slice (some ⟨b,o,none⟩) os.length c),(26, .int .i64 (os.length:Nat)),(27, .int .i64 (i:Nat))]∧ds=[]∧Ws W h h'∧P (uB os ((eR z.cI:Nat):Int) k i) h')
  ⟨0,Nat.zero_le _,rfl,rfl,rfl,(Ext.refl h).ws,h0⟩ ?_
 clear B g1 g2 gq gl el wz1 q0
 rintro m e ds J ⟨i,hi,rfl,rfl,rfl,hkJ,hP⟩
 have WJ:=hkJ.wf hr.wf
 have BJ:=hB _ _ hP
 have n1:=hkJ.next
 by_cases hlt:i<os.length
 ·obtain⟨x,hx⟩:∃r,os[i]? =some r:=⟨os[i],List.getElem?_eq_getElem hlt⟩
  have hxw:=BJ.so.ok x (List.mem_of_getElem? hx)
  obtain⟨b',o',cc',vs',own',tt',hv,gl',hbl',el'⟩:=BJ.so.elem hx
  cases hv
  have mlt:aA .lss (.int .i64 (i:Nat)) (.int .i64 (os.length:Nat))=some (.bool true):=gP (by omega)
  have k1:=ny hxw
  have k2:=qe hxw
  have k3:=fS hxw
  have k4:=nA x
  refine y4 ?_;refine yW ?_;refine y3 ?_;refine an ?_;refine yY ?_;refine bA ?_;refine bH ?_;refine an ?_;refine aO ?_
  refine cH (E0:=[(0, .func (.yield l) #[] #[]),(1, .pointer (some ⟨b1,0,none⟩)),(2, .pointer (some ⟨b2,0,none⟩)),(4, .func (.func 79) #[] #[]),(5, .int .i64 ((eR z.cI:Nat):Int)),(6, .int .i64 (i:Nat)),(7, .pointer (some ⟨J.next,0,none⟩)),(25, .slice (some ⟨b,o,none⟩) os.length c),(26, .int .i64 (os.length:Nat)),(27, .int .i64 (i:Nat))]) (P:=fun h'=>Ext J h'∧h'.next=J.next+1∧h'.get J.next=some (.cells (odL x) true 1)) ?_ ?_
  ·refine aq ?_;refine yM ?_;refine yI ?_;refine yV ?_;refine ah (cZ) ?_;refine yM ?_
   refine ah (bQ (by exact rfl) (by exact rfl) (by(simp(disch:=first|omega|(simp only[z1,z2];omega))only[z3,z4,z5,z6,z7,z1,z2,gl'];exact rfl)) (by assumption) (by exact rfl) (by exact cF _)) ?_;refine ct ?_
   refine y1 ?_
   exact⟨rfl,rfl,rfl,ff (by omega) _ _,rfl,fE _ _⟩
  rintro J1 ⟨x1,nJ1,g7⟩
  have hP1:=Y.eZ _ _ _ hP (by omega) (fun y hy=>x1.old y (by omega))
  have B1:=hB _ _ hP1
  have W1:=x1.wf WJ
  have hk1:Ws W h J1:=hkJ.trans x1.ws
  have g1':=B1.g1
  have g2':=B1.g2
  have gq':=B1.gq
  have xl:=bU hxw.len
  have x5:=lI hxw
  have kf:=M3 (ov:= .slice (some ⟨b,o,none⟩) os.length c) (sv:= .slice a2 ss.length c2) (r:=r) (be:=be) (mo:=mo) (ms:=ms) BT.l1 (i:=i) (k:=k) (by omega) (by omega)
  rw[BT.fo i k (by omega) (by omega)]at kf
  have hsu:=vo os ((eR z.cI:Nat):Int) k i
  clear k1 k2 k3 k4 BJ gl' el' hP x1 WJ hkJ
  cases hf:oS os i k with
  |false=>
   rw[hf]at kf hsu
   rw[if_neg (by simp),List.append_nil]at hsu
   refine an ?_;refine dn ?_;refine qL ?_;refine qM ?_;refine qL ?_
   refine aF rfl rfl rfl (by exact rfl) (by exact rfl) (by exact rfl) (bP (by exact rfl)) ?_;refine qF ?_;refine qJ ?_
   refine qJ ?_;refine qK ?_;refine qM ?_
   refine qO ?_;refine qO ?_;refine qO ?_;refine qO ?_;refine qO ?_;refine qO ?_;refine qO ?_;refine qO ?_
   refine qO ?_;refine qO ?_;refine aF rfl rfl rfl (by exact rfl) (by exact rfl) (by exact rfl) (iQ (by exact rfl) (by exact rfl)) ?_;refine dH ?_;refine y1 ?_;refine bH ?_;refine yX ?_;refine bA ?_
   refine fF ?_;refine bH ?_;refine aq ?_;refine iI ?_;refine yM ?_;refine y3 ?_
   exact⟨os.length-(i+1),by omega,i+1,by omega,rfl,rfl,rfl,hk1,by rw[hsu];exact hP1⟩
  |true=>
   rw[hf]at kf hsu
   rw[if_pos rfl]at hsu
   have hwd:wdO os i=((eR x.cI:Nat):Int):=by unfold wdO;rw[hx]
   have C:=mU F.co (h:={J1 with log:=[]}) (.of W1) hxw
   have l1:=su x.cI
   have l2:=su z.cI
   have msub:aA .sub (.int .i64 ((eR x.cI:Nat):Int)) (.int .i64 ((eR z.cI:Nat):Int))=some (.int .i64 (((eR x.cI:Nat):Int)-((eR z.cI:Nat):Int))):=nr (cN (by omega) (by omega))
   skip
   have hpre:((uB os ((eR z.cI:Nat):Int) k i)++[((i:Int),((eR x.cI:Nat):Int)-((eR z.cI:Nat):Int))])<+:mJ os ss k:=by
    rw[hwd]at hsu
    unfold mJ
    rw[hnd]
    rw[←hsu]
    exact(G6 os _ k (by omega)).trans (List.prefix_append _ _)
   refine an ?_;refine dn ?_;refine qL ?_;refine qM ?_;refine qL ?_
   refine aF rfl rfl rfl (by exact rfl) (by exact rfl) (by exact rfl) (bP (by exact rfl)) ?_;refine qF ?_;refine qJ ?_
   refine qJ ?_;refine qK ?_;refine qM ?_
   refine qM ?_;refine qM ?_;refine qM ?_;refine qF ?_
   refine qV ?_;refine qM ?_
   refine qC ?_
   refine FW.puD C (by apply aN rfl (aI rfl (iu (by exact rfl)) (by exact eN _ _)) rfl;(repeat apply aT rfl);apply aN rfl (aI rfl (iu (by exact rfl)) (by exact eN _ _)) rfl;apply aN rfl (aI rfl (iu (by exact rfl)) (by exact Ky _)) rfl;(repeat apply aT rfl);exact cO) ?_
   clear C
   refine qW ?_
   refine xz (fn:= .yield l) (args:=srV ((i:Int),((eR x.cI:Nat):Int)-((eR z.cI:Nat):Int))) rfl rfl rfl (by exact rfl) (by exact rfl) (by rfl) ?_
   refine Y.Kj hp hpre W1 (by omega) hlb hP1 ?_ ?_
   ·intro J3 lg hk3 hlg hP3
    refine⟨_,by(repeat apply aT rfl);exact cO,?_⟩
    refine aF rfl rfl rfl (by exact rfl) (by exact rfl) (by exact rfl) (rI (by exact rfl)) ?_;refine aF rfl rfl rfl (by exact rfl) (by exact rfl) (by exact rfl) (iR (by exact rfl) (by exact rfl)) ?_;refine dH ?_;refine y1 ?_;refine bH ?_;refine yX ?_
    refine bA ?_;refine fF ?_;refine bH ?_;refine aq ?_;refine iI ?_;refine yM ?_;refine y3 ?_
    exact⟨os.length-(i+1),by omega,i+1,by omega,rfl,rfl,rfl,hk1.trans hk3,by rw[hsu,hwd];exact hP3⟩
   ·intro J3 lg hk3 hlg hml hS3
    refine⟨_,by(repeat apply aT rfl);exact cO,?_⟩
    refine aF rfl rfl rfl (by exact rfl) (by exact rfl) (by exact rfl) (rI (by exact rfl)) ?_;refine aF rfl rfl rfl (by exact rfl) (by exact rfl) (by exact rfl) (iR (by exact rfl) (by exact rfl)) ?_;refine dH ?_;refine y1 ?_;refine bH ?_;refine yY ?_
    refine aM ?_;refine jL ?_;refine dZ ?_;refine dZ ?_;refine jL ?_;refine dZ ?_
    exact xZ (fun z hz=>((hk1.trans hk3).log z hz).elim (fun q=>by rw[hr.log]at q;cases q) id) rfl hml hS3
 ·obtain rfl:i=os.length:=by omega
  have mlt:aA .lss (.int .i64 (os.length:Nat)) (.int .i64 (os.length:Nat))=some (.bool false):=iF (by omega)
  have g1:=BJ.g1
  have g2:=BJ.g2
  have gq:=BJ.gq
  have q1:bD (bkL (.slice (some ⟨b,o,none⟩) os.length c) (.slice a2 ss.length c2) r fo be mo ms) (0+0+1)=some (.slice a2 ss.length c2):=OU
  refine y4 ?_;refine yW ?_;refine y3 ?_;refine an ?_;refine yX ?_;refine dz ?_;refine ek ?_;refine ek ?_;refine iY ?_;refine bH ?_
  refine y4 ?_;refine yL ?_;refine ah (bP (by exact rfl)) ?_;refine yF ?_;refine yF ?_;refine yL ?_;refine yD ?_;refine yM ?_
  refine y3 ?_;refine aO ?_
  refine dL (fun m e ds h'=>∃i:Nat,i≤ss.length∧ss.length-i=m∧e=[(0, .func (.yield l) #[] #[]),(1, .pointer (some ⟨b1,0,none⟩)),(2, .pointer (some ⟨b2,0,none⟩)),(4, .func (.func 79) #[] #[]),(5, .int .i64 ((eR z.cI:Nat):Int)),(57, .slice a2 ss.length c2),(58, .int .i64 (ss.length:Nat)),(59, .int .i64 (i:Nat))]∧ds=[]∧Ws W h h'∧P (uB os ((eR z.cI:Nat):Int) k os.length++xq ss os ((eR z.cI:Nat):Int) k i) h')
   ⟨0,Nat.zero_le _,rfl,rfl,rfl,hkJ,by rw[show xq ss os ((eR z.cI:Nat):Int) k 0=[]from rfl,List.append_nil];exact hP⟩ ?_
  clear BJ WJ hkJ hP g1 g2 gq n1 q1 mlt
  rintro m e ds J ⟨i,hi,rfl,rfl,rfl,hkJ,hP⟩
  have WJ:=hkJ.wf hr.wf
  have BJ:=hB _ _ hP
  have n1:=hkJ.next
  by_cases hlt:i<ss.length
  ·obtain⟨x,hx⟩:∃r,ss[i]? =some r:=⟨ss[i],List.getElem?_eq_getElem hlt⟩
   have hxw:=BJ.sp.ok x (List.mem_of_getElem? hx)
   obtain⟨b',o',cc',vs',own',tt',hv,gl',hbl',el'⟩:=BJ.sp.elem hx
   cases hv
   have mlt:aA .lss (.int .i64 (i:Nat)) (.int .i64 (ss.length:Nat))=some (.bool true):=gP (by omega)
   have k1:=kE hxw
   have k2:=mE hxw
   have k3:=eM hxw
   have k4:=kF x
   refine y4 ?_;refine yW ?_;refine y3 ?_;refine an ?_;refine yY ?_;refine bA ?_;refine bH ?_;refine an ?_;refine aO ?_
   refine cH (E0:=[(0, .func (.yield l) #[] #[]),(1, .pointer (some ⟨b1,0,none⟩)),(2, .pointer (some ⟨b2,0,none⟩)),(4, .func (.func 79) #[] #[]),(5, .int .i64 ((eR z.cI:Nat):Int)),(8, .int .i64 (i:Nat)),(9, .pointer (some ⟨J.next,0,none⟩)),(57,(.slice (some ⟨b',o',none⟩) ss.length c2)),(58, .int .i64 (ss.length:Nat)),(59, .int .i64 (i:Nat))]) (P:=fun h'=>Ext J h'∧h'.next=J.next+1∧h'.get J.next=some (.cells (spL x) true 1)) ?_ ?_
   ·refine aq ?_;refine yM ?_;refine yI ?_;refine yV ?_;refine ah (cZ) ?_;refine yM ?_
    refine ah (bQ (by exact rfl) (by exact rfl) (by(simp(disch:=first|omega|(simp only[z1,z2];omega))only[z3,z4,z5,z6,z7,z1,z2,gl'];exact rfl)) (by assumption) (by exact rfl) (by exact cF _)) ?_;refine ct ?_
    refine y1 ?_
    exact⟨rfl,rfl,rfl,ff (by omega) _ _,rfl,fE _ _⟩
   rintro J1 ⟨x1,nJ1,g7⟩
   have hP1:=Y.eZ _ _ _ hP (by omega) (fun y hy=>x1.old y (by omega))
   have B1:=hB _ _ hP1
   have W1:=x1.wf WJ
   have hk1:Ws W h J1:=hkJ.trans x1.ws
   have g1':=B1.g1
   have g2':=B1.g2
   have gq':=B1.gq
   have xl:=bU hxw.len
   have x5:=nN hxw
   have kf:=M1 (ov:= .slice (some ⟨b,o,none⟩) os.length c) (sv:=(.slice (some ⟨b',o',none⟩) ss.length c2)) (r:=r) (mo:=mo) (ms:=ms) BT.l1 BT.l2 (i:=i) (k:=k) (by omega) (by omega)
   rw[BT.be i k (by omega) (by omega)]at kf
   have hsu:=vp ss os ((eR z.cI:Nat):Int) k i
   clear k1 k2 k3 k4 BJ gl' el' hP x1 WJ hkJ
   cases hf:ot ss os i k with
   |false=>
    rw[hf]at kf hsu
    rw[if_neg (by simp),List.append_nil]at hsu
    refine an ?_;refine dn ?_;refine qL ?_;refine qM ?_;refine qL ?_
    refine aF rfl rfl rfl (by exact rfl) (by exact rfl) (by exact rfl) (bP (by exact rfl)) ?_;refine qF ?_;refine qJ ?_
    refine qJ ?_;refine qK ?_;refine qM ?_
    refine qO ?_;refine qO ?_;refine qO ?_;refine qO ?_;refine qO ?_;refine qO ?_;refine qO ?_;refine qO ?_
    refine qO ?_;refine qO ?_;refine qO ?_;refine aF rfl rfl rfl (by exact rfl) (by exact rfl) (by exact rfl) (iQ (by exact rfl) (by exact rfl)) ?_;refine dH ?_;refine y1 ?_;refine bH ?_
    refine yX ?_;refine bA ?_;refine fF ?_;refine bH ?_;refine aq ?_;refine iI ?_;refine yM ?_;refine y3 ?_
    exact⟨ss.length-(i+1),by omega,i+1,by omega,rfl,rfl,rfl,hk1,by rw[hsu];exact hP1⟩
   |true=>
    rw[hf]at kf hsu
    rw[if_pos rfl]at hsu
    have hwd:wdS ss i=((eR x.cI:Nat):Int):=by unfold wdS;rw[hx]
    have C:=mU F.co (h:={J1 with log:=[]}) (.of W1) hxw
    have l1:=su x.cI
    have l2:=su z.cI
    have msub:aA .sub (.int .i64 ((eR x.cI:Nat):Int)) (.int .i64 ((eR z.cI:Nat):Int))=some (.int .i64 (((eR x.cI:Nat):Int)-((eR z.cI:Nat):Int))):=nr (cN (by omega) (by omega))
    have madd:aA .add (.int .i64 40) (.int .i64 (i:Nat))=some (.int .i64 (40+(i:Int))):=nk (cN (by omega) (by omega))
    have hpre:((uB os ((eR z.cI:Nat):Int) k os.length++xq ss os ((eR z.cI:Nat):Int) k i)++[(40+(i:Int),((eR x.cI:Nat):Int)-((eR z.cI:Nat):Int))])<+:mJ os ss k:=by
     rw[hwd]at hsu
     unfold mJ
     rw[hnd]
     rw[List.append_assoc,←hsu]
     exact List.prefix_append_right_inj _|>.2 (G7 ss os _ k (by omega))
    refine an ?_;refine dn ?_;refine qL ?_;refine qM ?_;refine qL ?_
    refine aF rfl rfl rfl (by exact rfl) (by exact rfl) (by exact rfl) (bP (by exact rfl)) ?_;refine qF ?_;refine qJ ?_
    refine qJ ?_;refine qK ?_;refine qM ?_
    refine qM ?_;refine qM ?_;refine qW ?_
    refine qM ?_;refine qF ?_;refine qV ?_
    refine qM ?_
    refine qC ?_
    refine FW.puD C (by apply aN rfl (aI rfl (iu (by exact rfl)) (by exact eN _ _)) rfl;(repeat apply aT rfl);apply aN rfl (aI rfl (uF (by exact rfl) (by exact rfl) (by with_reducible assumption)) (by exact eN _ _)) rfl;apply aN rfl (aI rfl (iu (by exact rfl)) (by exact eN _ _)) rfl;apply aN rfl (aI rfl (iu (by exact rfl)) (by exact Ky _)) rfl;(repeat apply aT rfl);exact cO) ?_
    clear C
    refine qW ?_
    refine xz (fn:= .yield l) (args:=srV (40+(i:Int),((eR x.cI:Nat):Int)-((eR z.cI:Nat):Int))) rfl rfl rfl (by exact rfl) (by exact rfl) (by rfl) ?_
    refine Y.Kj hp hpre W1 (by omega) hlb hP1 ?_ ?_
    ·intro J3 lg hk3 hlg hP3
     refine⟨_,by(repeat apply aT rfl);exact cO,?_⟩
     refine aF rfl rfl rfl (by exact rfl) (by exact rfl) (by exact rfl) (rI (by exact rfl)) ?_;refine aF rfl rfl rfl (by exact rfl) (by exact rfl) (by exact rfl) (iR (by exact rfl) (by exact rfl)) ?_;refine dH ?_;refine y1 ?_;refine bH ?_;refine yX ?_
     refine bA ?_;refine fF ?_;refine bH ?_;refine aq ?_;refine iI ?_;refine yM ?_;refine y3 ?_
     exact⟨ss.length-(i+1),by omega,i+1,by omega,rfl,rfl,rfl,hk1.trans hk3,by rw[hsu,hwd,←List.append_assoc];exact hP3⟩
    ·intro J3 lg hk3 hlg hml hS3
     refine⟨_,by(repeat apply aT rfl);exact cO,?_⟩
     refine aF rfl rfl rfl (by exact rfl) (by exact rfl) (by exact rfl) (rI (by exact rfl)) ?_;refine aF rfl rfl rfl (by exact rfl) (by exact rfl) (by exact rfl) (iR (by exact rfl) (by exact rfl)) ?_;refine dH ?_;refine y1 ?_;refine bH ?_;refine yY ?_
     refine aM ?_;refine jL ?_;refine dZ ?_;refine dZ ?_;refine jL ?_
     exact xZ (fun z hz=>((hk1.trans hk3).log z hz).elim (fun q=>by rw[hr.log]at q;cases q) id) rfl hml hS3
  ·obtain rfl:i=ss.length:=by omega
   have mlt:aA .lss (.int .i64 (ss.length:Nat)) (.int .i64 (ss.length:Nat))=some (.bool false):=iF (by omega)
   refine y4 ?_;refine yW ?_;refine y3 ?_;refine an ?_;refine yX ?_;refine dz ?_;refine ek ?_;refine ek ?_;refine iY ?_
   exact EJ (fun z hz=>(hkJ.log z hz).elim (fun q=>by rw[hr.log]at q;cases q) id) rfl (by unfold mJ;rw[hnd];exact hP)
end Go.A.Pk
end
section
set_option maxRecDepth 100000
namespace Go.A.Pk
abbrev Mt:=List Int×List Int
def toA(m:Mt)(s:Nat):Int:=m.2.getD s (-1)
def frA(m:Mt)(k:Nat):Int:=m.1.getD k (-1)
def jb(m:Mt)(k s:Nat):Mt:=(m.1.set k (s:Int),m.2.set s (k:Int))
def snA(sn:List Bool)(s:Nat):Bool:=sn.getD s true
def fD(rc:Mt→List Bool→Nat→Bool×Mt×List Bool)(k:Nat):List Nat→Mt→List Bool→Bool×Mt×List Bool
 |[],m,sn=>(false,m,sn)
 |s::l,m,sn=>
  if snA sn s=true then fD rc k l m sn else
  if toA m s<0 then(true,jb m k s,sn.set s true)else
  if(rc m (sn.set s true) (toA m s).toNat).1=true then(true,jb (rc m (sn.set s true) (toA m s).toNat).2.1 k s,(rc m (sn.set s true) (toA m s).toNat).2.2)
  else fD rc k l (rc m (sn.set s true) (toA m s).toNat).2.1 (rc m (sn.set s true) (toA m s).toNat).2.2
def aug(adj:Nat→List Nat):Nat→Mt→List Bool→Nat→Bool×Mt×List Bool
 |0,m,sn,_=>(false,m,sn)
 |f+1,m,sn,k=>fD (aug adj f) k (adj k) m sn
theorem qD{α:Type}{l:List α}{i j:Nat}{a d:α}:(l.set i a).getD j d=if i=j∧i<l.length then a else l.getD j d:=by
 rw[List.getD_eq_getElem?_getD,List.getD_eq_getElem?_getD,List.getElem?_set]
 by_cases h:i=j
 ·subst h
  by_cases h2:i<l.length
  ·rw[if_pos rfl,if_pos h2,if_pos ⟨rfl,h2⟩];rfl
  ·rw[if_pos rfl,if_neg h2,if_neg (fun q=>h2 q.2),List.getElem?_eq_none (by omega)]
 ·rw[if_neg h,if_neg (fun q=>h q.1)]
theorem vn{sn:List Bool}{s:Nat}(h:snA sn s=false):s<sn.length:=by
 rcases Nat.lt_or_ge s sn.length with q|q
 ·exact q
 ·unfold snA at h
  rw[List.getD_eq_getElem?_getD,List.getElem?_eq_none q]at h;cases h
theorem rq{sn:List Bool}{s t:Nat}(h:snA sn s=false):snA (sn.set s true) t=if s=t then true else snA sn t:=by
 unfold snA
 rw[qD]
 by_cases e:s=t
 ·rw[if_pos ⟨e,vn h⟩,if_pos e]
 ·rw[if_neg (fun q=>e q.1),if_neg e]
theorem xm{sn:List Bool}{s t:Nat}(h:snA sn s=false):snA (sn.set s true) t=false↔s≠t∧snA sn t=false:=by
 rw[rq h]
 by_cases e:s=t
 ·rw[if_pos e];simp[e]
 ·rw[if_neg e];simp[e]
theorem nZ:∀{sn:List Bool} {s:Nat},snA sn s=false→(sn.set s true).count false+1=sn.count false
 |[],s,h=>absurd (vn h) (by simp)
 |b::sn,0,h=>by
  have:b=false:=h
  subst this
  simp
 |b::sn,s+1,h=>by
  have:=nZ (sn:=sn) (s:=s) h
  rw[List.set_cons_succ,List.count_cons,List.count_cons]
  omega
theorem to_put{m:Mt}{k s t:Nat}(h:s<m.2.length):toA (jb m k s) t=if s=t then(k:Int)else toA m t:=by
 unfold toA jb
 rw[qD]
 by_cases e:s=t
 ·rw[if_pos ⟨e,h⟩,if_pos e]
 ·rw[if_neg (fun q=>e q.1),if_neg e]
theorem ER{m:Mt}{k s j:Nat}(h:k<m.1.length):frA (jb m k s) j=if k=j then(s:Int)else frA m j:=by
 unfold frA jb
 rw[qD]
 by_cases e:k=j
 ·rw[if_pos ⟨e,h⟩,if_pos e]
 ·rw[if_neg (fun q=>e q.1),if_neg e]
section
variable (adj:Nat→List Nat)
structure xF (m:Mt) (sn:List Bool) (k:Nat) (l:List Nat) (r:Bool×Mt×List Bool):Prop where
 Fj:r.2.1.1.length=m.1.length
 Ai:r.2.1.2.length=m.2.length
 Aj:r.2.2.length=sn.length
 mono:∀s,snA sn s=true→snA r.2.2 s=true
 cnt:r.2.2.count false≤sn.count false
 fail:r.1=false→r.2.1=m
 vK:r.1=false→(∀s∈l,snA r.2.2 s=true)∧∀s,snA r.2.2 s=true→snA sn s=false→0≤toA m s∧∀t∈adj (toA m s).toNat,snA r.2.2 t=true
end
section
variable {adj:Nat→List Nat}
theorem vF{N:Nat}{rc:Mt→List Bool→Nat→Bool×Mt×List Bool}(hrc:∀m sn k,sn.count false<N→xF adj m sn k (adj k) (rc m sn k)){k:Nat}:∀{l:List Nat} {m:Mt} {sn:List Bool},sn.count false≤N→xF adj m sn k l (fD rc k l m sn)
 |[],m,sn,_=>⟨rfl,rfl,rfl,fun _ h=>h,Nat.le_refl _,fun _=>rfl,fun _=>⟨fun s hs=>(by cases hs),fun s h1 h2=>by rw[show(fD rc k [] m sn).2.2=sn from rfl]at h1;rw[h1]at h2;cases h2⟩⟩
 |s::l,m,sn,hN=>by
  unfold fD
  cases hs:snA sn s with
  |true=>
   rw[if_pos rfl]
   have ih:=vF hrc (k:=k) (l:=l) (m:=m) (sn:=sn) hN
   refine⟨ih.Fj,ih.Ai,ih.Aj,ih.mono,ih.cnt,ih.fail,fun h=>⟨fun t ht=> ?_,(ih.vK h).2⟩⟩
   rcases List.mem_cons.1 ht with rfl|ht
   ·exact ih.mono _ hs
   ·exact(ih.vK h).1 t ht
  |false=>
   rw[if_neg (by simp)]
   have hc:=nZ hs
   by_cases ht:toA m s<0
   ·rw[if_pos ht]
    refine⟨by simp[jb],by simp[jb],by simp,fun t h=> ?_,by show(sn.set s true).count false≤_;omega,fun h=>(by cases h),fun h=>(by cases h)⟩
    show snA (sn.set s true) t=true
    rw[rq hs];split<;>simp_all
   ·rw[if_neg ht]
    have hr:=hrc m (sn.set s true) (toA m s).toNat (by omega)
    generalize rc m (sn.set s true) (toA m s).toNat=r at*
    obtain⟨b,m1,s1⟩:=r
    have hm1:∀t,snA sn t=true→snA s1 t=true:=fun t h=>hr.mono t (by rw[rq hs];split<;>simp_all)
    have hc1:=hr.cnt
    cases b with
    |true=>
     rw[if_pos rfl]
     refine⟨?_,?_,?_,hm1,?_,fun h=>(by cases h),fun h=>(by cases h)⟩
     ·show(jb m1 k s).1.length=_
      unfold jb;rw[List.length_set];exact hr.Fj
     ·show(jb m1 k s).2.length=_
      unfold jb;rw[List.length_set];exact hr.Ai
     ·show s1.length=_
      rw[←@List.length_set _ sn s true];exact hr.Aj
     ·show s1.count false≤_
      have:s1.count false≤(sn.set s true).count false:=hc1
      omega
    |false=>
     rw[if_neg (by simp)]
     obtain rfl:m1=m:=hr.fail rfl
     obtain⟨c1,c2⟩:=hr.vK rfl
     have hcl:s1.count false≤(sn.set s true).count false:=hc1
     have ih:=vF hrc (k:=k) (l:=l) (m:=m1) (sn:=s1) (by omega)
     have hls:s1.length=sn.length:=by rw[←@List.length_set _ sn s true];exact hr.Aj
     have hs1:snA s1 s=true:=hr.mono s (by rw[rq hs,if_pos rfl])
     dsimp only at*
     refine⟨ih.Fj,ih.Ai,ih.Aj.trans hls,fun t h=>ih.mono t (hm1 t h),Nat.le_trans ih.cnt (by omega),ih.fail,fun h=>⟨fun t ht=> ?_,fun t h1 h2=> ?_⟩⟩
     ·rcases List.mem_cons.1 ht with rfl|ht
      ·exact ih.mono _ hs1
      ·exact(ih.vK h).1 t ht
     ·cases hq:snA s1 t with
      |false=>exact(ih.vK h).2 t h1 hq
      |true=>
       by_cases e:s=t
       ·subst e
        exact⟨by omega,fun u hu=>ih.mono u (c1 u hu)⟩
       ·have:=c2 t hq ((xm hs).2 ⟨e,h2⟩)
        exact⟨this.1,fun u hu=>ih.mono u (this.2 u hu)⟩
theorem uL:∀{f:Nat} {m:Mt} {sn:List Bool} {k:Nat},sn.count false<f→xF adj m sn k (adj k) (aug adj f m sn k)
 |0,_,_,_,h=>by omega
 |f+1,m,sn,k,h=>vF (N:=f) (fun m sn k h=>uL h) (by omega)
def kI(adj:Nat→List Nat)(m:Mt)(C:Nat→Prop):Prop:=∀s,C s→0≤toA m s∧∀t∈adj (toA m s).toNat,C t
theorem vE{N:Nat}{C:Nat→Prop}{rc:Mt→List Bool→Nat→Bool×Mt×List Bool}(hrs:∀m sn k,sn.count false<N→xF adj m sn k (adj k) (rc m sn k))(hrc:∀m sn k,sn.count false<N→kI adj m C→(∀t∈adj k,C t)→(rc m sn k).1=false){k:Nat}:
 ∀{l:List Nat} {m:Mt} {sn:List Bool},sn.count false≤N→kI adj m C→(∀t∈l,C t)→(fD rc k l m sn).1=false
 |[],_,_,_,_,_=>rfl
 |s::l,m,sn,hN,hC,hl=>by
  have hl':∀t∈l,C t:=fun t h=>hl t (List.mem_cons_of_mem _ h)
  have hsC:=hC s (hl s List.mem_cons_self)
  unfold fD
  cases hs:snA sn s with
  |true=>rw[if_pos rfl];exact vE hrs hrc hN hC hl'
  |false=>
   rw[if_neg (by simp),if_neg (by omega)]
   have hc:=nZ hs
   have h1:=hrc m (sn.set s true) (toA m s).toNat (by omega) hC hsC.2
   have h2:=hrs m (sn.set s true) (toA m s).toNat (by omega)
   rw[h1,if_neg (by simp),h2.fail h1]
   exact vE hrs hrc (by have:=h2.cnt;omega) hC hl'
theorem Ey{C:Nat→Prop}:∀{f:Nat} {m:Mt} {sn:List Bool} {k:Nat},sn.count false<f→kI adj m C→(∀t∈adj k,C t)→(aug adj f m sn k).1=false
 |0,_,_,_,h,_,_=>by omega
 |f+1,m,sn,k,h,hC,hk=>vE (N:=f) (fun _ _ _ h=>uL h) (fun _ _ _ h h1 h2=>Ey h h1 h2) (by omega) hC hk
theorem qw{N:Nat}{C:Nat→Prop}{rc:Mt→List Bool→Nat→Bool×Mt×List Bool}(hrs:∀m sn k,sn.count false<N→xF adj m sn k (adj k) (rc m sn k))(hno:∀m sn k,sn.count false<N→kI adj m C→(∀t∈adj k,C t)→(rc m sn k).1=false)(hrc:∀m sn k,sn.count false<N→sn.length≤m.2.length→kI adj m C→∀s,C s→toA (rc m sn k).2.1 s=toA m s){k:Nat}:
 ∀{l:List Nat} {m:Mt} {sn:List Bool},sn.count false≤N→sn.length≤m.2.length→kI adj m C→∀s,C s→toA (fD rc k l m sn).2.1 s=toA m s
 |[],_,_,_,_,_,_,_=>rfl
 |s::l,m,sn,hN,hB,hC,t,ht=>by
  unfold fD
  cases hs:snA sn s with
  |true=>rw[if_pos rfl];exact qw hrs hno hrc hN hB hC t ht
  |false=>
   have hsl:=vn hs
   rw[if_neg (by simp)]
   by_cases h0:toA m s<0
   ·rw[if_pos h0]
    show toA (jb m k s) t=_
    rw[to_put (by omega),if_neg]
    rintro rfl
    have:=(hC s ht).1
    omega
   ·rw[if_neg h0]
    have hc:=nZ hs
    have h2:=hrs m (sn.set s true) (toA m s).toNat (by omega)
    have h3:=hrc m (sn.set s true) (toA m s).toNat (by omega) (by rw[List.length_set];exact hB) hC t ht
    by_cases h1:(rc m (sn.set s true) (toA m s).toNat).1=true
    ·rw[if_pos h1]
     show toA (jb _ k s) t=_
     rw[to_put (by rw[h2.Ai];omega),if_neg,h3]
     rintro rfl
     rw[hno m (sn.set s true) (toA m s).toNat (by omega) hC (hC s ht).2]at h1;cases h1
    ·rw[if_neg h1,h2.fail (by simpa using h1)]
     exact qw hrs hno hrc (by have:=h2.cnt;omega) (by rw[h2.Aj,List.length_set];exact hB) hC t ht
theorem xN{C:Nat→Prop}:∀{f:Nat} {m:Mt} {sn:List Bool} {k:Nat},sn.count false<f→sn.length≤m.2.length→kI adj m C→∀s,C s→toA (aug adj f m sn k).2.1 s=toA m s
 |0,_,_,_,h,_,_,_,_=>by omega
 |f+1,m,sn,k,h,hB,hC,s,hs=>qw (N:=f) (fun _ _ _ h=>uL h) (fun _ _ _ h h1 h2=>Ey h h1 h2) (fun _ _ _ h hb h1=>xN h hb h1) (by omega) hB hC s hs
structure rZ (m:Mt) (sn:List Bool) (k:Nat):Prop where
 inj:∀s t,snA sn s=false→snA sn t=false→0≤toA m s→toA m s=toA m t→s=t
 out:∀s,snA sn s=false→toA m s≠k
 fr:∀s,snA sn s=false→0≤toA m s→frA m (toA m s).toNat=s
 bd:∀s,snA sn s=false→toA m s<m.1.length
 kb:k<m.1.length
 sb:sn.length≤m.2.length
structure qn (m:Mt) (sn:List Bool) (k:Nat) (m':Mt):Prop where
 inj:∀s t,snA sn s=false→snA sn t=false→0≤toA m' s→toA m' s=toA m' t→s=t
 fr:∀s,snA sn s=false→0≤toA m' s→frA m' (toA m' s).toNat=s
 frame:∀s,snA sn s=true→toA m' s=toA m s
 has:∃s,snA sn s=false∧toA m' s=k
 im1:∀s,snA sn s=false→0≤toA m s→∃t,snA sn t=false∧toA m' t=toA m s
 im2:∀s,snA sn s=false→0≤toA m' s→toA m' s=k∨∃t,snA sn t=false∧toA m t=toA m' s
 frf:∀j:Nat,j≠k→(∀s,snA sn s=false→toA m s≠j)→frA m' j=frA m j
theorem qn.put{m:Mt}{sn:List Bool}{k s:Nat}(P:rZ m sn k)(hs:snA sn s=false)(h0:toA m s<0):qn m sn k (jb m k s):=by
 have hsl:s<m.2.length:=Nat.lt_of_lt_of_le (vn hs) P.sb
 have hT:∀t,toA (jb m k s) t=if s=t then(k:Int)else toA m t:=fun t=>to_put hsl
 have hF:∀j,frA (jb m k s) j=if k=j then(s:Int)else frA m j:=fun j=>ER P.kb
 refine⟨fun a b ha hb h1 h2=> ?_,fun a ha h1=> ?_,fun a ha=> ?_,⟨s,hs,by rw[hT,if_pos rfl]⟩,fun a ha h1=>⟨a,ha,?_⟩,fun a ha h1=> ?_,fun j hj _=>by rw[hF,if_neg (Ne.symm hj)]⟩
 ·rw[hT,hT]at h2
  rw[hT]at h1
  by_cases e1:s=a<;>by_cases e2:s=b
  ·exact e1.symm.trans e2
  ·rw[if_pos e1,if_neg e2]at h2
   exact absurd h2.symm (P.out b hb)
  ·rw[if_neg e1,if_pos e2]at h2
   exact absurd h2 (P.out a ha)
  ·rw[if_neg e1]at h1 h2
   rw[if_neg e2]at h2
   exact P.inj a b ha hb h1 h2
 ·rw[hT]at h1⊢
  by_cases e:s=a
  ·rw[if_pos e,hF,if_pos (by simp),e]
  ·rw[if_neg e]at h1⊢
   rw[hF,if_neg,P.fr a ha h1]
   intro q
   exact P.out a ha (by omega)
 ·rw[hT,if_neg]
  rintro rfl
  rw[hs]at ha;cases ha
 ·rw[hT,if_neg]
  rintro rfl
  omega
 ·rw[hT]at h1⊢
  by_cases e:s=a
  ·rw[if_pos e];exact .inl rfl
  ·rw[if_neg e];exact .inr ⟨a,ha,rfl⟩
theorem qn.step{m m1:Mt}{sn:List Bool}{k s:Nat}(P:rZ m sn k)(hs:snA sn s=false)(h0:¬toA m s<0)(l1:m1.1.length=m.1.length)(l2:m1.2.length=m.2.length)(O:qn m (sn.set s true) (toA m s).toNat m1):qn m sn k (jb m1 k s):=by
 have hsl:s<m1.2.length:=by rw[l2];exact Nat.lt_of_lt_of_le (vn hs) P.sb
 have hT:∀t,toA (jb m1 k s) t=if s=t then(k:Int)else toA m1 t:=fun t=>to_put hsl
 have hF:∀j,frA (jb m1 k s) j=if k=j then(s:Int)else frA m1 j:=fun j=>ER (by rw[l1];exact P.kb)
 have hU:∀t,snA (sn.set s true) t=false↔s≠t∧snA sn t=false:=fun t=>xm hs
 have hks:(((toA m s).toNat:Nat):Int)=toA m s:=by omega
 have hk1:∀a,s≠a→snA sn a=false→0≤toA m1 a→toA m1 a≠k:=fun a e ha h1 q=>by
  rcases O.im2 a ((hU a).2 ⟨e,ha⟩) h1 with q2|⟨t,ht,q2⟩
  ·exact P.out s hs (by omega)
  ·exact P.out t ((hU t).1 ht).2 (by omega)
 refine⟨fun a b ha hb h1 h2=> ?_,fun a ha h1=> ?_,fun a ha=> ?_,⟨s,hs,by rw[hT,if_pos rfl]⟩,fun a ha h1=> ?_,fun a ha h1=> ?_,fun j hj hj2=> ?_⟩
 ·rw[hT,hT]at h2
  rw[hT]at h1
  by_cases e1:s=a<;>by_cases e2:s=b
  ·exact e1.symm.trans e2
  ·rw[if_pos e1,if_neg e2]at h2
   exact absurd h2.symm (hk1 b e2 hb (by omega))
  ·rw[if_neg e1,if_pos e2]at h2
   exact absurd h2 (hk1 a e1 ha (by omega))
  ·rw[if_neg e1]at h1 h2
   rw[if_neg e2]at h2
   exact O.inj a b ((hU a).2 ⟨e1,ha⟩) ((hU b).2 ⟨e2,hb⟩) h1 h2
 ·rw[hT]at h1⊢
  by_cases e:s=a
  ·rw[if_pos e,hF,if_pos (by simp),e]
  ·rw[if_neg e]at h1⊢
   rw[hF,if_neg,O.fr a ((hU a).2 ⟨e,ha⟩) h1]
   intro q
   exact hk1 a e ha h1 (by omega)
 ·have e:s≠a:=by rintro rfl;rw[hs]at ha;cases ha
  rw[hT,if_neg e]
  exact O.frame a (by rw[rq hs,if_neg e];exact ha)
 ·by_cases e:s=a
  ·subst e
   obtain⟨t,ht,q⟩:=O.has
   have:=(hU t).1 ht
   exact⟨t,this.2,by rw[hT,if_neg this.1,q,hks]⟩
  ·obtain⟨t,ht,q⟩:=O.im1 a ((hU a).2 ⟨e,ha⟩) h1
   have:=(hU t).1 ht
   exact⟨t,this.2,by rw[hT,if_neg this.1,q]⟩
 ·rw[hT]at h1⊢
  by_cases e:s=a
  ·rw[if_pos e];exact .inl rfl
  ·rw[if_neg e]at h1⊢
   rcases O.im2 a ((hU a).2 ⟨e,ha⟩) h1 with q|⟨t,ht,q⟩
   ·exact .inr ⟨s,hs,by omega⟩
   ·exact .inr ⟨t,((hU t).1 ht).2,q⟩
 ·rw[hF,if_neg (Ne.symm hj)]
  refine O.frf j (fun q=> ?_) fun t ht=>hj2 t ((hU t).1 ht).2
  exact hj2 s hs (by omega)
theorem qn.wide{m m':Mt}{sn s1:List Bool}{k:Nat}(P:rZ m sn k)(hm:∀s,snA sn s=true→snA s1 s=true)(O:qn m s1 k m'):qn m sn k m':=by
 have hF:∀t,snA s1 t=false→snA sn t=false:=fun t h=>by
  cases q:snA sn t with
  |false=>rfl
  |true=>rw[hm t q]at h;cases h
 have key:∀a b,snA sn a=false→snA s1 a=true→snA s1 b=false→0≤toA m' a→toA m' a=toA m' b→False:=fun a b ha ha1 hb h1 h2=>by
  have e:=O.frame a ha1
  rw[e]at h1 h2
  rcases O.im2 b hb (by omega)with q|⟨t,ht,q⟩
  ·exact P.out a ha (by omega)
  ·have:=P.inj a t ha (hF t ht) h1 (by omega)
   subst this
   rw[ha1]at ht;cases ht
 refine⟨fun a b ha hb h1 h2=> ?_,fun a ha h1=> ?_,fun a ha=>O.frame a (hm a ha),?_,fun a ha h1=> ?_,fun a ha h1=> ?_,fun j hj hj2=>O.frf j hj fun t ht=>hj2 t (hF t ht)⟩
 ·cases ha1:snA s1 a with
  |false=>
   cases hb1:snA s1 b with
   |false=>exact O.inj a b ha1 hb1 h1 h2
   |true=>exact(key b a hb hb1 ha1 (by omega) h2.symm).elim
  |true=>
   cases hb1:snA s1 b with
   |false=>exact(key a b ha ha1 hb1 h1 h2).elim
   |true=>
    rw[O.frame a ha1]at h1 h2
    rw[O.frame b hb1]at h2
    exact P.inj a b ha hb h1 h2
 ·cases ha1:snA s1 a with
  |false=>exact O.fr a ha1 h1
  |true=>
   have e:=O.frame a ha1
   rw[e]at h1⊢
   have hj:(((toA m a).toNat:Nat):Int)=toA m a:=by omega
   rw[O.frf (toA m a).toNat (fun q=>P.out a ha (by omega)) fun t ht q=> ?_]
   ·exact P.fr a ha h1
   ·have:=P.inj a t ha (hF t ht) h1 (by omega)
    subst this
    rw[ha1]at ht;cases ht
 ·obtain⟨s,hs,q⟩:=O.has
  exact⟨s,hF s hs,q⟩
 ·cases ha1:snA s1 a with
  |false=>
   obtain⟨t,ht,q⟩:=O.im1 a ha1 h1
   exact⟨t,hF t ht,q⟩
  |true=>exact⟨a,ha,O.frame a ha1⟩
 ·cases ha1:snA s1 a with
  |false=>
   rcases O.im2 a ha1 h1 with q|⟨t,ht,q⟩
   ·exact .inl q
   ·exact .inr ⟨t,hF t ht,q⟩
  |true=>exact .inr ⟨a,ha,(O.frame a ha1).symm⟩
theorem rZ.sub{m:Mt}{sn s1:List Bool}{k:Nat}(P:rZ m sn k)(hm:∀s,snA sn s=true→snA s1 s=true)(hl:s1.length≤sn.length):rZ m s1 k:=by
 have hF:∀t,snA s1 t=false→snA sn t=false:=fun t h=>by
  cases q:snA sn t with
  |false=>rfl
  |true=>rw[hm t q]at h;cases h
 exact⟨fun s t hs ht=>P.inj s t (hF s hs) (hF t ht),fun s hs=>P.out s (hF s hs),fun s hs=>P.fr s (hF s hs),fun s hs=>P.bd s (hF s hs),P.kb,Nat.le_trans hl P.sb⟩
theorem rZ.Qv{m:Mt}{sn:List Bool}{k s:Nat}(P:rZ m sn k)(hs:snA sn s=false)(h0:¬toA m s<0):rZ m (sn.set s true) (toA m s).toNat:=by
 have hU:∀t,snA (sn.set s true) t=false↔s≠t∧snA sn t=false:=fun t=>xm hs
 refine⟨fun a b ha hb=>P.inj a b ((hU a).1 ha).2 ((hU b).1 hb).2,fun a ha q=> ?_,fun a ha=>P.fr a ((hU a).1 ha).2,fun a ha=>P.bd a ((hU a).1 ha).2,by have:=P.bd s hs;omega,by rw[List.length_set];exact P.sb⟩
 have:=(hU a).1 ha
 exact this.1 (P.inj s a hs this.2 (by omega) (by omega))
def vC(adj:Nat→List Nat)(m:Mt):Prop:=∀s,0≤toA m s→s∈adj (toA m s).toNat
theorem zW{N:Nat}{rc:Mt→List Bool→Nat→Bool×Mt×List Bool}(hrs:∀m sn k,sn.count false<N→xF adj m sn k (adj k) (rc m sn k))(hrc:∀m sn k,sn.count false<N→rZ m sn k→vC adj m→(rc m sn k).1=true→qn m sn k (rc m sn k).2.1∧vC adj (rc m sn k).2.1){k:Nat}:
 ∀{l:List Nat} {m:Mt} {sn:List Bool},(∀s∈l,s∈adj k)→sn.count false≤N→rZ m sn k→vC adj m→(fD rc k l m sn).1=true→qn m sn k (fD rc k l m sn).2.1∧vC adj (fD rc k l m sn).2.1
 |[],_,_,_,_,_,_,h=>by cases h
 |s::l,m,sn,hl,hN,P,hE,h=>by
  have hl':∀s∈l,s∈adj k:=fun t ht=>hl t (List.mem_cons_of_mem _ ht)
  have edge:∀m1:Mt,s<m1.2.length→vC adj m1→vC adj (jb m1 k s):=fun m1 hsl h1 t ht=>by
   rw[to_put hsl]at ht⊢
   by_cases e:s=t
   ·rw[if_pos e];subst e;exact hl s List.mem_cons_self
   ·rw[if_neg e]at ht⊢;exact h1 t ht
  unfold fD at h⊢
  cases hs:snA sn s with
  |true=>
   rw[hs,if_pos rfl]at h
   rw[if_pos rfl]
   exact zW hrs hrc hl' hN P hE h
  |false=>
   have hsl:s<m.2.length:=Nat.lt_of_lt_of_le (vn hs) P.sb
   rw[hs,if_neg (by simp)]at h
   rw[if_neg (by simp)]
   by_cases h0:toA m s<0
   ·rw[if_pos h0]
    exact⟨qn.put P hs h0,edge m hsl hE⟩
   ·rw[if_neg h0]at h⊢
    have hc:=nZ hs
    have h2:=hrs m (sn.set s true) (toA m s).toNat (by omega)
    have h3:=hrc m (sn.set s true) (toA m s).toNat (by omega) (P.Qv hs h0) hE
    by_cases h1:(rc m (sn.set s true) (toA m s).toNat).1=true
    ·rw[if_pos h1]
     obtain⟨o1,o2⟩:=h3 h1
     exact⟨qn.step P hs h0 h2.Fj h2.Ai o1,edge _ (by rw[h2.Ai];exact hsl) o2⟩
    ·rw[if_neg h1]at h⊢
     rw[h2.fail (by simpa using h1)]at h⊢
     have hm:∀t,snA sn t=true→snA (rc m (sn.set s true) (toA m s).toNat).2.2 t=true:=fun t ht=>h2.mono t (by rw[rq hs];split<;>simp_all)
     obtain⟨o1,o2⟩:=zW hrs hrc hl' (by have:=h2.cnt;omega) (P.sub hm (by rw[h2.Aj,List.length_set];exact Nat.le_refl _)) hE h
     exact⟨o1.wide P hm,o2⟩
theorem Kh:∀{f:Nat} {m:Mt} {sn:List Bool} {k:Nat},sn.count false<f→rZ m sn k→vC adj m→(aug adj f m sn k).1=true→qn m sn k (aug adj f m sn k).2.1∧vC adj (aug adj f m sn k).2.1
 |0,_,_,_,h,_,_,_=>by omega
 |f+1,m,sn,k,h,P,hE,h1=>zW (N:=f) (fun _ _ _ h=>uL h) (fun _ _ _ h a b c=>Kh h a b c) (fun s hs=>hs) (by omega) P hE h1
end
def o7(adj:Nat→List Nat)(B:Nat)(r:Mt×Nat)(k:Nat):Mt×Nat:=((aug adj (B+1) r.1 (List.replicate B false) k).2.1,if(aug adj (B+1) r.1 (List.replicate B false) k).1=true then r.2+1 else r.2)
def mtN(adj:Nat→List Nat)(A B n:Nat):Mt×Nat:=(List.range n).foldl (o7 adj B) ((List.replicate A (-1),List.replicate B (-1)),0)
theorem Ba{B s:Nat}:snA (List.replicate B false) s=false↔s<B:=by
 unfold snA
 rw[List.getD_eq_getElem?_getD,List.getElem?_replicate]
 by_cases h:s<B
 ·rw[if_pos h];simp[h]
 ·rw[if_neg h];simp[h]
structure MtI (adj:Nat→List Nat) (A B k:Nat) (m:Mt) (many:Nat):Prop where
 l1:m.1.length=A
 l2:m.2.length=B
 inj:∀s t,0≤toA m s→toA m s=toA m t→s=t
 bd:∀s,toA m s<k
 fr:∀s,0≤toA m s→frA m (toA m s).toNat=s
 to:∀j,0≤frA m j→toA m (frA m j).toNat=j
 edg:vC adj m
 cnt:((List.range k).filter fun j=>decide (0≤frA m j)).length=many
 vK:∃C:Nat→Prop,kI adj m C∧∀j,j<k→frA m j<0→∀t∈adj j,C t
 low:∀j,k≤j→frA m j= -1
theorem to_lt{m:Mt}{s:Nat}(h:0≤toA m s):s<m.2.length:=by
 rcases Nat.lt_or_ge s m.2.length with q|q
 ·exact q
 ·unfold toA at h
  rw[List.getD_eq_getElem?_getD,List.getElem?_eq_none q]at h
  exact absurd h (by decide)
theorem MtI.init(adj:Nat→List Nat)(A B:Nat):MtI adj A B 0 (List.replicate A (-1),List.replicate B (-1)) 0:=by
 have ht:∀s,toA (List.replicate A (-1),List.replicate B (-1)) s= -1:=fun s=>by
  unfold toA
  rw[List.getD_eq_getElem?_getD,List.getElem?_replicate]
  split<;>rfl
 have hf:∀s,frA (List.replicate A (-1),List.replicate B (-1)) s= -1:=fun s=>by
  unfold frA
  rw[List.getD_eq_getElem?_getD,List.getElem?_replicate]
  split<;>rfl
 refine⟨List.length_replicate,List.length_replicate,fun s t h=> ?_,fun s=> ?_,fun s h=> ?_,fun s h=> ?_,fun s h=> ?_,rfl,⟨fun _=>False,fun s h=>h.elim,fun j h=>absurd h (by omega)⟩,fun j _=>hf j⟩
 ·rw[ht]at h;omega
 ·rw[ht];omega
 ·rw[ht]at h;omega
 ·rw[hf]at h;omega
 ·rw[ht]at h;omega
theorem uZ:∀{l l':List Nat},l.Nodup→(∀x∈l,x∈l')→l.length≤l'.length
 |[],_,_,_=>Nat.zero_le _
 |x::l,l',hn,hs=>by
  have hx:=hs x List.mem_cons_self
  have hn':=List.nodup_cons.1 hn
  have ih:=uZ (l:=l) (l':=l'.erase x) hn'.2 fun y hy=>(List.mem_erase_of_ne (fun e=>hn'.1 (by rw[←e];exact hy))).2 (hs y (List.mem_cons_of_mem _ hy))
  rw[List.length_erase_of_mem hx]at ih
  have:=List.length_pos_of_mem hx
  rw[List.length_cons];omega
theorem MtI.step{adj:Nat→List Nat}{A B k:Nat}(hB:∀j,∀t∈adj j,t<B){m:Mt}{many:Nat}(I:MtI adj A B k m many)(hk:k<A):MtI adj A B (k+1) (o7 adj B (m,many) k).1 (o7 adj B (m,many) k).2:=by
 have hcB:(List.replicate B false).count false<B+1:=by rw[List.count_replicate_self];omega
 have hS:=uL (adj:=adj) (m:=m) (k:=k) hcB
 have hO:=Kh (adj:=adj) (m:=m) (k:=k) hcB ⟨fun s t _ _=>I.inj s t,fun s _ q=>by have:=I.bd s;omega,fun s _=>I.fr s,fun s _=>by have:=I.bd s;rw[I.l1];omega,by rw[I.l1];exact hk,by rw[List.length_replicate,I.l2];exact Nat.le_refl _⟩ I.edg
 obtain⟨C,hC,hC2⟩:=I.vK
 have hK:=xN (adj:=adj) (m:=m) (k:=k) (C:=C) hcB (by rw[List.length_replicate,I.l2];exact Nat.le_refl _) hC
 unfold o7
 dsimp only
 generalize aug adj (B+1) m (List.replicate B false) k=r at*
 obtain⟨b,m1,s1⟩:=r
 dsimp only at*
 have hfk:frA m k= -1:=I.low k (Nat.le_refl _)
 cases b with
 |false=>
  rw[if_neg (by simp)]
  obtain rfl:m1=m:=hS.fail rfl
  obtain⟨c1,c2⟩:=hS.vK rfl
  have hC':∀j,(∀t∈adj j,snA s1 t=true)→∀t∈adj j,C t∨(t<B∧snA s1 t=true):=fun j h t ht=> .inr ⟨hB j t ht,h t ht⟩
  refine⟨I.l1,I.l2,I.inj,fun s=>by have:=I.bd s;omega,I.fr,I.to,I.edg,?_,⟨fun s=>C s∨(s<B∧snA s1 s=true),?_,?_⟩,fun j hj=>I.low j (by omega)⟩
  ·rw[List.range_succ,List.filter_append,List.filter_cons_of_neg (by rw[hfk];decide),List.filter_nil,List.append_nil];exact I.cnt
  ·rintro s (h|⟨h1,h2⟩)
   ·exact⟨(hC s h).1,fun t ht=> .inl ((hC s h).2 t ht)⟩
   ·have:=c2 s h2 (Ba.2 h1)
    exact⟨this.1,hC' _ this.2⟩
  ·intro j hj h
   by_cases e:j=k
   ·subst e;exact hC' _ c1
   ·exact fun t ht=> .inl (hC2 j (by omega) h t ht)
 |true=>
  rw[if_pos rfl]
  obtain⟨O,hE⟩:=hO rfl
  have l2:m1.2.length=B:=hS.Ai.trans I.l2
  have hlt:∀s,0≤toA m1 s→snA (List.replicate B false) s=false:=fun s h=>Ba.2 (by have:=to_lt h;omega)
  have hlt0:∀s,0≤toA m s→snA (List.replicate B false) s=false:=fun s h=>Ba.2 (by have:=to_lt h;rw[I.l2]at this;exact this)
  obtain⟨sk,hsk,hsk2⟩:=O.has
  have hfk1:frA m1 k=sk:=by
   have:=O.fr sk hsk (by omega)
   rw[hsk2]at this
   exact this
  have hdom:∀j,j≠k→(0≤frA m1 j↔0≤frA m j):=fun j hj=>by
   constructor
   ·intro h
    rcases(show frA m j<0∨0≤frA m j by omega)with q|q
    ·have:=O.frf j hj fun s hs e=>by
      have:=I.fr s (by omega)
      rw[show(toA m s).toNat=j by omega]at this
      omega
     omega
    ·exact q
   ·intro h
    have e:=I.to j h
    obtain⟨t,ht,q⟩:=O.im1 _ (hlt0 _ (by rw[e];omega)) (by rw[e];omega)
    rw[e]at q
    have:=O.fr t ht (by omega)
    rw[show(toA m1 t).toNat=j by omega]at this
    omega
  have hto:∀j,0≤frA m1 j→toA m1 (frA m1 j).toNat=j:=fun j h=>by
   by_cases e:j=k
   ·subst e
    rw[hfk1]
    simpa using hsk2
   ·have h0:=(hdom j e).1 h
    have e1:=I.to j h0
    obtain⟨t,ht,q⟩:=O.im1 _ (hlt0 _ (by rw[e1];omega)) (by rw[e1];omega)
    rw[e1]at q
    have:=O.fr t ht (by omega)
    rw[show(toA m1 t).toNat=j by omega]at this
    rw[this]
    simpa using q
  refine⟨hS.Fj.trans I.l1,l2,fun s t h1 h2=>O.inj s t (hlt s h1) (hlt t (by omega)) h1 h2,fun s=> ?_,fun s h=>O.fr s (hlt s h) h,hto,hE,?_,⟨C,fun s hs=> ?_,fun j hj h=> ?_⟩,fun j hj=> ?_⟩
  ·rcases(show toA m1 s<0∨0≤toA m1 s by omega)with q|q
   ·omega
   ·rcases O.im2 s (hlt s q) q with q2|⟨t,_,q2⟩
    ·omega
    ·have:=I.bd t;omega
  ·rw[List.range_succ,List.filter_append,List.filter_cons_of_pos (by rw[hfk1];simp),List.filter_nil,List.length_append,List.length_singleton,←I.cnt]
   congr 2
   refine List.filter_congr fun j hj=> ?_
   rw[List.mem_range]at hj
   exact decide_eq_decide.2 (hdom j (by omega))
  ·rw[hK s hs];exact hC s hs
  ·have e:j≠k:=by rintro rfl;rw[hfk1]at h;omega
   exact hC2 j (by omega) (by have:=hdom j e;omega)
  ·rw[O.frf j (by omega) fun s _ q=>by have:=I.bd s;omega]
   exact I.low j (by omega)
theorem FB{adj:Nat→List Nat}{A B:Nat}(hB:∀j,∀t∈adj j,t<B):∀{n:Nat},n≤A→MtI adj A B n (mtN adj A B n).1 (mtN adj A B n).2
 |0,_=>MtI.init adj A B
 |n+1,h=>by
  have hn:n<A:=by omega
  have ih:=FB hB (n:=n) (Nat.le_of_lt hn)
  unfold mtN at ih⊢
  rw[List.range_succ,List.foldl_append]
  exact ih.step hB hn
structure MP (adj:Nat→List Nat) (n:Nat) (D:List Nat) (g:Nat→Nat):Prop where
 nd:D.Nodup
 lt:∀j∈D,j<n
 mem:∀j∈D,g j∈adj j
 inj:∀i∈D,∀j∈D,g i=g j→i=j
theorem MtI.asg{adj:Nat→List Nat}{A B n:Nat}{m:Mt}{many:Nat}(I:MtI adj A B n m many):MP adj n ((List.range n).filter fun j=>decide (0≤frA m j)) (fun j=>(frA m j).toNat):=by
 have hm:∀j∈(List.range n).filter (fun j=>decide (0≤frA m j)),j<n∧0≤frA m j:=fun j hj=>by
  rw[List.mem_filter,List.mem_range,decide_eq_true_eq]at hj
  exact hj
 refine⟨List.Pairwise.filter _ List.nodup_range,fun j hj=>(hm j hj).1,fun j hj=> ?_,fun i hi j hj e=> ?_⟩
 ·have e:=I.to j (hm j hj).2
  have:=I.edg (frA m j).toNat (by rw[e];omega)
  rw[e]at this
  exact this
 ·have e1:=I.to i (hm i hi).2
  have e2:=I.to j (hm j hj).2
  rw[e,e2]at e1
  omega
open Classical in
theorem MtI.max{adj:Nat→List Nat}{A B n:Nat}{m:Mt}{many:Nat}(I:MtI adj A B n m many){D:List Nat}{g:Nat→Nat}(G:MP adj n D g):D.length≤many:=by
 obtain⟨C,hC,hC2⟩:=I.vK
 rw[←I.cnt]
 have hP:∀j∈D,(∀t∈adj j,C t)→0≤toA m (g j)∧∀t∈adj (toA m (g j)).toNat,C t:=fun j hj h=>hC _ (h _ (G.mem j hj))
 have key:(D.map fun j=>if(∀t∈adj j,C t)then(toA m (g j)).toNat else j).Nodup:=by
  refine List.pairwise_map.2 (List.Pairwise.imp_of_mem (fun {i j} hi hj hij e=> ?_) G.nd)
  apply hij
  by_cases h1:∀t∈adj i,C t
  ·rw[if_pos h1]at e
   by_cases h2:∀t∈adj j,C t
   ·rw[if_pos h2]at e
    have a:=(hP i hi h1).1
    have b:=(hP j hj h2).1
    exact G.inj i hi j hj (I.inj _ _ a (by omega))
   ·rw[if_neg h2]at e
    rw[←e]at h2
    exact absurd (hP i hi h1).2 h2
  ·rw[if_neg h1]at e
   by_cases h2:∀t∈adj j,C t
   ·rw[if_pos h2]at e
    rw[e]at h1
    exact absurd (hP j hj h2).2 h1
   ·rw[if_neg h2]at e;exact e
 have:=uZ key (l':=(List.range n).filter fun j=>decide (0≤frA m j)) fun x hx=>by
  obtain⟨j,hj,rfl⟩:=List.mem_map.1 hx
  rw[List.mem_filter,List.mem_range,decide_eq_true_eq]
  by_cases h1:∀t∈adj j,C t
  ·rw[if_pos h1]
   have a:=(hP j hj h1).1
   have:=I.bd (g j)
   exact⟨by omega,by rw[I.fr _ a];omega⟩
  ·rw[if_neg h1]
   refine⟨G.lt j hj,?_⟩
   rcases(show frA m j<0∨0≤frA m j by omega)with q|q
   ·exact absurd (hC2 j (G.lt j hj) q) h1
   ·exact q
 rwa [List.length_map]at this
theorem MtI.le{adj adj2:Nat→List Nat}{A B A2 B2 n:Nat}{m m2:Mt}{a b:Nat}(I:MtI adj A B n m a)(J:MtI adj2 A2 B2 n m2 b){φ:Nat→Nat}(hφ:∀j<n,∀s∈adj j,φ s∈adj2 j)(hi:∀j<n,∀k<n,∀s∈adj j,∀t∈adj k,φ s=φ t→s=t):a≤b:=by
 have G:=I.asg
 rw[←I.cnt]
 exact J.max (g:=fun j=>φ (frA m j).toNat) ⟨G.nd,G.lt,fun j hj=>hφ j (G.lt j hj) _ (G.mem j hj),fun i h1 j h2 e=>G.inj i h1 j h2 (hi i (G.lt i h1) j (G.lt j h2) _ (G.mem i h1) _ (G.mem j h2) e)⟩
end Go.A.Pk
end
section
set_option maxRecDepth 100000
namespace Go.A.Pk
variable {T:Nat→Option af}
theorem uK{rc:Mt→List Bool→Nat→Bool×Mt×List Bool}{k s:Nat}{l:List Nat}{m:Mt}{sn:List Bool}:fD rc k (s::l) m sn=if snA sn s=true then fD rc k l m sn else
 if toA m s<0 then(true,jb m k s,sn.set s true)else
 if(rc m (sn.set s true) (toA m s).toNat).1=true then(true,jb (rc m (sn.set s true) (toA m s).toNat).2.1 k s,(rc m (sn.set s true) (toA m s).toNat).2.2)
 else fD rc k l (rc m (sn.set s true) (toA m s).toNat).2.1 (rc m (sn.set s true) (toA m s).toNat).2.2:=rfl
theorem sQ{rc:Mt→List Bool→Nat→Bool×Mt×List Bool}{k:Nat}:∀{l l2:List Nat} {m:Mt} {sn:List Bool},fD rc k (l++l2) m sn=if(fD rc k l m sn).1=true then fD rc k l m sn else fD rc k l2 (fD rc k l m sn).2.1 (fD rc k l m sn).2.2
 |[],l2,m,sn=>rfl
 |s::l,l2,m,sn=>by
  have ih:=fun m sn=>sQ (rc:=rc) (k:=k) (l:=l) (l2:=l2) (m:=m) (sn:=sn)
  rw[List.cons_append,uK,uK]
  by_cases h1:snA sn s=true
  ·simp only[if_pos h1];exact ih _ _
  ·simp only[if_neg h1]
   by_cases h2:toA m s<0
   ·simp only[if_pos h2];rfl
   ·simp only[if_neg h2]
    by_cases h3:(rc m (sn.set s true) (toA m s).toNat).1=true
    ·simp only[if_pos h3];rfl
    ·simp only[if_neg h3];exact ih _ _
structure jI (n:Nat) (m:Mt):Prop where
 l1:m.1.length=40
 l2:m.2.length=60
 b1:∀x∈m.1, -1≤x∧x<60
 b2:∀x∈m.2, -1≤x∧x<n
theorem y6{l:List Int}{i:Nat}{a x:Int}(h:x∈l.set i a):x∈l∨x=a:=by
 rcases List.mem_or_eq_of_mem_set h with h|h
 ·exact .inl h
 ·exact .inr h
theorem jI.put{n:Nat}{m:Mt}(M:jI n m){k s:Nat}(hk:k<n)(hs:s<60):jI n (jb m k s):=by
 refine⟨by unfold jb;rw[List.length_set];exact M.l1,by unfold jb;rw[List.length_set];exact M.l2,fun x hx=> ?_,fun x hx=> ?_⟩
 ·rcases y6 hx with h|h
  ·exact M.b1 x h
  ·omega
 ·rcases y6 hx with h|h
  ·exact M.b2 x h
  ·omega
theorem jI.to{n:Nat}{m:Mt}(M:jI n m){s:Nat}(hs:s<60):m.2[s]? =some (toA m s)∧ -1≤toA m s∧toA m s<n:=by
 have hl:=M.l2
 have e:m.2[s]? =some (toA m s):=by unfold toA;rw[List.getD_eq_getElem?_getD,List.getElem?_eq_getElem (by omega)];rfl
 exact⟨e,M.b2 _ (List.mem_of_getElem? e)⟩
theorem sj{n:Nat}{rc:Mt→List Bool→Nat→Bool×Mt×List Bool}{k:Nat}(hk:k<n)(hrc:∀m sn k,jI n m→k<n→jI n (rc m sn k).2.1):∀{l:List Nat} {m:Mt} {sn:List Bool},(∀s∈l,s<60)→jI n m→jI n (fD rc k l m sn).2.1
 |[],m,sn,_,M=>M
 |s::l,m,sn,hl,M=>by
  have h60:=hl s (List.mem_cons_self ..)
  have hl':∀s∈l,s<60:=fun s h=>hl s (List.mem_cons_of_mem _ h)
  unfold fD
  by_cases h1:snA sn s=true
  ·simp only[if_pos h1];exact sj hk hrc hl' M
  ·simp only[if_neg h1]
   by_cases h2:toA m s<0
   ·simp only[if_pos h2];exact M.put hk h60
   ·simp only[if_neg h2]
    have q:=(M.to h60).2
    have M2:=hrc m (sn.set s true) (toA m s).toNat M (by omega)
    by_cases h3:(rc m (sn.set s true) (toA m s).toNat).1=true
    ·simp only[if_pos h3];exact M2.put hk h60
    ·simp only[if_neg h3];exact sj hk hrc hl' M2
theorem zX{adj:Nat→List Nat}(ha:∀k,∀s∈adj k,s<60){n:Nat}:∀{f:Nat} {m:Mt} {sn:List Bool} {k:Nat},jI n m→k<n→jI n (aug adj f m sn k).2.1
 |0,m,sn,k,M,_=>M
 |f+1,m,sn,k,M,hk=>sj hk (fun m sn k M hk=>zX ha M hk) (ha k) M
def mtL(m:Mt):List Value:=ints m.1++ints m.2
theorem jy{n:Nat}{m:Mt}(M:jI n m):(mtL m).length=100:=by unfold mtL;rw[List.length_append,dX,dX,M.l1,M.l2]
theorem Ln{n:Nat}{m:Mt}(M:jI n m){s:Nat}(hs:s<60):bD (mtL m) (0+40+s*1)=some (.int .i64 (toA m s)):=by
 rw[cG]
 unfold mtL
 rw[List.getElem?_append_right (by rw[dX,M.l1];omega),dX,M.l1,show 0+40+s*1-40=s by omega]
 exact ints_at (M.to hs).1
theorem Fz{n:Nat}{m:Mt}(M:jI n m){k:Nat}(hk:k<40)(x:Int):cg (mtL m) (0+0+k*1) (cellsOf (.int .i64 x))=mtL (m.1.set k x,m.2):=by
 show cg _ _ [Value.int .i64 x]=_
 rw[iM (by rw[jy M];omega)]
 unfold mtL
 rw[List.set_append_left _ _ (by rw[dX,M.l1];omega),show 0+0+k*1=k by omega]
 simp[ints,List.map_set]
theorem FA{n:Nat}{m:Mt}(M:jI n m){s:Nat}(hs:s<60)(x:Int)(l:List Int)(hl:l.length=40):cg (mtL (l,m.2)) (0+40+s*1) (cellsOf (.int .i64 x))=mtL (l,m.2.set s x):=by
 show cg _ _ [Value.int .i64 x]=_
 have h2:=M.l2
 have hlen:(mtL (l,m.2)).length=100:=by unfold mtL;rw[List.length_append,dX,dX];show l.length+m.2.length=100;omega
 rw[iM (by rw[hlen];omega)]
 unfold mtL
 rw[List.set_append_right _ _ (by rw[dX];show l.length≤_;omega),dX]
 show ints l++(ints m.2).set (0+40+s*1-l.length) (.int .i64 x)=_
 rw[show 0+40+s*1-l.length=s by omega]
 simp[ints,List.map_set]
theorem sD{l:List Value}(h:l.length=100){o:Nat}(ho:o<100)(x:Int):(Nat.beq (bO (cellsOf (.int .i64 x))) 1&&Nat.ble (o+1) (bO l)&&dG (cellsOf (.int .i64 x)))=true:=by
 rw[bN l,h,gJ (by omega)];rfl
theorem KN{sn:List Bool}{s:Nat}(h:s<sn.length):bD (bos sn) (0+s*1)=some (.bool (snA sn s)):=by
 rw[cG,show 0+s*1=s by omega]
 unfold bos snA
 rw[List.getElem?_map,List.getD_eq_getElem?_getD,List.getElem?_eq_getElem h];rfl
theorem HZ{sn:List Bool}{s:Nat}(h:s<sn.length)(b:Bool):cg (bos sn) (0+s*1) (cellsOf (.bool b))=bos (sn.set s b):=by
 show cg _ _ [Value.bool b]=_
 rw[iM (by rw[eV];omega),show 0+s*1=s by omega,vG]
theorem HY{sn:List Bool}{s:Nat}(h:s<sn.length)(b:Bool):(Nat.beq (bO (cellsOf (.bool b))) 1&&Nat.ble (0+s*1+1) (bO (bos sn))&&dG (cellsOf (.bool b)))=true:=by
 rw[bN (bos sn),eV,gJ (by omega)];rfl
def gM(os:List Od)(ss:List Sp)(k:Nat):List Nat:=(mJ os ss k).map fun p=>p.1.toNat
theorem uh{os:List Od}{ss:List Sp}{k:Nat}(h40:os.length≤40)(h20:ss.length≤20){p:Int×Int}(hp:p∈mJ os ss k):0≤p.1∧p.1<60:=by
 unfold mJ at hp
 rcases List.mem_append.1 hp with h|h
 ·obtain⟨i,hi,rfl⟩:=List.mem_map.1 h
  have:=List.mem_range.1 (List.mem_filter.1 hi).1
  show 0≤(i:Int)∧(i:Int)<60
  omega
 ·obtain⟨i,hi,rfl⟩:=List.mem_map.1 h
  have:=List.mem_range.1 (List.mem_filter.1 hi).1
  show 0≤40+(i:Int)∧40+(i:Int)<60
  omega
theorem sg{os:List Od}{ss:List Sp}(h40:os.length≤40)(h20:ss.length≤20)(k:Nat):∀s∈gM os ss k,s<60:=by
 intro s hs
 obtain⟨p,hp,rfl⟩:=List.mem_map.1 hs
 have:=uh h40 h20 hp
 omega
theorem Bb(hp:bI T)(hf:T 139=some f323){h:Heap}(hr:Rdy h)(q k:Nat):
 Al T 139 [.pointer (some ⟨q,0,none⟩), .int .i64 (k:Nat)] h fun v h'=>v= .func (.func 163) #[] #[.pointer (some ⟨h.next,0,none⟩), .pointer (some ⟨h.next+1,0,none⟩)]∧h'.next=h.next+2∧h'.get h.next=some (.cells [.pointer (some ⟨q,0,none⟩)] true 1)∧h'.get (h.next+1)=some (.cells [.int .i64 (k:Nat)] true 1):=by
 refine .of hp hf hr ?_ ?_
 ·rintro v h1 hv ⟨rfl,_⟩
  cases hv
 refine y4 ?_;refine yB ?_;refine yB ?_;refine yM ?_;refine y3 ?_;refine y4 ?_
 refine ah (gL (by exact rfl) (by exact rfl)) ?_;refine yM ?_;refine y3 ?_;refine aM ?_
 refine iV hr.log rfl ⟨rfl,rfl,?_,?_⟩
 ·exact(z4 (Nat.lt_succ_self _)).trans (z3 h _)
 ·exact z3 _ _
end Go.A.Pk
end
section
set_option maxRecDepth 100000
namespace Go.A.Pk
variable {T:Nat→Option af}
section
open I
def uq:aU:=(I.R [M 10 14] [4,5,6,7,9,10])
def Hy:aU:=(I.Q (.draw [L 44 5,L 45 7,L 46 5,M 47 10,M 48 10,L 49 7,g 50 (.bh (t 44)),A 51 0 50,g 52 (.bE 40 1 (t 51) (t 45)),S 1 52 48,g 53 (.bh (t 46)),A 54 40 53,g 55 (.bE 60 1 (t 54) (t 47)),S 1 55 49] [0,1,2,3,4,5,6,7,8,10,11,9,12,13] [0,0,0,0,0,0,1,65,211,467,4,1028,4095,8191] [9])
 (I.Q (I.R [⟨none, .store 1 (t 9) (.const (.bool true)),none⟩] [])
 (.exit 0)))
def uu:aU:=(.block 1 (I.Q (.seq (I.R [L 16 6,M 17 10,g 18 (.bh (t 16)),g 19 (.bE 60 1 (t 18) (t 17)),L 20 19] [4,5,6,7,9,10,20])
 (.cond (t 20) (.exit 1) .skip))
 (I.Q (I.R [L 21 6,M 22 10,g 23 (.bh (t 21)),g 24 (.bE 60 1 (t 23) (t 22)),⟨none, .store 1 (t 24) (.const (.bool true)),none⟩] [4,5,6,7,9,10])
 (I.Q (.draw [L 25 5,M 26 10,g 27 (.bh (t 25)),A 28 40 27,g 29 (.bE 60 1 (t 28) (t 26)),L 30 29,C 31 .lss 30 0,M 32 31,⟨some 33, .load none (t 4),(some (32,false))⟩,⟨some 34, .load none (t 5),(some (32,false))⟩,⟨some 35, .load none (t 6),(some (32,false))⟩,⟨some 36, .load none (t 5),(some (32,false))⟩,W 37 10 32 false,⟨some 38, .bh (t 36),(some (32,false))⟩,⟨some 39, .cS 40 (t 38),(some (32,false))⟩,⟨some 40, .bE 60 1 (t 39) (t 37),(some (32,false))⟩,⟨some 41, .load none (t 40),(some (32,false))⟩,⟨some 42, .call (.func 114) [(t 33),(t 34),(t 35),(t 41)],(some (32,false))⟩,g 43 (.pick (t 32) (.const (.bool true)) (t 42))] [0,1,2,3,4,5,6,7,8,9,10,11,12,13,14,15,16,17,18] [0,0,1,5,15,31,63,127,255,255,255,255,255,2303,10495,30975,63743,131071,262143] [5,7,9,10,43])
 (.cond (t 43) Hy .skip)))))
end
def auE(b:Nat)(fn:Value):Env:=[(4, .pointer (some ⟨b,0,none⟩)),(5, .pointer (some ⟨b+1,0,none⟩)),(6, .pointer (some ⟨b+2,0,none⟩)),(7, .pointer (some ⟨b+3,0,none⟩)),(9, .pointer (some ⟨b+4,0,none⟩)),(13,fn)]
structure AuH (H:Heap) (b q pm ps k:Nat) (m:Mt) (sn:List Bool):Prop where
 g4:H.get b=some (.cells [.pointer (some ⟨q,0,none⟩)] true 1)
 g5:H.get (b+1)=some (.cells [.pointer (some ⟨pm,0,none⟩)] true 1)
 g6:H.get (b+2)=some (.cells [.pointer (some ⟨ps,0,none⟩)] true 1)
 g7:H.get (b+3)=some (.cells [.int .i64 (k:Nat)] true 1)
 g9:H.get (b+4)=some (.cells [.bool false] true 1)
 gm:H.get pm=some (.cells (mtL m) true 1)
 gs:H.get ps=some (.cells (bos sn) true 1)
set_option maxHeartbeats 16000000 in
theorem zo{base:Nat}{H:Heap}{b pm k lp s n:Nat}{fn:Value}{m:Mt}(g5:H.get (b+1)=some (.cells [.pointer (some ⟨pm,0,none⟩)] true 1))(g7:H.get (b+3)=some (.cells [.int .i64 (k:Nat)] true 1))(g9:H.get (b+4)=some (.cells [.bool false] true 1))(gm:H.get pm=some (.cells (mtL m) true 1))
 (gl:H.get lp=some (.loop (auE b fn) [14,15] uq uu 1 .normal))(hpm:pm<b)(hbl:b+4<lp)(hlp:lp<H.next)(M:jI n m)(hk:k<40)(hs:s<60):
 WE T base (some lp) Hy (fun x e' ds' h'=>x= .exit 0∧ds'=[]∧h'.next=H.next∧(∀z∈h'.log,z∈H.log∨z=pm∨z=b+4)∧(∀z,z≠pm→z≠b+4→h'.get z=H.get z)∧h'.get pm=some (.cells (mtL (jb m k s)) true 1)∧h'.get (b+4)=some (.cells [.bool true] true 1))
  [(5, .pointer (some ⟨b+1,0,none⟩)),(7, .pointer (some ⟨b+3,0,none⟩)),(9, .pointer (some ⟨b+4,0,none⟩)),(10, .int .i64 (s:Nat)),(43, .bool true)] [] H:=by
 unfold Hy
 have km:=jy M
 have kc1:=sD km (o:=0+0+k*1) (by omega) (s:Nat)
 have kw1:=Fz M hk (s:Nat)
 have km2:(mtL (m.1.set k ((s:Nat):Int),m.2)).length=100:=by unfold mtL;rw[List.length_append,dX,dX];show(m.1.set k _).length+m.2.length=100;rw[List.length_set,M.l1,M.l2]
 have kc2:=sD km2 (o:=0+40+s*1) (by omega) (k:Nat)
 have kw2:=FA M hs (k:Nat) (m.1.set k ((s:Nat):Int)) (by rw[List.length_set];exact M.l1)
 refine an ?_;refine dn ?_;refine qL ?_;refine qL ?_
 refine qL ?_;refine qM ?_;refine qM ?_
 refine qL ?_;refine aF rfl rfl rfl (by exact rfl) (by exact rfl) (by exact rfl) (bP (by exact rfl)) ?_;refine qF ?_
 refine qJ ?_;refine aF rfl rfl rfl (by exact rfl) (by exact rfl) (by exact rfl) (bP (by exact rfl)) ?_;refine qF ?_
 refine ec rfl rfl rfl (by exact rfl) (by exact rfl) (by exact rfl) gm kc1 kw1 (by omega) (by apply aN rfl (aI rfl (dV (by exact rfl)) (by exact dB _)) rfl;apply aN rfl (aI rfl (bP (by exact rfl)) (by exact dB _)) rfl;(repeat apply aT rfl);apply aN rfl (aI rfl (dD (by exact rfl) (by(simp(disch:=first|omega|(simp only[z1,z2];omega))only[z3,z4,z5,z6,z7,z1,z2,g5,g7,g9,gm,gl];exact rfl)) (by exact rfl)) (by exact eN _ _)) rfl;apply aT rfl;apply aN rfl (aI rfl (iu (by exact rfl)) (by exact eN _ _)) rfl;apply aN rfl (aI rfl (dD (by exact rfl) (by(simp(disch:=first|omega|(simp only[z1,z2];omega))only[z3,z4,z5,z6,z7,z1,z2,g5,g7,g9,gm,gl];exact rfl)) (by exact rfl)) (by exact dB _)) rfl;(repeat apply aT rfl);exact cO) ?_
 refine qJ ?_
 have gm1:(H.wr base pm (.cells (mtL (m.1.set k ((s:Nat):Int),m.2)) true 1)).get pm=some (.cells (mtL (m.1.set k ((s:Nat):Int),m.2)) true 1):=Heap.aJ gm
 refine ec rfl rfl rfl (by exact rfl) (by exact rfl) (by exact rfl) gm1 kc2 kw2 (by show pm<H.next;omega) (by(repeat apply aT rfl);exact cO) ?_
 refine dH ?_;refine y1 ?_;refine bH ?_;refine y4 ?_
 refine yS ?_;refine y3 ?_;refine dz ?_
 refine⟨rfl,rfl,rfl,fun z hz=> ?_,fun z h1 h2=> ?_,?_,?_⟩
 ·rcases dJ hz with rfl|hz
  ·exact .inr (.inr rfl)
  rcases dJ hz with rfl|hz
  ·exact .inr (.inl rfl)
  rcases dJ hz with rfl|hz
  ·exact .inr (.inl rfl)
  exact .inl hz
 ·exact(z5 h2).trans ((z5 h1).trans (z5 h1))
 ·exact(z5 (by omega)).trans (Heap.aJ gm1)
 ·exact Heap.aJ (((z5 (by omega)).trans (z5 (by omega))).trans g9)
set_option maxHeartbeats 32000000 in
theorem Cu(hp:bI T){H:Heap}(hr:Rdy H){b q pm ps k lp s n:Nat}{fn x2:Value}{m:Mt}{sn:List Bool}(A:AuH H b q pm ps k m sn)(hpm:pm<b)(hps:ps<b)(hne:pm≠ps)(M:jI n m)(hk:k<n)(hn:n≤40)(hs:s<60)(hsn:sn.length=60)
 (gl:H.get lp=some (.loop (auE b fn) [14,15] uq uu 0 .normal))(hbl:b+4<lp){rc:Mt→List Bool→Nat→Bool×Mt×List Bool}(hrc:∀m sn k,jI n m→k<n→jI n (rc m sn k).2.1)
 (IH:0≤toA m s→snA sn s=false→∀G:Heap,Rdy G→H.next≤G.next→G.get pm=some (.cells (mtL m) true 1)→G.get ps=some (.cells (bos (sn.set s true)) true 1)→(∀z,z<H.next→z≠ps→z≠lp→G.get z=H.get z)→
   Gs T 114 [.pointer (some ⟨q,0,none⟩), .pointer (some ⟨pm,0,none⟩), .pointer (some ⟨ps,0,none⟩), .int .i64 ((toA m s).toNat:Nat)] G (fun z=>z=pm∨z=ps) fun v G'=>v= .bool (rc m (sn.set s true) (toA m s).toNat).1∧G'.get pm=some (.cells (mtL (rc m (sn.set s true) (toA m s).toNat).2.1) true 1)∧G'.get ps=some (.cells (bos (rc m (sn.set s true) (toA m s).toNat).2.2) true 1)):
 FW T (.yield lp) [.int .i64 (s:Nat),x2] H fun r' H'=>(∀z∈H'.log,z=pm∨z=ps∨z=b+4∨z=lp)∧
  (r'= .ret (.bool true)∧((fD rc k [s] m sn).1=false∧H.next≤H'.next∧(∀z,z<H.next→z≠pm→z≠ps→H'.get z=H.get z)∧H'.get pm=some (.cells (mtL (fD rc k [s] m sn).2.1) true 1)∧H'.get ps=some (.cells (bos (fD rc k [s] m sn).2.2) true 1))∨
   r'= .ret (.bool false)∧lp∈H'.log∧((fD rc k [s] m sn).1=true∧H.next≤H'.next∧(∀z,z<H.next→z≠pm→z≠ps→z≠b+4→z≠lp→H'.get z=H.get z)∧H'.get pm=some (.cells (mtL (fD rc k [s] m sn).2.1) true 1)∧H'.get ps=some (.cells (bos (fD rc k [s] m sn).2.2) true 1)∧H'.get (b+4)=some (.cells [.bool true] true 1)∧H'.get lp=some (.loop (auE b fn) [14,15] uq uu 2 (.exit 0)))):=by
 have kl:=hr.wf.gF gl
 refine FW.MO hp (.inr ⟨0,rfl⟩) (W:=fun z=>z=pm∨z=ps∨z=b+4∨z=lp) (R:=fun H'=>(fD rc k [s] m sn).1=false∧H.next≤H'.next∧(∀z,z<H.next→z≠pm→z≠ps→H'.get z=H.get z)∧H'.get pm=some (.cells (mtL (fD rc k [s] m sn).2.1) true 1)∧H'.get ps=some (.cells (bos (fD rc k [s] m sn).2.2) true 1))
  (S:=fun H'=>(fD rc k [s] m sn).1=true∧H.next≤H'.next∧(∀z,z<H.next→z≠pm→z≠ps→z≠b+4→z≠lp→H'.get z=H.get z)∧H'.get pm=some (.cells (mtL (fD rc k [s] m sn).2.1) true 1)∧H'.get ps=some (.cells (bos (fD rc k [s] m sn).2.2) true 1)∧H'.get (b+4)=some (.cells [.bool true] true 1)∧H'.get lp=some (.loop (auE b fn) [14,15] uq uu 2 (.exit 0))) gl rfl kl (.inr (.inr (.inr rfl))) ?_
 unfold uq auE
 refine aq ?_;refine yM ?_;refine ct ?_;refine y1 ?_
 refine⟨rfl,gl,?_⟩
 unfold uu
 refine aO ?_
 refine WE.Im ?_
 intro hA hAe
 have A1:∀z,z<H.next→z≠lp→H.get z=hA.get z:=fun z hz hne=>by rw[hAe];exact(z5 hne).symm
 have A2:hA.get lp=some (.loop (auE b fn) [14,15] uq uu 1 .normal):=by rw[hAe];exact Heap.aJ gl
 have A5:hA.next=H.next:=by rw[hAe];rfl
 have A6:hA.log=[]:=by rw[hAe,Heap.aL (by omega)];exact hr.log
 have A7:WF hA:=by rw[hAe];exact hr.wf.as (AS.wr _ _ _ _)
 clear hAe
 have AA:AuH hA b q pm ps k m sn:=⟨(A1 _ (by omega) (by omega)).symm.trans A.g4,(A1 _ (by omega) (by omega)).symm.trans A.g5,(A1 _ (by omega) (by omega)).symm.trans A.g6,(A1 _ (by omega) (by omega)).symm.trans A.g7,(A1 _ (by omega) (by omega)).symm.trans A.g9,(A1 _ (by omega) (by omega)).symm.trans A.gm,(A1 _ (by omega) (by omega)).symm.trans A.gs⟩
 have g4:=AA.g4
 have g5:=AA.g5
 have g6:=AA.g6
 have g7:=AA.g7
 have g9:=AA.g9
 have gm:=AA.gm
 have gs:=AA.gs
 have kb:=KN (sn:=sn) (s:=s) (by omega)
 rw[show(fD rc k [s] m sn)=(if snA sn s=true then(false,m,sn)else if toA m s<0 then(true,jb m k s,sn.set s true)else if(rc m (sn.set s true) (toA m s).toNat).1=true then(true,jb (rc m (sn.set s true) (toA m s).toNat).2.1 k s,(rc m (sn.set s true) (toA m s).toNat).2.2)else(false,(rc m (sn.set s true) (toA m s).toNat).2.1,(rc m (sn.set s true) (toA m s).toNat).2.2))from rfl]
 cases hse:snA sn s with
 |true=>
  rw[if_pos rfl]
  rw[hse]at kb
  refine an ?_;refine y4 ?_;refine yL ?_;refine yM ?_;refine ah (bP (by exact rfl)) ?_;refine ah (fk (by exact rfl) (by exact rfl) (by omega)) ?_;refine ah (dD (by exact rfl) (by assumption) (by assumption)) ?_;refine y3 ?_;refine yY ?_;refine dz ?_;refine ek ?_;refine iY ?_
  exact⟨⟨_,A2,rfl⟩,fun z hz=>(by rw[A6]at hz;cases hz), .inl ⟨rfl,fun h5 hn5 ha5 hl5=>⟨rfl,hn5,fun z hz _ _=>by
   by_cases hzl:z=lp
   ·subst hzl
    rw[hl5,gl];rfl
   ·exact(ha5 z hz hzl).trans (A1 z hz hzl).symm,(ha5 _ (by omega) (by omega)).trans gm,(ha5 _ (by omega) (by omega)).trans gs⟩⟩⟩
 |false=>
  rw[if_neg (by simp)]
  rw[hse]at kb
  have kt:=Ln M hs
  have kto:=(M.to hs).2
  have kc:=HY (sn:=sn) (s:=s) (by omega) true
  have kw:=HZ (sn:=sn) (s:=s) (by omega) true
  refine an ?_;refine y4 ?_;refine yL ?_;refine yM ?_;refine ah (bP (by exact rfl)) ?_;refine ah (fk (by exact rfl) (by exact rfl) (by omega)) ?_;refine ah (dD (by exact rfl) (by assumption) (by assumption)) ?_;refine y3 ?_;refine yX ?_;refine bA ?_;refine bH ?_;refine y4 ?_;refine yL ?_;refine yM ?_;refine ah (bP (by exact rfl)) ?_
  refine ah (fk (by exact rfl) (by exact rfl) (by omega)) ?_
  refine ah (gV (by exact rfl) (by exact rfl) gs kc kw) ?_
  refine y3 ?_
  have gsB:(hA.wr H.next ps (.cells (bos (sn.set s true)) true 1)).get ps=some (.cells (bos (sn.set s true)) true 1):=Heap.aJ gs
  have oB:∀z,z≠ps→(hA.wr H.next ps (.cells (bos (sn.set s true)) true 1)).get z=hA.get z:=fun z hz=>z5 hz
  have nB:(hA.wr H.next ps (.cells (bos (sn.set s true)) true 1)).next=H.next:=A5
  have WB:WF (hA.wr H.next ps (.cells (bos (sn.set s true)) true 1)):=A7.as (AS.wr _ _ _ _)
  have LB:∀z∈(hA.wr H.next ps (.cells (bos (sn.set s true)) true 1)).log,z=ps:=fun z hz=>(dJ hz).elim id fun q=>(by rw[A6]at q;cases q)
  generalize(hA.wr H.next ps (.cells (bos (sn.set s true)) true 1))=hB at*
  have e4:=(oB _ (by omega)).trans g4
  have e5:=(oB _ (by omega)).trans g5
  have e6:=(oB _ (by omega)).trans g6
  have e7:=(oB _ (by omega)).trans g7
  have e9:=(oB _ (by omega)).trans g9
  have em:=(oB _ hne).trans gm
  have eL:=(oB lp (by omega)).trans A2
  clear g4 g5 g6 g7 g9 gm gs AA A5 A6 A7 kc kw kb
  by_cases h0:toA m s<0
  ·rw[if_pos h0]
   have mlt:aA .lss (.int .i64 (toA m s)) (.int .i64 0)=some (.bool true):=gP h0
   refine an ?_;refine dn ?_;refine qL ?_;refine qM ?_;refine aF rfl rfl rfl (by exact rfl) (by exact rfl) (by exact rfl) (bP (by exact rfl)) ?_
   refine qF ?_;refine qJ ?_;refine qK ?_
   refine qW ?_;refine qM ?_;refine qO ?_;refine qO ?_;refine qO ?_
   refine qO ?_;refine qO ?_;refine qO ?_;refine qO ?_;refine qO ?_;refine qO ?_;refine qO ?_
   refine aF rfl rfl rfl (by exact rfl) (by exact rfl) (by exact rfl) (iR (by exact rfl) (by exact rfl)) ?_;refine dH ?_;refine y1 ?_;refine bH ?_;refine yY ?_
   refine(zo e5 e7 e9 em eL hpm hbl (by omega) M (by omega) hs).mono ?_
   rintro x e' ds' h' ⟨rfl,rfl,n1,l1,o1,p1,p2⟩
   refine K7 (by exact rfl) ?_
   exact⟨⟨_,(o1 lp (by omega) (by omega)).trans eL,rfl⟩,fun z hz=>(l1 z hz).elim (fun q=> .inr (.inl (LB z q))) (fun q=>q.elim .inl fun q=> .inr (.inr (.inl q))), .inr ⟨rfl,fun h5 hn5 ha5 hl5=>⟨rfl,by omega,fun z hz i1 i2 i3 i4=>(ha5 z i4).trans ((o1 z i1 i3).trans ((oB z i2).trans (A1 z hz i4).symm)),(ha5 _ (by omega)).trans p1,(ha5 _ (by omega)).trans ((o1 _ (fun q=>hne q.symm) (by omega)).trans gsB),(ha5 _ (by omega)).trans p2,hl5⟩⟩⟩
  ·rw[if_neg h0]
   have mlt:aA .lss (.int .i64 (toA m s)) (.int .i64 0)=some (.bool false):=iF (by omega)
   obtain⟨t,ht⟩:∃t:Nat,toA m s=(t:Int):=⟨(toA m s).toNat,by omega⟩
   have hM2:=hrc m (sn.set s true) t M (by omega)
   have I:=IH (by omega) hse {hB with log:=[]} (.of WB) (by show H.next≤hB.next;omega) em gsB (fun z h1 h2 h3=>(oB z h2).trans (A1 z h1 h3).symm)
   clear IH
   rw[ht]at kt mlt I
   rw[ht]
   rw[show((t:Int)).toNat=t from rfl]at I
   rw[show((t:Int)).toNat=t from rfl]
   refine an ?_;refine dn ?_;refine qL ?_;refine qM ?_;refine aF rfl rfl rfl (by exact rfl) (by exact rfl) (by exact rfl) (bP (by exact rfl)) ?_
   refine qF ?_;refine qJ ?_;refine qK ?_
   refine qW ?_;refine qM ?_;refine qL ?_
   refine qL ?_;refine qL ?_;refine qL ?_
   refine qM ?_;refine aF rfl rfl rfl (by exact rfl) (by exact rfl) (by exact rfl) (bP (by exact rfl)) ?_;refine qF ?_
   refine qJ ?_;refine qK ?_
   refine qC ?_
   refine FW.gsD I (fun v h' lg q=>q) ?_
   clear I
   rintro _ hC lg xC hlg ⟨rfl,gmC,gsC⟩
   have oC:∀z,z<hB.next→z≠pm→z≠ps→hC.get z=hB.get z:=fun z h1 h2 h3=>xC.old z h1 (fun q=>q.elim h2 h3)
   have nC:=xC.next
   have LC:∀z∈hC.log,z=pm∨z=ps:=fun z hz=>(xC.log z hz).elim (fun q=> .inr (LB z q)) id
   have c5:=(oC _ (by omega) (by omega) (by omega)).trans e5
   have c7:=(oC _ (by omega) (by omega) (by omega)).trans e7
   have c9:=(oC _ (by omega) (by omega) (by omega)).trans e9
   have cL:=(oC lp (by omega) (by omega) (by omega)).trans eL
   refine⟨_,by(repeat apply aT rfl);exact cO,?_⟩
   generalize rc m (sn.set s true) t=rr at*
   obtain⟨rb,rm,rs⟩:=rr
   dsimp only at*
   cases rb with
   |true=>
    rw[if_pos rfl]
    refine aF rfl rfl rfl (by exact rfl) (by exact rfl) (by exact rfl) (iQ (by exact rfl) (by exact rfl)) ?_;refine dH ?_;refine y1 ?_;refine bH ?_;refine yY ?_
    refine(zo c5 c7 c9 gmC cL hpm hbl (by omega) hM2 (by omega) hs).mono ?_
    rintro x e' ds' h' ⟨rfl,rfl,n1,l1,o1,p1,p2⟩
    refine K7 (by exact rfl) ?_
    exact⟨⟨_,(o1 lp (by omega) (by omega)).trans cL,rfl⟩,fun z hz=>(l1 z hz).elim (fun q=>(LC z q).elim .inl fun q=> .inr (.inl q)) (fun q=>q.elim .inl fun q=> .inr (.inr (.inl q))), .inr ⟨rfl,fun h5 hn5 ha5 hl5=>⟨rfl,by omega,fun z hz i1 i2 i3 i4=>(ha5 z i4).trans ((o1 z i1 i3).trans ((oC z (by omega) i1 i2).trans ((oB z i2).trans (A1 z hz i4).symm))),(ha5 _ (by omega)).trans p1,(ha5 _ (by omega)).trans ((o1 _ (fun q=>hne q.symm) (by omega)).trans gsC),(ha5 _ (by omega)).trans p2,hl5⟩⟩⟩
   |false=>
    rw[if_neg (by simp)]
    refine aF rfl rfl rfl (by exact rfl) (by exact rfl) (by exact rfl) (iQ (by exact rfl) (by exact rfl)) ?_;refine dH ?_;refine y1 ?_;refine bH ?_;refine yX ?_;refine bA ?_;refine fF ?_
    exact⟨⟨_,cL,rfl⟩,fun z hz=>(LC z hz).elim .inl fun q=> .inr (.inl q), .inl ⟨rfl,fun h5 hn5 ha5 hl5=>⟨rfl,hn5,fun z hz i1 i2=>by
     by_cases hzl:z=lp
     ·subst hzl
      rw[hl5,gl];rfl
     ·exact(ha5 z hz hzl).trans ((oC z (by omega) i1 i2).trans ((oB z i2).trans (A1 z hz hzl).symm)),(ha5 _ (by omega) (by omega)).trans gmC,(ha5 _ (by omega) (by omega)).trans gsC⟩⟩⟩
structure JV (T:Nat→Option af):Prop where
 so:J7 T
 f280:T 114=some f280
structure BkR (h0:Heap) (q:Nat) (ov sv:Value) (r:Int) (os:List Od) (ss:List Sp) (fo be:List Bool) (mo ms:Nat):Prop where
 wf:WF h0
 gq:h0.get q=some (.cells (bkL ov sv r fo be mo ms) true 1)
 so:OdS h0 ov os
 sp:SpS h0 sv ss
structure BkK (H:Heap) (q:Nat) (ov sv:Value) (r:Int) (os:List Od) (ss:List Sp) (fo be:List Bool) (mo ms:Nat):Prop where
 gq:H.get q=some (.cells (bkL ov sv r fo be mo ms) true 1)
 so:OdS H ov os
 sp:SpS H sv ss
theorem BkR.keep{h0 H:Heap}{q:Nat}{ov sv:Value}{r:Int}{os:List Od}{ss:List Sp}{fo be:List Bool}{mo ms:Nat}(B:BkR h0 q ov sv r os ss fo be mo ms)(hn:h0.next≤H.next)(ho:∀z,z<h0.next→H.get z=h0.get z):BkK H q ov sv r os ss fo be mo ms:=
 ⟨(ho q (B.wf.gF B.gq)).trans B.gq,⟨cA.Kn B.so.sl hn ho,B.so.ok⟩,⟨cA.Kn B.sp.sl hn ho,B.sp.ok⟩⟩
def dnS(l:List (Int×Int)):List Nat:=l.map fun p=>p.1.toNat
structure PAu (l b pm ps:Nat) (fn:Value) (h1:Heap) (R:List Nat→Bool×Mt×List Bool) (done:List (Int×Int)) (H:Heap):Prop where
 no:(R (dnS done)).1=false
 old:∀z,z<h1.next→z≠pm→z≠ps→H.get z=h1.get z
 gm:H.get pm=some (.cells (mtL (R (dnS done)).2.1) true 1)
 gs:H.get ps=some (.cells (bos (R (dnS done)).2.2) true 1)
 loop:H.get l=some (.loop (auE b fn) [14,15] uq uu 0 .normal)
 nx:l<H.next
structure SAu (l b pm ps:Nat) (fn:Value) (h1:Heap) (R:Bool×Mt×List Bool) (H:Heap):Prop where
 yes:R.1=true
 old:∀z,z<h1.next→z≠pm→z≠ps→z≠b+4→H.get z=h1.get z
 gm:H.get pm=some (.cells (mtL R.2.1) true 1)
 gs:H.get ps=some (.cells (bos R.2.2) true 1)
 g9:H.get (b+4)=some (.cells [.bool true] true 1)
 loop:H.get l=some (.loop (auE b fn) [14,15] uq uu 2 (.exit 0))
set_option maxHeartbeats 32000000 in
theorem KH(F:JV T){h0:Heap}{q:Nat}{a a2:Option Addr}{c c2:Nat}{r:Int}{os:List Od}{ss:List Sp}{fo be:List Bool}{mo ms:Nat}(B:BkR h0 q (.slice a os.length c) (.slice a2 ss.length c2) r os ss fo be mo ms)(BT:BkT os ss fo be)(h40:os.length≤40)(h20:ss.length≤20)
 {pm ps:Nat}(hpm:h0.next≤pm)(hps:h0.next≤ps)(hne:pm≠ps):∀(f:Nat) {h:Heap},Rdy h→h0.next≤h.next→(∀z,z<h0.next→h.get z=h0.get z)→∀{m:Mt} {sn:List Bool} {k:Nat},jI os.length m→sn.length=60→k<os.length→sn.count false<f→h.get pm=some (.cells (mtL m) true 1)→h.get ps=some (.cells (bos sn) true 1)→
  Gs T 114 [.pointer (some ⟨q,0,none⟩), .pointer (some ⟨pm,0,none⟩), .pointer (some ⟨ps,0,none⟩), .int .i64 (k:Nat)] h (fun z=>z=pm∨z=ps) fun v h'=>v= .bool (aug (gM os ss) f m sn k).1∧h'.get pm=some (.cells (mtL (aug (gM os ss) f m sn k).2.1) true 1)∧h'.get ps=some (.cells (bos (aug (gM os ss) f m sn k).2.2) true 1):=by
 intro f
 induction f with
 |zero=>intro _ _ _ _ _ _ _ _ _ _ hf;exact absurd hf (Nat.not_lt_zero _)
 |succ f ih=>
 intro h hr hn0 ho0 m sn k M hsn hk hf gm gs
 have hp:=F.so.co.p
 have kpm:=hr.wf.gF gm
 have kps:=hr.wf.gF gs
 refine Gs.of hp F.f280 (fun v h1 h2 _ hn ha q=>⟨q.1,(ha _ kpm).trans q.2.1,(ha _ kps).trans q.2.2⟩) ?_
 refine cH (E0:=[(4, .pointer (some ⟨h.next,0,none⟩)),(5, .pointer (some ⟨h.next+1,0,none⟩)),(6, .pointer (some ⟨h.next+2,0,none⟩)),(7, .pointer (some ⟨h.next+3,0,none⟩))]) (P:=fun h'=>Ext h h'∧h'.next=h.next+4∧h'.get h.next=some (.cells [.pointer (some ⟨q,0,none⟩)] true 1)∧h'.get (h.next+1)=some (.cells [.pointer (some ⟨pm,0,none⟩)] true 1)∧h'.get (h.next+2)=some (.cells [.pointer (some ⟨ps,0,none⟩)] true 1)∧h'.get (h.next+3)=some (.cells [.int .i64 (k:Nat)] true 1)) ?_ ?_
 ·refine aq ?_;refine yB ?_;refine yB ?_;refine yB ?_;refine yB ?_;refine yM ?_;refine ct ?_
  refine y1 ?_
  refine⟨rfl,rfl,rfl,⟨?_,rfl,?_,?_⟩,rfl,?_,?_,?_,?_⟩
  ·show h.next≤h.next+1+1+1+1;omega
  ·intro z hz
   have e:∀(G:Heap) (o:bK),z<G.next→(G.push o).get z=G.get z:=fun G o hz=>z4 hz
   rw[e _ _ (by show z<h.next+1+1+1;omega),e _ _ (by show z<h.next+1+1;omega),e _ _ (by show z<h.next+1;omega),e _ _ hz]
  ·intro w;exact(((w.push _).push _).push _).push _
  ·exact((z4 (by show h.next<h.next+1+1+1;omega)).trans (z4 (by show h.next<h.next+1+1;omega))).trans ((z4 (by show h.next<h.next+1;omega)).trans (z3 _ _))
  ·exact((z4 (by show h.next+1<h.next+1+1+1;omega)).trans (z4 (by show h.next+1<h.next+1+1;omega))).trans (z3 (h.push _) _)
  ·exact(z4 (by show h.next+2<h.next+1+1+1;omega)).trans (z3 ((h.push _).push _) _)
  ·exact z3 (((h.push _).push _).push _) _
 rintro h1 ⟨x1,n1,g4,g5,g6,g7⟩
 have W1:=x1.wf hr.wf
 refine zM ?_
 refine cH (E0:=[(4, .pointer (some ⟨h.next,0,none⟩)),(5, .pointer (some ⟨h.next+1,0,none⟩)),(6, .pointer (some ⟨h.next+2,0,none⟩)),(7, .pointer (some ⟨h.next+3,0,none⟩)),(9, .pointer (some ⟨h.next+4,0,none⟩))]) (P:=fun h'=>Ext h1 h'∧h'.next=h.next+5∧h'.get (h.next+4)=some (.cells [.bool false] true 1)) ?_ ?_
 ·refine aq ?_;refine ah (cZ) ?_;refine yS ?_;refine ct ?_
  refine y1 ?_
  rw[←n1]
  exact⟨rfl,rfl,rfl,ff (by omega) _ _,by show h1.next+1=h.next+5;omega,fE _ _⟩
 rintro h2 ⟨x2,n2,g9⟩
 have W2:=x2.wf W1
 have k4:=(x2.old _ (by omega)).trans g4
 have k5:=(x2.old _ (by omega)).trans g5
 have k6:=(x2.old _ (by omega)).trans g6
 have k7:=(x2.old _ (by omega)).trans g7
 have C2:=Bb hp F.so.f323 (h:={h2 with log:=[]}) (.of W2) q k
 refine an ?_;refine bA ?_;refine bH ?_;refine an ?_;refine y4 ?_;refine yL ?_;refine yL ?_
 refine yC ?_
 refine FW.al C2 (fun v h' m q=>q) ?_
 clear C2
 rintro _ H5 x5 ⟨rfl,n5,gb1,gb2⟩
 have n5:H5.next=h2.next+2:=n5
 have gb1:H5.get h2.next=some (.cells [.pointer (some ⟨q,0,none⟩)] true 1):=gb1
 have gb2:H5.get (h2.next+1)=some (.cells [.int .i64 (k:Nat)] true 1):=gb2
 have W5:=x5.wf W2
 have hL5:=x5.log.trans ((x2.log.trans x1.log).trans hr.log)
 have m4:=(x5.old _ (show h.next<h2.next by omega)).trans k4
 have m5:=(x5.old _ (show h.next+1<h2.next by omega)).trans k5
 have m6:=(x5.old _ (show h.next+2<h2.next by omega)).trans k6
 have m7:=(x5.old _ (show h.next+3<h2.next by omega)).trans k7
 have m9:=(x5.old _ (show h.next+4<h2.next by omega)).trans g9
 have oh5:∀z,z<h.next→H5.get z=h.get z:=fun z hz=>(x5.old z (show z<h2.next by omega)).trans ((x2.old z (by omega)).trans (x1.old z hz))
 have mm:=(oh5 pm kpm).trans gm
 have ms5:=(oh5 ps kps).trans gs
 have oh0:∀z,z<h0.next→H5.get z=h0.get z:=fun z hz=>(oh5 z (by omega)).trans (ho0 z hz)
 clear k4 k5 k6 k7 g4 g5 g6 g7 g9 x5 x2 x1 W1 W2 ho0
 have hadj:=sg h40 h20
 have hrc:∀m sn k,jI os.length m→k<os.length→jI os.length (aug (gM os ss) f m sn k).2.1:=fun m sn k M hk=>zX hadj M hk
 have hrs:∀(m:Mt) (sn:List Bool) (k:Nat),sn.count false<f→xF (gM os ss) m sn k (gM os ss k) (aug (gM os ss) f m sn k):=fun m sn k h=>uL h
 generalize hL0:(.loop (auE h.next (.func (.func 163) #[] #[.pointer (some ⟨h2.next,0,none⟩), .pointer (some ⟨h2.next+1,0,none⟩)])) [14,15] uq uu 0 .normal:bK)=L0
 generalize hRR:(fun l=>fD (aug (gM os ss) f) k l m sn)=RR
 have hres:aug (gM os ss) (f+1) m sn k=RR (dnS (mJ os ss k)):=by rw[←hRR];rfl
 rw[hres]
 have hsub:∀{done:List (Int×Int)},done<+:mJ os ss k→∀s∈dnS done,s<60:=by
  intro done hd s hs
  obtain⟨p,hp',rfl⟩:=List.mem_map.1 hs
  have:=uh h40 h20 (hd.subset hp')
  omega
 have hstab:∀done Ha Hb,PAu H5.next h.next pm ps (.func (.func 163) #[] #[.pointer (some ⟨h2.next,0,none⟩), .pointer (some ⟨h2.next+1,0,none⟩)]) H5 RR done Ha→H5.next+1≤Hb.next→(∀x,x<H5.next+1→Hb.get x=Ha.get x)→PAu H5.next h.next pm ps (.func (.func 163) #[] #[.pointer (some ⟨h2.next,0,none⟩), .pointer (some ⟨h2.next+1,0,none⟩)]) H5 RR done Hb:=fun done Ha Hb p n e=>
  ⟨p.no,fun z hz i1 i2=>(e z (by omega)).trans (p.old z hz i1 i2),(e _ (by omega)).trans p.gm,(e _ (by omega)).trans p.gs,(e _ (by omega)).trans p.loop,by omega⟩
 have Y:HU (.exit 0) T (fun z=>z=pm∨z=ps∨z=h.next+4∨z=H5.next) (H5.next+1) H5.next srV (mJ os ss k) (PAu H5.next h.next pm ps (.func (.func 163) #[] #[.pointer (some ⟨h2.next,0,none⟩), .pointer (some ⟨h2.next+1,0,none⟩)]) H5 RR) (SAu H5.next h.next pm ps (.func (.func 163) #[] #[.pointer (some ⟨h2.next,0,none⟩), .pointer (some ⟨h2.next+1,0,none⟩)]) H5 (RR (dnS (mJ os ss k)))):=by
  refine⟨fun done x Hh hx hrH hN hP=> ?_,hstab,fun _ _ e=>⟨e.yes,e.old,e.gm,e.gs,e.g9,e.loop⟩,fun _ e=>⟨_,_,_,_,e.loop⟩,fun z hz=>by omega⟩
  have hx0:=uh h40 h20 (hx.subset (List.mem_append_right _ (List.mem_singleton.2 rfl)))
  obtain⟨s,hs⟩:∃s:Nat,x.1=(s:Int):=⟨x.1.toNat,by omega⟩
  have hds:dnS (done++[x])=dnS done++[s]:=by unfold dnS;rw[List.map_append,List.map_cons,hs];rfl
  have hdone:=(List.prefix_append done [x]).trans hx
  have hno:=hP.no
  have hgm:=hP.gm
  have hgs:=hP.gs
  have hol:=hP.old
  have MM:jI os.length (RR (dnS done)).2.1:=by rw[←hRR];exact sj hk hrc (hsub hdone) M
  have AS':xF (gM os ss) m sn k (dnS done) (RR (dnS done)):=by rw[←hRR];exact vF hrs (by omega)
  have hsl:=AS'.Aj
  have hcn:=AS'.cnt
  have happ:RR (dnS (done++[x]))=fD (aug (gM os ss) f) k [s] (RR (dnS done)).2.1 (RR (dnS done)).2.2:=by
   rw[hds,←hRR]
   show fD _ k (dnS done++[s]) m sn=_
   rw[sQ,if_neg (by have:=hno;rw[←hRR]at this;rw[this];simp)]
  generalize RR (dnS done)=RD at*
  have AH:AuH Hh h.next q pm ps k RD.2.1 RD.2.2:=⟨(hol _ (by omega) (by omega) (by omega)).trans m4,(hol _ (by omega) (by omega) (by omega)).trans m5,(hol _ (by omega) (by omega) (by omega)).trans m6,(hol _ (by omega) (by omega) (by omega)).trans m7,(hol _ (by omega) (by omega) (by omega)).trans m9,hgm,hgs⟩
  unfold srV
  rw[hs]
  refine FW.mono' (Cu hp hrH AH kpm kps hne MM hk h40 (by omega) (by omega) hP.loop (by omega) hrc fun t0 hse G rG nG gG1 gG2 oG=> ?_) ?_
  ·have:=(MM.to (s:=s) (by omega)).2
   have:=nZ hse
   exact ih rG (by omega) (fun z hz=>(oG z (by omega) (by omega) (by omega)).trans ((hol z (by omega) (by omega) (by omega)).trans (oh0 z hz))) MM (by rw[List.length_set];omega) (by omega) (by omega) gG1 gG2
  ·rintro r' H' ⟨r1,r2⟩
   rw[←happ]at r2
   refine⟨r1,r2.imp (fun⟨e0,e1,e2,e3,e4,e5⟩=>⟨e0,⟨e1,fun z hz i1 i2=>(e3 z (by omega) i1 i2).trans (hol z hz i1 i2),e4,e5,(e3 _ hP.nx (by omega) (by omega)).trans hP.loop,Nat.lt_of_lt_of_le hP.nx e2⟩⟩) (fun⟨e0,em,e1,e2,e3,e4,e5,e6,e7⟩=>⟨e0,em,?_⟩)⟩
   obtain⟨rest,hrest⟩:=hx
   have hall:RR (dnS (mJ os ss k))=RR (dnS (done++[x])):=by
    rw[←hrest,←hRR]
    show fD _ k (dnS ((done++[x])++rest)) m sn=fD _ k (dnS (done++[x])) m sn
    rw[show dnS ((done++[x])++rest)=dnS (done++[x])++dnS rest from List.map_append ..,sQ,if_pos (by rw[←hRR]at e1;exact e1)]
   rw[hall]
   exact⟨e1,fun z hz i1 i2 i3=>(e3 z (by omega) i1 i2 i3 (by omega)).trans (hol z hz i1 i2),e4,e5,e6,e7⟩
 refine y3 ?_;refine aO ?_
 refine DK (px:= .exit 0) (W:=fun z=>z=pm∨z=ps∨z=h.next+4∨z=H5.next) (P:=PAu H5.next h.next pm ps (.func (.func 163) #[] #[.pointer (some ⟨h2.next,0,none⟩), .pointer (some ⟨h2.next+1,0,none⟩)]) H5 RR (mJ os ss k)) (S:=SAu H5.next h.next pm ps (.func (.func 163) #[] #[.pointer (some ⟨h2.next,0,none⟩), .pointer (some ⟨h2.next+1,0,none⟩)]) H5 (RR (dnS (mJ os ss k)))) rfl (by rfl) (by rw[F.so.f347];rfl) (by omega) W5 ?_ (fun Hh p=>⟨_,_,_,_,p.loop⟩) (fun Hh p=>⟨_,_,_,_,p.loop⟩) ?_ ?_
 ·subst hL0
  refine Mh F.so (q:=q) (a:=a) (a2:=a2) (c:=c) (c2:=c2) (r:=r) (fo:=fo) (be:=be) (mo:=mo) (ms:=ms) (b1:=h2.next) (b2:=h2.next+1) (h:={H5.push (.loop (auE h.next (.func (.func 163) #[] #[.pointer (some ⟨h2.next,0,none⟩), .pointer (some ⟨h2.next+1,0,none⟩)])) [14,15] uq uu 0 .normal)with log:=[]}) (.of (W5.push _)) (Nat.le_refl _) (Nat.lt_succ_self _) Y (fun d Hh p=> ?_) BT ?_ hk h40 h20
  ·have K:=B.keep (H:=Hh) (by have:=p.nx;omega) (fun z hz=>(p.old z (by omega) (by omega) (by omega)).trans (oh0 z hz))
   exact⟨(p.old _ (by omega) (by omega) (by omega)).trans gb1,(p.old _ (by omega) (by omega) (by omega)).trans gb2,K.gq,K.so,K.sp⟩
  ·exact⟨by rw[←hRR];rfl,fun z hz _ _=>z4 hz,by rw[←hRR];exact(z4 (by omega)).trans mm,by rw[←hRR];exact(z4 (by omega)).trans ms5,z3 _ _,Nat.lt_succ_self _⟩
 ·intro h4 h5 i1 i2 i3 i4 i5 i6 hP
  have D9:=(i5 (h.next+4) (by omega)).trans ((hP.old _ (by omega) (by omega) (by omega)).trans m9)
  have hlg:∀z∈h5.log,z=pm∨z=ps:=fun z hz=>by
   rcases i1 z hz with e|⟨e,e2⟩
   ·rw[hL5]at e;cases e
   ·omega
  refine fF ?_;refine bH ?_;refine y4 ?_;refine yL ?_;refine yM ?_;refine y3 ?_;refine aM ?_
  exact pP hlg rfl ⟨by rw[hP.no];rfl,(i5 _ (by omega)).trans hP.gm,(i5 _ (by omega)).trans hP.gs⟩
 ·intro h4 h5 i1 i2 i3 i4 i5 i6 hP
  have D9:=(i5 (h.next+4) (by omega)).trans hP.g9
  have hlg:∀z∈h5.log,z=pm∨z=ps:=fun z hz=>by
   rcases i1 z hz with e|⟨e,e2⟩
   ·rw[hL5]at e;cases e
   ·omega
  refine iY ?_;refine bH ?_;refine y4 ?_;refine yL ?_;refine yM ?_;refine y3 ?_;refine aM ?_
  exact pP hlg rfl ⟨by rw[hP.yes];rfl,(i5 _ (by omega)).trans hP.gm,(i5 _ (by omega)).trans hP.gs⟩
def flL(i:Nat):List Value:=ints (List.replicate i (-1)++List.replicate (100-i) 0)
theorem lY{i:Nat}(h:i≤100):(flL i).length=100:=by unfold flL;rw[dX,List.length_append,List.length_replicate,List.length_replicate];omega
theorem NG:aW 100 (.int .i64 0)=flL 0:=by unfold flL;rw[we];simp[ints]
theorem BM{i o:Nat}(h:i<100)(ho:o=i):cg (flL i) o (cellsOf (.int .i64 (-1)))=flL (i+1):=by
 subst ho
 show cg _ _ [Value.int .i64 (-1)]=_
 rw[iM (by rw[lY (by omega)];omega)]
 unfold flL ints
 rw[show Value.int .i64 (-1)=(fun x:Int=>Value.int .i64 x) (-1)from rfl,←List.map_set,List.set_append_right _ _ (by rw[List.length_replicate];omega),List.length_replicate,Nat.sub_self,show 100-o=(100-(o+1))+1 by omega,List.replicate_succ,List.set_cons_zero,List.replicate_succ',List.append_assoc]
 rfl
theorem Il:flL 100=mtL (List.replicate 40 (-1),List.replicate 60 (-1)):=by
 unfold flL mtL
 rw[←td,List.replicate_append_replicate,Nat.sub_self,List.replicate_zero,List.append_nil]
theorem H6:aW 60 (.bool false)=bos (List.replicate 60 false):=by unfold bos;rw[we,List.map_replicate]
def mtV(p:Mt×Nat):Value:= .tuple #[.agg (mtL p.1).toArray, .int .i64 (p.2:Nat)]
theorem vl:∀l:List Int,cV (ints l)=true
 |[]=>rfl
 |x::l=>by
  show cV (.int .i64 x::ints l)=true
  simp only[cV,vl l];rfl
theorem CP(p:Mt×Nat):cT (mtV p)=true:=by
 have q:flat (.agg (mtL p.1).toArray)=true:=by
  show cV (mtL p.1).toArray.toList=true
  rw[List.toList_toArray]
  unfold mtL
  rw[←td]
  exact vl _
 show jj [.agg (mtL p.1).toArray, .int .i64 (p.2:Nat)]=true
 simp only[jj,q,cond_true];rfl
theorem Av{os:List Od}{ss:List Sp}(h40:os.length≤40)(h20:ss.length≤20):∀{n:Nat},n≤os.length→jI os.length (mtN (gM os ss) 40 60 n).1
 |0,_=>⟨List.length_replicate,List.length_replicate,fun x hx=>by rw[List.eq_of_mem_replicate hx];omega,fun x hx=>by rw[List.eq_of_mem_replicate hx];omega⟩
 |n+1,h=>by
  have ih:=Av h40 h20 (n:=n) (by omega)
  unfold mtN at ih⊢
  rw[List.range_succ,List.foldl_append]
  exact zX (sg h40 h20) ih (by omega)
theorem Au(adj:Nat→List Nat)(A B:Nat):∀n:Nat,(mtN adj A B n).2≤n
 |0=>Nat.le_refl _
 |n+1=>by
  have ih:=Au adj A B n
  unfold mtN at ih⊢
  rw[List.range_succ,List.foldl_append]
  have key:∀p:Mt×Nat,p.2≤n→(o7 adj B p n).2≤n+1:=by
   intro p hp
   unfold o7
   dsimp only
   split<;>omega
  exact key _ ih
theorem y8(m:Mt):dG (mtL m)=true:=by unfold mtL;rw[←td];exact uU _
theorem y7{n:Nat}{m:Mt}(M:jI n m):Nat.beq (bO (mtL m)) 100=true:=by rw[bN,jy M];rfl
theorem BW{n:Nat}{m:Mt}(M:jI n m):bT 100 (bS 0 (mtL m))=mtL m:=by
 rw[dy,cK,List.drop_zero,List.take_of_length_le (by rw[jy M];omega)]
structure DW (T:Nat→Option af):Prop where
 au:JV T
 f239:T 65=some f239
 f165:T 36=some f165
set_option maxHeartbeats 32000000 in
theorem Aq(F:DW T){h:Heap}(hr:Rdy h){q:Nat}{a a2:Option Addr}{c c2:Nat}{r:Int}{os:List Od}{ss:List Sp}{fo be:List Bool}{mo ms:Nat}(B:BkR h q (.slice a os.length c) (.slice a2 ss.length c2) r os ss fo be mo ms)(BT:BkT os ss fo be)(h40:os.length≤40)(h20:ss.length≤20):
 Pu T 65 [.pointer (some ⟨q,0,none⟩)] h (mtV (mtN (gM os ss) 40 60 os.length)):=by
 have hp:=F.au.so.co.p
 refine .of hp F.f239 hr (CP _) ?_
 have gq:=B.gq
 have hql:=hr.wf.gF gq
 have kl:bD (bkL (.slice a os.length c) (.slice a2 ss.length c2) r fo be mo ms) (0+0+0)=some (.slice a os.length c):=KL
 have e0:=NG
 refine cH (E0:=[(0, .pointer (some ⟨q,0,none⟩)),(2, .pointer (some ⟨h.next,0,none⟩))]) (P:=fun h'=>Ext h h'∧h'.next=h.next+1∧h'.get h.next=some (.cells (flL 0) true 1)) ?_ ?_
 ·refine aq ?_;refine ah (cZ) ?_;refine yM ?_;refine ct ?_;refine y1 ?_
  exact⟨rfl,rfl,rfl,(Ext.refl h).push _,rfl,by rw[←e0];exact z3 _ _⟩
 rintro h1 ⟨x1,n1,g2⟩
 refine cH (E0:=[(0, .pointer (some ⟨q,0,none⟩)),(2, .pointer (some ⟨h.next,0,none⟩)),(4, .pointer (some ⟨h.next+1,0,none⟩))]) (P:=fun h'=>Ext h h'∧h'.next=h.next+2∧h'.get h.next=some (.cells (flL 0) true 1)∧h'.get (h.next+1)=some (.cells (flL 0) true 1)) ?_ ?_
 ·refine aq ?_;refine ah (cZ) ?_;refine ct ?_;refine y1 ?_
  rw[←n1]
  exact⟨rfl,rfl,rfl,x1.push _,by show h1.next+1=h.next+2;omega,(z4 (by omega)).trans g2,by rw[←e0];exact z3 _ _⟩
 rintro h2 ⟨x2,n2,k2,k4⟩
 clear x1 n1 g2 e0
 refine an ?_;refine y4 ?_;refine yM ?_;refine y3 ?_;refine aO ?_
 refine dL (fun m e ds h'=>∃i:Nat,i≤40∧40-i=m∧e=[(0, .pointer (some ⟨q,0,none⟩)),(2, .pointer (some ⟨h.next,0,none⟩)),(4, .pointer (some ⟨h.next+1,0,none⟩)),(10, .int .i64 (i:Nat))]∧ds=[]∧Ext h h'∧h'.next=h.next+2∧h'.get h.next=some (.cells (flL 0) true 1)∧h'.get (h.next+1)=some (.cells (flL i) true 1))
  ⟨0,by omega,rfl,rfl,rfl,x2,n2,k2,k4⟩ ?_
 clear x2 n2 k2 k4
 rintro m e ds J ⟨i,hi,rfl,rfl,rfl,xJ,nJ,k2,k4⟩
 by_cases hlt:i<40
 ·have mlt:aA .lss (.int .i64 (i:Nat)) (.int .i64 40)=some (.bool true):=gP (by omega)
  have kc:=sD (lY (i:=i) (by omega)) (o:=0+0+i*1) (by omega) (-1)
  have kw:=BM (i:=i) (o:=0+0+i*1) (by omega) (by omega)
  refine y4 ?_;refine yW ?_;refine y3 ?_;refine an ?_;refine yY ?_;refine bA ?_;refine bH ?_;refine an ?_;refine aO ?_
  refine y4 ?_;refine yM ?_;refine yM ?_;refine y3 ?_;refine aq ?_;refine yM ?_;refine yF ?_
  refine ah (fk (by exact rfl) (by exact rfl) (by omega)) ?_
  refine ah (gV (by exact rfl) (by exact rfl) k4 kc kw) ?_
  refine ct ?_;refine y1 ?_;refine fF ?_;refine bH ?_;refine aq ?_;refine iI ?_;refine yM ?_;refine y3 ?_
  exact⟨40-(i+1),by omega,i+1,by omega,rfl,rfl,rfl,xJ.wr (by omega) (by omega),nJ,(z5 (by omega)).trans k2,Heap.aJ k4⟩
 obtain rfl:i=40:=by omega
 have mlt:aA .lss (.int .i64 (40:Nat)) (.int .i64 40)=some (.bool false):=rfl
 refine y4 ?_;refine yW ?_;refine y3 ?_;refine an ?_;refine yX ?_;refine dz ?_;refine ek ?_;refine ek ?_;refine iY ?_;refine bH ?_
 refine an ?_;refine y4 ?_;refine yM ?_;refine y3 ?_;refine aO ?_
 refine dL (fun m e ds h'=>∃i:Nat,i≤60∧60-i=m∧e=[(0, .pointer (some ⟨q,0,none⟩)),(2, .pointer (some ⟨h.next,0,none⟩)),(4, .pointer (some ⟨h.next+1,0,none⟩)),(17, .int .i64 (i:Nat))]∧ds=[]∧Ext h h'∧h'.next=h.next+2∧h'.get h.next=some (.cells (flL 0) true 1)∧h'.get (h.next+1)=some (.cells (flL (40+i)) true 1))
  ⟨0,by omega,rfl,rfl,rfl,xJ,nJ,k2,k4⟩ ?_
 clear xJ nJ k2 k4 mlt
 rintro m e ds J ⟨i,hi,rfl,rfl,rfl,xJ,nJ,k2,k4⟩
 by_cases hlt:i<60
 ·have mlt:aA .lss (.int .i64 (i:Nat)) (.int .i64 60)=some (.bool true):=gP (by omega)
  have kc:=sD (lY (i:=40+i) (by omega)) (o:=0+40+i*1) (by omega) (-1)
  have kw:=BM (i:=40+i) (o:=0+40+i*1) (by omega) (by omega)
  refine y4 ?_;refine yW ?_;refine y3 ?_;refine an ?_;refine yY ?_;refine bA ?_;refine bH ?_;refine an ?_;refine aO ?_
  refine y4 ?_;refine yM ?_;refine yM ?_;refine y3 ?_;refine aq ?_;refine yM ?_;refine yF ?_
  refine ah (fk (by exact rfl) (by exact rfl) (by omega)) ?_
  refine ah (gV (by exact rfl) (by exact rfl) k4 kc kw) ?_
  refine ct ?_;refine y1 ?_;refine fF ?_;refine bH ?_;refine aq ?_;refine iI ?_;refine yM ?_;refine y3 ?_
  exact⟨60-(i+1),by omega,i+1,by omega,rfl,rfl,rfl,xJ.wr (by omega) (by omega),nJ,(z5 (by omega)).trans k2,Heap.aJ k4⟩
 obtain rfl:i=60:=by omega
 have mlt:aA .lss (.int .i64 (60:Nat)) (.int .i64 60)=some (.bool false):=rfl
 have gq1:=(xJ.old q hql).trans gq
 rw[Il]at k4
 refine y4 ?_;refine yW ?_;refine y3 ?_;refine an ?_;refine yX ?_;refine dz ?_;refine ek ?_;refine ek ?_;refine iY ?_;refine bH ?_
 refine y4 ?_;refine yM ?_;refine y3 ?_;refine an ?_;refine y4 ?_;refine yM ?_;refine ah (bP (by exact rfl)) ?_;refine yF ?_
 refine yF ?_;refine yL ?_;refine yD ?_;refine yM ?_;refine y3 ?_;refine aO ?_
 refine dL (fun m e ds h'=>∃i:Nat,i≤os.length∧os.length-i=m∧e=[(0, .pointer (some ⟨q,0,none⟩)),(2, .pointer (some ⟨h.next,0,none⟩)),(4, .pointer (some ⟨h.next+1,0,none⟩)),(7, .int .i64 ((mtN (gM os ss) 40 60 i).2:Nat)),(29, .int .i64 (os.length:Nat)),(30, .int .i64 (i:Nat))]∧ds=[]∧Ext h h'∧h.next+2≤h'.next∧h'.get h.next=some (.cells (flL 0) true 1)∧h'.get (h.next+1)=some (.cells (mtL (mtN (gM os ss) 40 60 i).1) true 1))
  ⟨0,by omega,rfl,rfl,rfl,xJ,by omega,k2,k4⟩ ?_
 clear xJ nJ k2 k4 mlt gq1
 rintro m e ds J ⟨i,hi,rfl,rfl,rfl,xJ,nJ,k2,k4⟩
 have hlJ:=xJ.log.trans hr.log
 have MM:=Av h40 h20 hi
 by_cases hlt:i<os.length
 ·have mlt:aA .lss (.int .i64 (i:Nat)) (.int .i64 (os.length:Nat))=some (.bool true):=gP (by omega)
  have hst:mtN (gM os ss) 40 60 (i+1)=o7 (gM os ss) 60 (mtN (gM os ss) 40 60 i) i:=by unfold mtN;rw[List.range_succ,List.foldl_append];rfl
  have hle:=Au (gM os ss) 40 60 i
  generalize mtN (gM os ss) 40 60 i=mi at*
  refine y4 ?_;refine yW ?_;refine y3 ?_;refine an ?_;refine yY ?_;refine bA ?_;refine bH ?_;refine an ?_;refine aO ?_
  refine y4 ?_;refine yM ?_;refine yM ?_;refine y3 ?_
  refine cH (E0:=[(0, .pointer (some ⟨q,0,none⟩)),(2, .pointer (some ⟨h.next,0,none⟩)),(4, .pointer (some ⟨h.next+1,0,none⟩)),(7, .int .i64 (mi.2:Nat)),(8, .int .i64 (i:Nat)),(9, .pointer (some ⟨J.next,0,none⟩)),(29, .int .i64 (os.length:Nat)),(30, .int .i64 (i:Nat))]) (P:=fun h'=>Ext J h'∧h'.next=J.next+1∧h'.get J.next=some (.cells (bos (List.replicate 60 false)) true 1)) ?_ ?_
  ·refine aq ?_;refine ah (cZ) ?_;refine ct ?_;refine y1 ?_
   exact⟨rfl,rfl,rfl,(Ext.refl J).push _,rfl,by rw[←H6];exact z3 _ _⟩
  rintro J1 ⟨x1,n1,g9⟩
  have xJ1:=xJ.trans x1
  have W1:=xJ1.wf hr.wf
  have hl1:=x1.log.trans hlJ
  have c2:=(x1.old _ (by omega)).trans k2
  have c4:=(x1.old _ (by omega)).trans k4
  have C:=KH F.au B BT h40 h20 (pm:=h.next+1) (ps:=J.next) (by omega) (by omega) (by omega) 61 (h:={J1 with log:=[]}) (.of W1) xJ1.next xJ1.old (m:=mi.1) (sn:=List.replicate 60 false) (k:=i) MM List.length_replicate hlt (by rw[List.count_replicate_self];omega) c4 g9
  clear xJ x1
  refine y4 ?_;refine yM ?_;refine yM ?_
  refine yC ?_
  refine FW.gs0 C (fun v h' m q=>q) (fun z hz=>by omega) ?_
  clear C
  rintro _ J2 m2 l2 o2 w2 ⟨rfl,p4,p9⟩
  have x2:Ext h J2:=⟨Nat.le_trans xJ1.next m2,l2.trans xJ1.log,fun z hz=>(o2 z (by have:=xJ1.next;omega) (by omega)).trans (xJ1.old z hz),fun w=>w2 (xJ1.wf w)⟩
  have d2:=(o2 h.next (by omega) (by omega)).trans c2
  have hst1:(mtN (gM os ss) 40 60 (i+1)).1=(aug (gM os ss) 61 mi.1 (List.replicate 60 false) i).2.1:=by rw[hst];rfl
  have hst2:(mtN (gM os ss) 40 60 (i+1)).2=if(aug (gM os ss) 61 mi.1 (List.replicate 60 false) i).1=true then mi.2+1 else mi.2:=by rw[hst];rfl
  rw[←hst1]at p4
  cases hb:(aug (gM os ss) 61 mi.1 (List.replicate 60 false) i).1 with
  |true=>
   rw[hb,if_pos rfl]at hst2
   have madd:aA .add (.int .i64 (mi.2:Nat)) (.int .i64 1)=some (.int .i64 ((mi.2:Nat)+1)):=nk (cN (by omega) (by omega))
   refine y3 ?_;refine yY ?_;refine aq ?_;refine yM ?_;refine yW ?_;refine yM ?_;refine ct ?_
   refine y1 ?_;refine fF ?_;refine bH ?_;refine aq ?_;refine iI ?_;refine yM ?_;refine y3 ?_
   exact⟨os.length-(i+1),by omega,i+1,by omega,rfl,by rw[hst2];rfl,rfl,x2,by omega,d2,p4⟩
  |false=>
   rw[hb,if_neg (by simp)]at hst2
   refine y3 ?_;refine yX ?_;refine bA ?_;refine fF ?_;refine bH ?_;refine aq ?_;refine iI ?_;refine yM ?_;refine y3 ?_
   exact⟨os.length-(i+1),by omega,i+1,by omega,rfl,by rw[hst2],rfl,x2,by omega,d2,p4⟩
 obtain rfl:i=os.length:=by omega
 have mlt:aA .lss (.int .i64 (os.length:Nat)) (.int .i64 (os.length:Nat))=some (.bool false):=iF (by omega)
 have wz1:=jy MM
 have wz2:=BW MM
 have wz3:=y7 MM
 have wz4:=y8 (mtN (gM os ss) 40 60 os.length).1
 have wz5:=lY (i:=0) (by omega)
 refine y4 ?_;refine yW ?_;refine y3 ?_;refine an ?_;refine yX ?_;refine dz ?_;refine ek ?_;refine ek ?_;refine iY ?_;refine bH ?_
 refine y4 ?_;refine yV ?_;refine yM ?_;refine ah (bQ (by exact rfl) (by exact rfl) (by assumption) (by assumption) (by assumption) (by assumption)) ?_;refine yM ?_;refine y3 ?_;refine aM ?_
 exact aD ((Heap.aL (Nat.le_refl _)).trans hlJ) (cW (own:=true) (s:=1) rfl (Heap.aJ k2) wz2 wz3 (GQ rfl Jj)) rfl
theorem BkR.log{h0:Heap}{q:Nat}{ov sv:Value}{r:Int}{os:List Od}{ss:List Sp}{fo be:List Bool}{mo ms:Nat}(B:BkR h0 q ov sv r os ss fo be mo ms)(l:List Nat):BkR {h0 with log:=l} q ov sv r os ss fo be mo ms:=
 ⟨B.wf.log l,B.gq,B.so.log l,B.sp.log l⟩
set_option maxHeartbeats 8000000 in
theorem Fh(F:DW T){h:Heap}(hr:Rdy h){q:Nat}{a a2:Option Addr}{c c2:Nat}{r:Int}{os:List Od}{ss:List Sp}{fo be:List Bool}{mo ms:Nat}(B:BkR h q (.slice a os.length c) (.slice a2 ss.length c2) r os ss fo be mo ms)(BT:BkT os ss fo be)(h40:os.length≤40)(h20:ss.length≤20):
 Pu T 36 [.pointer (some ⟨q,0,none⟩)] h (.int .i64 ((os.length:Int)-(mtN (gM os ss) 40 60 os.length).2)):=by
 have hp:=F.au.so.co.p
 refine .of hp F.f165 hr rfl ?_
 have gq:=B.gq
 have hql:=hr.wf.gF gq
 have kl:bD (bkL (.slice a os.length c) (.slice a2 ss.length c2) r fo be mo ms) (0+0+0)=some (.slice a os.length c):=KL
 have C:=Aq F (h:={h with log:=[]}) (.of hr.wf) (B.log []) BT h40 h20
 have MM:=Av h40 h20 (Nat.le_refl os.length)
 have hle:=Au (gM os ss) 40 60 os.length
 generalize mtN (gM os ss) 40 60 os.length=mi at*
 have wz1:=jy MM
 have wz2:=BW MM
 have wz3:=y7 MM
 have wz4:=y8 mi.1
 have msub:aA .sub (.int .i64 (os.length:Nat)) (.int .i64 (mi.2:Nat))=some (.int .i64 ((os.length:Int)-(mi.2:Nat))):=nr (cN (by omega) (by omega))
 refine y4 ?_;refine yM ?_;refine y3 ?_;refine y4 ?_;refine yM ?_
 refine yC ?_
 refine FW.pu C ?_
 clear C
 unfold mtV
 refine yM ?_;refine yE ?_;refine yE ?_;refine ah (cZ) ?_
 refine ah (bQ (by exact rfl) (by exact rfl) (by(simp(disch:=first|omega|(simp only[z1,z2];omega))only[z3,z4,z5,z6,z7,z1,z2,gq];exact rfl)) (by assumption) (by exact rfl) (by assumption)) ?_;refine yM ?_;refine y3 ?_;refine y4 ?_;refine yM ?_;refine ah (bP (by exact rfl)) ?_;refine yF ?_;refine yF ?_
 refine yL ?_;refine yD ?_;refine yM ?_
 refine yW ?_;refine yM ?_;refine y3 ?_;refine aM ?_
 exact aD ((Heap.aL (Nat.le_refl _)).trans hr.log) rfl rfl
def lsN(os:List Od)(ss:List Sp):Int:=(os.length:Int)-(mtN (gM os ss) 40 60 os.length).2
structure J5 (T:Nat→Option af):Prop where
 md:DW T
 bk:Bs T
 f69:T 10=some f69
set_option maxHeartbeats 8000000 in
theorem vZ(F:J5 T){h:Heap}(hr:Rdy h)(hg:Tab h)(h2:0<h.next){ov sv:Value}{os:List Od}{ss:List Sp}{r:Int}(so:OdS h ov os)(ho:os.length<4611686018427387904)(sp:SpS h sv ss)(hs:ss.length<4611686018427387904):
 Pu T 10 [seV ov sv r] h (.tuple #[.int .i64 (if seB os ss r=true then lsN os ss else 0), .int .i64 (seE os ss r)]):=by
 have hp:=F.bk.cs.df.rt.p
 refine .of hp F.f69 hr rfl ?_
 obtain⟨a,c,rfl⟩:=so.form
 obtain⟨a2,c2,rfl⟩:=sp.form
 generalize hov:(.slice a os.length c:Value)=ov at*
 generalize hsv:(.slice a2 ss.length c2:Value)=sv at*
 have hov1:dG [ov]=true:=by rw[←hov];rfl
 have hsv1:dG [sv]=true:=by rw[←hsv];rfl
 refine cH (E0:=[(1, .pointer (some ⟨h.next,0,none⟩))]) (P:=fun h'=>Ext h h'∧h'.next=h.next+1∧h'.get h.next=some (.cells [ov,sv, .int .i64 r] true 1)) ?_ ?_
 ·refine aq ?_;refine yB ?_;refine yM ?_;refine yM ?_;refine ct ?_;refine y1 ?_
  exact⟨rfl,rfl,rfl,(Ext.refl h).push _,rfl,z3 _ _⟩
 rintro h1 ⟨x1,n1,g1⟩
 have W1:=x1.wf hr.wf
 have hl1:=x1.log.trans hr.log
 have C:=Df F.bk (h:={h1 with log:=[]}) (.of W1) (show Tab h1 from(x1.old 0 h2).trans hg) (by show 0<h1.next;omega) (r:=r) ((so.ext x1).log []) ho ((sp.ext x1).log []) hs
 refine y4 ?_;refine yN ?_
 refine yC ?_
 refine FW.al C (fun v h' m q=>q) ?_
 clear C
 rintro v H x2 hq
 have W2:=x2.wf W1
 have hl2:=x2.log.trans hl1
 unfold seE
 rcases hq with⟨hb,rfl⟩|⟨hb,q,rfl,q1,q2,fo,be,mo,ms,gq,t1,t2,t3,t4,_⟩
 ·rw[hb,if_neg (by simp)]
  have m1:aA .neq (.int .i64 1) (.int .i64 0)=some (.bool true):=rfl
  refine yM ?_;refine yE ?_;refine yE ?_;refine yM ?_;refine yM ?_;refine y3 ?_;refine an ?_
  refine y4 ?_;refine yM ?_;refine yW ?_;refine y3 ?_;refine yY ?_;refine y4 ?_
  refine yM ?_;refine yM ?_;refine yM ?_;refine y3 ?_;refine aM ?_;refine dZ ?_
  exact aD hl2 rfl rfl
 ·rw[hb,if_pos rfl]
  have m1:aA .neq (.int .i64 0) (.int .i64 0)=some (.bool false):=rfl
  have h40:os.length≤40:=by unfold seB at hb;simp only[Bool.and_eq_true,decide_eq_true_eq]at hb;exact hb.1.1.2
  have h20:ss.length≤20:=by unfold seB at hb;simp only[Bool.and_eq_true,decide_eq_true_eq]at hb;exact hb.1.2
  have gq':H.get q=some (.cells (bkL ov sv r fo be mo ms) true 1):=gq
  rw[←hov,←hsv]at gq'
  have B:BkR {H with log:=[]} q (.slice a os.length c) (.slice a2 ss.length c2) r os ss fo be mo ms:=⟨W2.log [],gq',by rw[hov];exact((so.ext x1).ext x2).log [],by rw[hsv];exact((sp.ext x1).ext x2).log []⟩
  have C:=Fh F.md (h:={H with log:=[]}) (.of W2) B ⟨t1,t2,t3,t4⟩ h40 h20
  refine yM ?_;refine yE ?_;refine yE ?_;refine yM ?_;refine yM ?_;refine y3 ?_;refine an ?_
  refine y4 ?_;refine yM ?_;refine yW ?_;refine y3 ?_;refine yX ?_;refine bA ?_;refine bH ?_;refine y4 ?_;refine yM ?_
  refine yC ?_
  refine FW.pu C ?_
  clear C
  refine yM ?_;refine yM ?_;refine y3 ?_;refine aM ?_
  exact aD hl2 rfl rfl
abbrev Wd:=List Nat×List Nat
structure WoS (h:Heap) (v:Value) (l:List Wd):Prop where
 sl:LsS wL 16 h v l
 ok:∀x∈l,IsW x
theorem WoS.form{h:Heap}{v:Value}{l:List Wd}(s:WoS h v l):∃a c,v= .slice a l.length c:=cA.form s.sl
theorem WoS.ext{h h':Heap}{v:Value}{l:List Wd}(s:WoS h v l)(x:Ext h h'):WoS h' v l:=⟨cA.ext s.sl x,s.ok⟩
theorem WoS.log{h:Heap}{v:Value}{l:List Wd}(s:WoS h v l)(m:List Nat):WoS {h with log:=m} v l:=⟨cA.log s.sl m,s.ok⟩
theorem WoS.elem{h:Heap}{v:Value}{l:List Wd}(s:WoS h v l){i:Nat}{x:Wd}(hi:l[i]? =some x):
 ∃b o c vs own t,v= .slice (some ⟨b,o,none⟩) l.length c∧h.get b=some (.cells vs own t)∧b<h.next∧bT 16 (bS (o+i*16) vs)=wL x:=
 LsS.elem s.sl (fun x hx=>iP (s.ok x hx)) hi
def oP(w:Wd):Bool:= !(sIn w.1 w.2)||decide (w.2=s0)
def Ae(l:List Wd):Int:=if l.any oP=true then(l.findIdx oP:Nat)else -1
structure rE (T:Nat→Option af):Prop where
 le:J5 T
 wd:J8 T
 f158:T 24=some f158
 f159:T 27=some f159
 f233:T 58=some f233
 f160:T 28=some f160
 f161:T 29=some f161
 f162:T 30=some f162
 f67:T 7=some f67
set_option maxHeartbeats 8000000 in
theorem KI(F:rE T){h:Heap}(hr:Rdy h){w:Wd}(hw:IsW w):Pu T 24 [wV w] h (.bool (oP w)):=by
 have hp:=F.le.bk.cs.df.rt.p
 refine .of hp F.f158 hr rfl ?_
 have k1:=mF hw
 have k2:=xA hw
 have k3:=JG hw
 have k4:=bU hw.b.len
 have k5:=lN w
 have x1:Ext h (h.push (.cells (wL w) true 1)):=(Ext.refl h).push _
 have W1:=x1.wf hr.wf
 have C1:=E8 F.wd (h:={(h.push (.cells (wL w) true 1))with log:=[]}) (.of W1) hw
 have C2:=BI hp F.wd.f90 (h:={(h.push (.cells (wL w) true 1))with log:=[]}) (.of W1) hw.b
 unfold oP
 cases hb:sIn w.1 w.2 with
 |true=>
  rw[hb]at C1
  rw[Bool.not_true,Bool.false_or]
  refine y4 ?_;refine yB ?_;refine yM ?_;refine y3 ?_;refine y4 ?_
  refine ah (dK (by exact rfl) (by(simp(disch:=first|omega|(simp only[z1,z2];omega))only[z3,z4,z5,z6,z7,z1,z2];exact rfl)) (by assumption) (by assumption)) ?_
  refine yC ?_
  refine FW.pu C1 ?_
  refine yA ?_;refine yM ?_;refine yO ?_;refine yF ?_;refine yO ?_
  refine ah (dK (by exact rfl) (by(simp(disch:=first|omega|(simp only[z1,z2];omega))only[z3,z4,z5,z6,z7,z1,z2];exact rfl)) (by assumption) (by assumption)) ?_;refine yO ?_
  refine yC ?_
  refine FW.pu C2 ?_
  refine yU ?_;refine yM ?_;refine y3 ?_;refine aM ?_
  exact aD hr.log rfl rfl
 |false=>
  rw[hb]at C1
  rw[Bool.not_false,Bool.true_or]
  refine y4 ?_;refine yB ?_;refine yM ?_;refine y3 ?_;refine y4 ?_
  refine ah (dK (by exact rfl) (by(simp(disch:=first|omega|(simp only[z1,z2];omega))only[z3,z4,z5,z6,z7,z1,z2];exact rfl)) (by assumption) (by assumption)) ?_
  refine yC ?_
  refine FW.pu C1 ?_
  refine yA ?_;refine yM ?_;refine yP ?_;refine yP ?_;refine yP ?_;refine yT ?_;refine yM ?_;refine y3 ?_;refine aM ?_
  exact aD hr.log rfl rfl
set_option maxHeartbeats 8000000 in
theorem E6(F:rE T){h:Heap}(hr:Rdy h){v:Value}{l:List Wd}(s:WoS h v l)(hl:l.length<4611686018427387904):Pu T 58 [v, .func (.func 24) #[] #[]] h (.int .i64 (Ae l)):=by
 have hp:=F.le.bk.cs.df.rt.p
 refine .of hp F.f233 hr rfl ?_
 obtain⟨a,c,rfl⟩:=s.form
 refine y4 ?_;refine yM ?_;refine y3 ?_;refine an ?_;refine y4 ?_;refine yM ?_;refine yD ?_;refine yM ?_
 refine y3 ?_;refine aO ?_
 refine dL (fun m e ds h'=>∃i:Nat,i≤l.length∧l.length-i=m∧e=[(0, .slice a l.length c),(1, .func (.func 24) #[] #[]),(7, .int .i64 (l.length:Nat)),(8, .int .i64 (i:Nat))]∧ds=[]∧h'=h∧(l.take i).any oP=false)
  ⟨0,by omega,rfl,rfl,rfl,rfl,by simp⟩ ?_
 rintro m e ds J ⟨i,hi,rfl,rfl,rfl,rfl,hno⟩
 by_cases hlt:i<l.length
 ·obtain⟨x,hx⟩:∃r,l[i]? =some r:=⟨l[i],List.getElem?_eq_getElem hlt⟩
  have hxw:=s.ok x (List.mem_of_getElem? hx)
  obtain⟨b,o,cc,vs,own,tt,hv,gl,hbl,el⟩:=s.elem hx
  cases hv
  have mlt:aA .lss (.int .i64 (i:Nat)) (.int .i64 (l.length:Nat))=some (.bool true):=gP (by omega)
  have k1:=mF hxw
  have C:=KI F (h:={J with log:=[]}) (.of hr.wf) hxw
  cases hb:oP x with
  |true=>
   rw[hb]at C
   have hid:l.findIdx oP=i:=by
    refine(List.findIdx_eq hlt).2 ⟨?_,fun j hj=> ?_⟩
    ·rw[List.getElem?_eq_getElem hlt]at hx;cases hx;exact hb
    ·have:∀y∈l.take i,oP y=false:=fun y hy=>by
      have:=List.any_eq_false.1 hno y hy
      simpa using this
     exact this _ (List.mem_take_iff_getElem.2 ⟨j,by omega,rfl⟩)
   have hany:l.any oP=true:=List.any_eq_true.2 ⟨x,List.mem_of_getElem? hx,hb⟩
   have hres:Ae l=(i:Int):=by unfold Ae;rw[if_pos hany,hid]
   rw[hres]
   refine y4 ?_;refine yW ?_;refine y3 ?_;refine an ?_;refine yY ?_;refine bA ?_;refine bH ?_;refine an ?_;refine aO ?_
   refine y4 ?_;refine yM ?_;refine yM ?_;refine y3 ?_;refine y4 ?_;refine yM ?_;refine yM ?_
   refine yM ?_;refine yI ?_;refine yV ?_
   refine yC ?_
   refine FW.pu C ?_
   refine y3 ?_;refine yY ?_;refine y4 ?_;refine yM ?_;refine yM ?_;refine y3 ?_;refine aM ?_;refine jL ?_;refine dZ ?_;refine dZ ?_;refine jL ?_;refine dZ ?_
   exact aD hr.log rfl rfl
  |false=>
   rw[hb]at C
   refine y4 ?_;refine yW ?_;refine y3 ?_;refine an ?_;refine yY ?_;refine bA ?_;refine bH ?_;refine an ?_;refine aO ?_
   refine y4 ?_;refine yM ?_;refine yM ?_;refine y3 ?_;refine y4 ?_;refine yM ?_;refine yM ?_
   refine yM ?_;refine yI ?_;refine yV ?_
   refine yC ?_
   refine FW.pu C ?_
   refine y3 ?_;refine yX ?_;refine bA ?_;refine fF ?_;refine bH ?_;refine aq ?_;refine iI ?_;refine yM ?_;refine y3 ?_
   exact⟨l.length-(i+1),by omega,i+1,by omega,rfl,rfl,rfl,rfl,by rw[List.take_add_one,hx,List.any_append,hno];simp[hb]⟩
 ·obtain rfl:i=l.length:=by omega
  have mlt:aA .lss (.int .i64 (l.length:Nat)) (.int .i64 (l.length:Nat))=some (.bool false):=iF (by omega)
  rw[List.take_length]at hno
  have hres:Ae l= -1:=by unfold Ae;rw[hno,if_neg (by simp)]
  rw[hres]
  refine y4 ?_;refine yW ?_;refine y3 ?_;refine an ?_;refine yX ?_;refine dz ?_;refine ek ?_;refine ek ?_;refine iY ?_;refine bH ?_
  refine y4 ?_;refine yM ?_;refine y3 ?_;refine aM ?_
  exact aD hr.log rfl rfl
set_option maxHeartbeats 8000000 in
theorem xW(F:rE T){h:Heap}(hr:Rdy h){v:Value}{l:List Wd}(s:WoS h v l)(hl:l.length<4611686018427387904):Pu T 27 [v, .func (.func 24) #[] #[]] h (.bool (l.any oP)):=by
 have hp:=F.le.bk.cs.df.rt.p
 refine .of hp F.f159 hr rfl ?_
 have C:=E6 F (h:={h with log:=[]}) (.of hr.wf) (s.log []) hl
 have mge:aA .geq (.int .i64 (Ae l)) (.int .i64 0)=some (.bool (l.any oP)):=by
  rw[Fs]
  congr 2
  unfold Ae
  cases l.any oP with
  |true=>rw[if_pos rfl];exact decide_eq_true (by omega)
  |false=>rw[if_neg (by simp)];rfl
 refine y4 ?_;refine yM ?_;refine y3 ?_;refine y4 ?_;refine yM ?_;refine yM ?_
 refine yC ?_
 refine FW.pu C ?_
 refine yW ?_;refine yM ?_;refine y3 ?_;refine aM ?_
 exact aD hr.log rfl rfl
set_option maxHeartbeats 8000000 in
theorem IX(F:rE T){h:Heap}(hr:Rdy h){w:Wd}(hw:IsW w):Pu T 29 [wV w] h (sv w.2):=by
 have hp:=F.le.bk.cs.df.rt.p
 refine .of hp F.f161 hr (iA _) ?_
 have k1:=mF hw
 have k2:=xA hw
 have k3:=JG hw
 have k4:=bU hw.b.len
 have k5:=lN w
 have k6:(us w.2).length=8:=by rw[aG];exact hw.b.len
 have k7:=dh hw.b.len
 have k8:=cF w.2
 refine y4 ?_;refine yB ?_;refine ah (cZ) ?_;refine y3 ?_;refine y4 ?_;refine yF ?_
 refine ah (dK (by exact rfl) (by(simp(disch:=first|omega|(simp only[z1,z2];omega))only[z3,z4,z5,z6,z7,z1,z2];exact rfl)) (by assumption) (by assumption)) ?_
 refine ah (bQ (by exact rfl) (by exact rfl) (by(simp(disch:=first|omega|(simp only[z1,z2];omega)|(simp only[z1,z2];done)|fail)only[Go.A.z8,z4,z5,z9,z7,z1,z2];exact rfl)) (by assumption) (by exact rfl) (by exact cF _)) ?_
 refine y3 ?_;refine aM ?_
 exact aD ((Heap.aL (by show h.next≤h.next+1;omega)).trans hr.log) (cW (own:=true) (s:=1) rfl (Heap.aJ (z3 _ _)) k7 k4 rfl) rfl
set_option maxHeartbeats 8000000 in
theorem IY(F:rE T){h:Heap}(hr:Rdy h){w:Wd}(hw:IsW w):Pu T 30 [wV w] h (sv w.1):=by
 have hp:=F.le.bk.cs.df.rt.p
 refine .of hp F.f162 hr (iA _) ?_
 have k1:=mF hw
 have k2:=xA hw
 have k3:=Mz hw
 have k4:=bU hw.a.len
 have k5:=lN w
 have k6:(us w.1).length=8:=by rw[aG];exact hw.a.len
 have k7:=dh hw.a.len
 have k8:=cF w.1
 refine y4 ?_;refine yB ?_;refine ah (cZ) ?_;refine y3 ?_;refine y4 ?_;refine yF ?_
 refine ah (dK (by exact rfl) (by(simp(disch:=first|omega|(simp only[z1,z2];omega))only[z3,z4,z5,z6,z7,z1,z2];exact rfl)) (by assumption) (by assumption)) ?_
 refine ah (bQ (by exact rfl) (by exact rfl) (by(simp(disch:=first|omega|(simp only[z1,z2];omega)|(simp only[z1,z2];done)|fail)only[Go.A.z8,z4,z5,z9,z7,z1,z2];exact rfl)) (by assumption) (by exact rfl) (by exact cF _)) ?_
 refine y3 ?_;refine aM ?_
 exact aD ((Heap.aL (by show h.next≤h.next+1;omega)).trans hr.log) (cW (own:=true) (s:=1) rfl (Heap.aJ (z3 _ _)) k7 k4 rfl) rfl
def lQ(s:List Nat)(x:Sp):List Sp:=if s=s0 then []else [⟨x.id,x.size,s⟩]
def gT(f:Nat→List Nat)(ss:List Sp):Nat→List Sp
 |0=>[]
 |i+1=>gT f ss i++(match ss[i]? with|some x=>lQ (f i) x|none=>[])
theorem jY(f:Nat→List Nat)(ss:List Sp):∀i,(gT f ss i).length≤i
 |0=>Nat.le_refl _
 |i+1=>by
  have ih:=jY f ss i
  unfold gT
  rw[List.length_append]
  cases ss[i]? with
  |none=>simp;omega
  |some x=>
   show _+(lQ (f i) x).length≤i+1
   unfold lQ
   split<;>simp<;>omega
theorem sG{f:Nat→List Nat}{ss:List Sp}:∀{i:Nat},(∀j,j<i→IsS (f j))→∀x∈gT f ss i,IsS x.cI
 |0,_,x,hx=>by cases hx
 |i+1,hf,x,hx=>by
  unfold gT at hx
  rcases List.mem_append.1 hx with h|h
  ·exact sG (fun j hj=>hf j (by omega)) x h
  ·cases hs:ss[i]? with
   |none=>rw[hs]at h;cases h
   |some y=>
    rw[hs]at h
    replace h:x∈lQ (f i) y:=h
    unfold lQ at h
    split at h
    ·cases h
    ·rw[List.mem_singleton.1 h];exact hf i (by omega)
def crF(pf:Wd→List Nat)(cr:List Wd)(i:Nat):List Nat:=match cr[i]? with|some w=>pf w|none=>s0
def lP(f:Nat→List Nat)(ss:List Sp):List Sp:=gT f ss ss.length
theorem Cd{x:Sp}{s:List Nat}(h:IsS x.cI)(hs:IsS s):cg (spL x) (0+2) (us s)=spL ⟨x.id,x.size,s⟩:=by
 rw[gu (by rw[eM h,aG,hs.len];omega),aG,hs.len]
 show [Value.int .i64 x.id, .int .i64 x.size]++us s++(us x.cI).drop 8=[Value.int .i64 x.id, .int .i64 x.size]++us s
 rw[List.drop_of_length_le (by rw[aG,h.len];omega),List.append_nil]
theorem yd{h:Heap}{e:Env}{z cs:List Value}{k:Nat}{x:Operand}(hc:cs.length=k)(hz:z.length=k)(hx:ev h e x=some (.agg cs.toArray)):iJ h e z [(0,k,x)]=some cs:=by
 have e1:cellsOf (.agg cs.toArray)=cs:=by show cs.toArray.toList=_;simp
 have e2:cg z 0 cs=cs:=by rw[gu (by omega),hc,List.take_zero,List.drop_eq_nil_of_le (by omega)];simp
 simp only[iJ,hx,e1,e2,bN,hc,hz,beq_eq,ble_eq,Nat.zero_add]
 simp
theorem G0{ov v':Value}{r:Int}(h:cT (seV ov v' r)=true):lM v'=true:=by
 cases hs:lM v' with
 |true=>rfl
 |false=>simp[cT,seV,seL,flat,cV,hs]at h
structure vD (ov:Value) (r:Int) (l:List Sp) (v:Value) (h:Heap):Prop where
 ex:∃v',v=seV ov v' r∧Own 0 h 10 v' l.length (l.flatMap spL)
theorem vD.log{ov:Value}{r:Int}{l:List Sp}{v:Value}{h:Heap}(q:vD ov r l v h)(m:List Nat):vD ov r l v {h with log:=m}:=by
 obtain⟨v',e,o⟩:=q.ex
 exact⟨v',e,o.log m⟩
theorem vD.spS{ov:Value}{r:Int}{l:List Sp}{v:Value}{h:Heap}(q:vD ov r l v h)(hl:l.length≤1000)(hw:∀x∈l,IsS x.cI):∃v',v=seV ov v' r∧SpS h v' l:=by
 obtain⟨v',e,o⟩:=q.ex
 exact⟨v',e,⟨o.slice (by omega),hw⟩⟩
theorem vD.flat{ov:Value}{r:Int}{l:List Sp}{v:Value}{h h':Heap}(hv:cT v=true)(q:vD ov r l v h):vD ov r l v h':=by
 obtain⟨v',rfl,o⟩:=q.ex
 have hs:=G0 hv
 refine⟨v',rfl,?_⟩
 generalize l.length=n at*
 generalize l.flatMap spL=cs at*
 cases o with
 |nil=>exact .nil
 |full _ _ _ _ _=>simp[lM,jl]at hs
set_option maxHeartbeats 16000000 in
theorem Cl(F:rE T){h:Heap}(hr:Rdy h){pk b1 b2:Nat}{pf:Wd→List Nat}(hpk:∀{H:Heap},Rdy H→∀{w:Wd},IsW w→Pu T pk [wV w] H (sv (pf w)))(hpf:∀w,IsW w→IsS (pf w))
 {ov sv' cv:Value}{ss:List Sp}{cr:List Wd}{r:Int}(g1:h.get b1=some (.cells [ov,sv', .int .i64 r] true 1))(g2:h.get b2=some (.cells [cv] true 1))(hov:dG [ov]=true)(sp:SpS h sv' ss)(wo:WoS h cv cr)(hlen:cr.length=ss.length)(h20:ss.length≤20):
 Al T 28 [.func (.func pk) #[] #[], .pointer (some ⟨b1,0,none⟩), .pointer (some ⟨b2,0,none⟩)] h (vD ov r (lP (crF pf cr) ss)):=by
 have hp:=F.le.bk.cs.df.rt.p
 refine .of hp F.f160 hr (fun v h1 hv q=>q.flat hv) ?_
 obtain⟨a,c,rfl⟩:=sp.form
 obtain⟨a2,c2,rfl⟩:=wo.form
 have hb1:=hr.wf.gF g1
 have hb2:=hr.wf.gF g2
 have hon:dG (bT 3 (bS 0 [ov, .slice a ss.length c, .int .i64 r]))=true:=iz (a:=[ov]) hov rfl
 refine cH (E0:=[(0, .func (.func pk) #[] #[]),(1, .pointer (some ⟨b1,0,none⟩)),(2, .pointer (some ⟨b2,0,none⟩)),(4, .pointer (some ⟨h.next,0,none⟩))]) (P:=fun h'=>Ext h h'∧h'.next=h.next+1∧h'.get h.next=some (.cells [.slice none 0 0, .slice none 0 0, .int .i64 0] true 1)) ?_ ?_
 ·refine aq ?_;refine ah (cZ) ?_;refine ct ?_;refine y1 ?_
  exact⟨rfl,rfl,rfl,(Ext.refl h).push _,rfl,z3 _ _⟩
 rintro h1 ⟨x1,n1,g4⟩
 have k1:=(x1.old b1 hb1).trans g1
 refine cH (E0:=[(0, .func (.func pk) #[] #[]),(1, .pointer (some ⟨b1,0,none⟩)),(2, .pointer (some ⟨b2,0,none⟩)),(4, .pointer (some ⟨h.next,0,none⟩)),(5, .pointer (some ⟨h.next+1,0,none⟩))]) (P:=fun h'=>Ext h1 h'∧h'.next=h.next+2∧h'.get (h.next+1)=some (.cells [ov, .slice a ss.length c, .int .i64 r] true 1)) ?_ ?_
 ·refine aq ?_;refine yN ?_;refine ah (cZ) ?_
  refine ah (bQ (by exact rfl) (by exact rfl) (by(simp(disch:=first|omega|(simp only[z1,z2];omega))only[z3,z4,z5,z6,z7,z1,z2,g1,g2,g4,k1];exact rfl)) (by exact rfl) (by exact rfl) (by assumption)) ?_;refine ct ?_
  refine y1 ?_
  rw[←n1]
  exact⟨rfl,rfl,rfl,ff (by omega) _ _,by show h1.next+1=h.next+2;omega,fE _ _⟩
 rintro h2 ⟨x2,n2,g5⟩
 have x02:=x1.trans x2
 refine cH (E0:=[(0, .func (.func pk) #[] #[]),(1, .pointer (some ⟨b1,0,none⟩)),(2, .pointer (some ⟨b2,0,none⟩)),(4, .pointer (some ⟨h.next,0,none⟩)),(5, .pointer (some ⟨h.next+1,0,none⟩))]) (P:=fun h'=>Ext h h'∧h'.next=h.next+2∧h'.get h.next=some (.cells [.slice none 0 0, .slice none 0 0, .int .i64 0] true 1)∧h'.get (h.next+1)=some (.cells [ov, .slice none 0 0, .int .i64 r] true 1)) ?_ ?_
 ·refine aq ?_;refine yF ?_;refine yS ?_;refine ct ?_;refine y1 ?_
  exact⟨rfl,rfl,rfl,x02.wr (by omega) (by omega),n2,(z5 (by omega)).trans ((x2.old _ (by omega)).trans g4),Heap.aJ g5⟩
 rintro h3 ⟨x3,n3,m4,m5⟩
 clear x1 x2 x02 n1 n2 k1 g4 g5
 have q1:=(x3.old b1 hb1).trans g1
 refine an ?_;refine y4 ?_;refine yF ?_;refine yL ?_;refine yD ?_;refine yM ?_;refine y3 ?_
 refine aO ?_
 refine dL (fun m e ds h'=>∃i:Nat,i≤ss.length∧ss.length-i=m∧e=[(0, .func (.func pk) #[] #[]),(2, .pointer (some ⟨b2,0,none⟩)),(4, .pointer (some ⟨h.next,0,none⟩)),(5, .pointer (some ⟨h.next+1,0,none⟩)),(11, .slice a ss.length c),(12, .int .i64 (ss.length:Nat)),(13, .int .i64 (i:Nat))]∧ds=[]∧Ext h h'∧h.next+2≤h'.next∧h'.get h.next=some (.cells [.slice none 0 0, .slice none 0 0, .int .i64 0] true 1)∧∃v,h'.get (h.next+1)=some (.cells [ov,v, .int .i64 r] true 1)∧dG [v]=true∧Own (h.next+2) h' 10 v (gT (crF pf cr) ss i).length ((gT (crF pf cr) ss i).flatMap spL))
  ⟨0,by omega,rfl,rfl,rfl,x3,by omega,m4,_,m5,rfl, .nil⟩ ?_
 clear x3 n3 m4 m5 q1
 rintro m e ds J ⟨i,hi,rfl,rfl,rfl,xJ,nJ,m4,v,m5,hv1,ow⟩
 have WJ:=xJ.wf hr.wf
 have hlJ:=xJ.log.trans hr.log
 have hon3:dG (bT 3 (bS 0 [ov,v, .int .i64 r]))=true:=iz (a:=[ov]) hov (iz (a:=[v]) hv1 rfl)
 by_cases hlt:i<ss.length
 ·obtain⟨x,hx⟩:∃r,ss[i]? =some r:=⟨ss[i],List.getElem?_eq_getElem hlt⟩
  have hxw:=sp.ok x (List.mem_of_getElem? hx)
  obtain⟨b,o,cc,vs,own,tt,hv,gl,hbl,el⟩:=sp.elem hx
  cases hv
  obtain⟨w,hw⟩:∃r,cr[i]? =some r:=⟨cr[i],List.getElem?_eq_getElem (by omega)⟩
  have hww:=wo.ok w (List.mem_of_getElem? hw)
  obtain⟨b',o',cc',vs',own',tt',hv',gl',hbl',el'⟩:=wo.elem hw
  cases hv'
  have mlt:aA .lss (.int .i64 (i:Nat)) (.int .i64 (ss.length:Nat))=some (.bool true):=gP (by omega)
  have k1:=kE hxw
  have k2:=mE hxw
  have k3:=eM hxw
  have k4:=kF x
  have gl1:=(xJ.old _ hbl).trans gl
  refine y4 ?_;refine yW ?_;refine y3 ?_;refine an ?_;refine yY ?_;refine bA ?_;refine bH ?_;refine an ?_;refine aO ?_
  refine cH (E0:=[(0, .func (.func pk) #[] #[]),(2, .pointer (some ⟨b2,0,none⟩)),(4, .pointer (some ⟨h.next,0,none⟩)),(5, .pointer (some ⟨h.next+1,0,none⟩)),(6, .int .i64 (i:Nat)),(7, .pointer (some ⟨J.next,0,none⟩)),(11, .slice (some ⟨b,o,none⟩) ss.length c),(12, .int .i64 (ss.length:Nat)),(13, .int .i64 (i:Nat))]) (P:=fun h'=>Ext J h'∧h'.next=J.next+1∧h'.get J.next=some (.cells (spL x) true 1)) ?_ ?_
  ·refine aq ?_;refine yM ?_;refine yI ?_;refine yV ?_;refine ah (cZ) ?_;refine yM ?_
   refine ah (bQ (by exact rfl) (by exact rfl) (by(simp(disch:=first|omega|(simp only[z1,z2];omega))only[z3,z4,z5,z6,z7,z1,z2,m4,m5,gl,g1,gl',g2,gl1];exact rfl)) (by assumption) (by exact rfl) (by exact cF _)) ?_;refine ct ?_
   refine y1 ?_
   exact⟨rfl,rfl,rfl,ff (by omega) _ _,rfl,fE _ _⟩
  rintro J1 ⟨x1,nJ1,g7⟩
  have W1:=x1.wf WJ
  have hl1:=x1.log.trans hlJ
  have xJ1:=xJ.trans x1
  have p2:=(xJ1.old b2 hb2).trans g2
  have gl2:=(xJ1.old _ hbl').trans gl'
  have e1:=mF hww
  have hcf:crF pf cr i=pf w:=by unfold crF;rw[hw]
  have hfs:=hpf w hww
  have C:=hpk (H:={J1 with log:=[]}) (.of W1) hww
  have kput:=Cd hxw hfs
  have wz1:(Nat.beq (bO (cellsOf (sv (pf w)))) 8&&Nat.ble (0+2+8) (bO (spL x))&&dG (cellsOf (sv (pf w))))=true:=by
   have e:cellsOf (sv (pf w))=us (pf w):=by show(us (pf w)).toArray.toList=_;simp
   rw[e,bN,bN,aG,hfs.len,k3,cF,gJ (by omega)];rfl
  have wz2:cg (spL x) (0+2) (cellsOf (sv (pf w)))=spL ⟨x.id,x.size,pf w⟩:=by
   have e:cellsOf (sv (pf w))=us (pf w):=by show(us (pf w)).toArray.toList=_;simp
   rw[e];exact kput
  skip
  refine cH (E0:=[(0, .func (.func pk) #[] #[]),(2, .pointer (some ⟨b2,0,none⟩)),(4, .pointer (some ⟨h.next,0,none⟩)),(5, .pointer (some ⟨h.next+1,0,none⟩)),(7, .pointer (some ⟨J.next,0,none⟩)),(11, .slice (some ⟨b,o,none⟩) ss.length c),(12, .int .i64 (ss.length:Nat)),(13, .int .i64 (i:Nat))]) (P:=fun h'=>Ext J h'∧h'.next=J.next+1∧h'.get J.next=some (.cells (spL ⟨x.id,x.size,pf w⟩) true 1)) ?_ ?_
  ·refine aq ?_;refine yM ?_;refine yL ?_;refine yM ?_;refine yI ?_;refine yV ?_
   refine yC ?_
   refine FW.pu C ?_
   refine yF ?_
   refine ah (gV (by exact rfl) (by exact rfl) g7 wz1 wz2) ?_
   refine ct ?_;refine y1 ?_
   exact⟨rfl,rfl,rfl,x1.wr (Nat.le_refl _) (by omega),nJ1,Heap.aJ g7⟩
  rintro J2 ⟨x2,nJ2,g72⟩
  have W2:=x2.wf WJ
  have hl2:=x2.log.trans hlJ
  have xJ2:=xJ.trans x2
  have wy1:=kE (x:=⟨x.id,x.size,pf w⟩) hfs
  have wy2:=mE (x:=⟨x.id,x.size,pf w⟩) hfs
  have wy3:=eM (x:=⟨x.id,x.size,pf w⟩) hfs
  have wy4:=kF ⟨x.id,x.size,pf w⟩
  have wy5:=nN (x:=⟨x.id,x.size,pf w⟩) hfs
  have wy6:=bU hfs.len
  have wy5':bT 8 (bS (0+2) (spL ⟨x.id,x.size,pf w⟩))=us (pf w):=wy5
  have n4:=(x2.old h.next (by omega)).trans m4
  have n5:=(x2.old (h.next+1) (by omega)).trans m5
  have ow2:=ow.ext x2
  have C2:=BI hp F.wd.f90 (h:={J2 with log:=[]}) (.of W2) hfs
  have hst:gT (crF pf cr) ss (i+1)=gT (crF pf cr) ss i++lQ (pf w) x:=by
   rw[←hcf]
   show gT (crF pf cr) ss i++(match ss[i]? with|some x=>lQ (crF pf cr i) x|none=>[])=_
   rw[hx]
  have hle:=jY (crF pf cr) ss i
  clear C wz1 wz2 kput g7 x1 W1 hl1 xJ1 gl1 gl2 m4 m5 ow p2
  by_cases hem:pf w=s0
  ·rw[decide_eq_true hem]at C2
   rw[show lQ (pf w) x=[]from if_pos hem,List.append_nil]at hst
   refine y4 ?_;refine yF ?_;refine yV ?_
   refine yC ?_
   refine FW.pu C2 ?_
   refine yA ?_;refine y3 ?_;refine yX ?_;refine bA ?_;refine fF ?_;refine bH ?_;refine aq ?_;refine iI ?_
   refine yM ?_;refine y3 ?_
   exact⟨ss.length-(i+1),by omega,i+1,by omega,rfl,rfl,rfl,xJ2,by omega,n4,v,n5,hv1,by rw[hst];exact ow2⟩
  ·rw[decide_eq_false hem]at C2
   rw[show lQ (pf w) x=[⟨x.id,x.size,pf w⟩]from if_neg hem]at hst
   refine y4 ?_;refine yF ?_;refine yV ?_
   refine yC ?_
   refine FW.pu C2 ?_
   clear C2
   refine yA ?_;refine y3 ?_;refine yY ?_;refine aq ?_;refine yF ?_;refine yL ?_
   refine yV ?_
   refine ah (xI (yd wy3 rfl (by exact rfl)) rfl) ?_
   skip
   refine Ck (lo:=h.next+2) (sz:=10) (v:=v) (c1:=spL ⟨x.id,x.size,pf w⟩) (ow2.ext ((Ext.refl J2).push _)) (by omega) (by omega) (by omega) (by show h.next+2≤J2.next+1;omega) (by omega) (by exact rfl) (by exact rfl) (vq (n:=1) (cs:=spL ⟨x.id,x.size,pf w⟩) (by(simp(disch:=first|omega|(simp only[z1,z2];omega))only[z3,z4,z5,z6,z7,z1,z2,gl,g1,gl',g2,g72,n4,n5];exact rfl)) wy2 wy3) wy3 wy4 ?_
   intro v' h6 o6 x6
   have ey6:Lx (h.next+2) J2 h6:=((Lx.refl (h.next+2) J2).push (by omega) _).trans x6
   have r4:=(ey6.old _ (by omega)).trans n4
   have r5:=(ey6.old _ (by omega)).trans n5
   have n6:=ey6.next
   obtain⟨a6,c6,rfl⟩:=(o6.slice (by omega)).form
   refine yF ?_;refine yS ?_;refine ct ?_;refine y1 ?_;refine fF ?_;refine bH ?_;refine aq ?_;refine iI ?_
   refine yM ?_;refine y3 ?_
   refine⟨ss.length-(i+1),by omega,i+1,by omega,rfl,rfl,rfl,?_,?_,?_,_,Heap.aJ r5,rfl,?_⟩
   ·exact(((xJ2.lx (Nat.le_refl _)).trans (ey6.mono (by omega))).ext).wr (by omega) (by omega)
   ·show h.next+2≤h6.next;omega
   ·exact(z5 (by omega)).trans r4
   ·rw[hst,List.length_append,List.flatMap_append,List.length_singleton]
    rw[show [(⟨x.id,x.size,pf w⟩:Sp)].flatMap spL=spL ⟨x.id,x.size,pf w⟩by simp]
    refine Own.keep o6 ?_ ?_
    ·exact Nat.le_refl _
    ·intro z hz _;exact z5 (by omega)
 ·obtain rfl:i=ss.length:=by omega
  have mlt:aA .lss (.int .i64 (ss.length:Nat)) (.int .i64 (ss.length:Nat))=some (.bool false):=iF (by omega)
  refine y4 ?_;refine yW ?_;refine y3 ?_;refine an ?_;refine yX ?_;refine dz ?_;refine ek ?_;refine ek ?_;refine iY ?_;refine bH ?_
  refine y4 ?_;refine yN ?_;refine ah (bQ (by exact rfl) (by exact rfl) (by assumption) (by exact rfl) (by exact rfl) (by assumption)) ?_;refine y3 ?_
  refine aM ?_
  refine iV ((Heap.aL (Nat.le_refl _)).trans hlJ) (cW (own:=true) (s:=1) rfl (Heap.aJ m4) rfl rfl rfl) ⟨v,rfl,Own.low (lo:=h.next+2) (Own.keep ow ?_ ?_) (Nat.zero_le _)⟩
  ·exact Nat.le_refl _
  ·intro z hz _;exact z5 (by omega)
def wNo(cr:List Wd)(ss:List Sp):Bool:=decide (cr.length≠ss.length)||cr.any oP
def wHi(cr:List Wd)(ss:List Sp):List Sp:=lP (crF (fun w=>w.2) cr) ss
def wLo(cr:List Wd)(ss:List Sp):List Sp:=lP (crF (fun w=>w.1) cr) ss
def nmT(os:List Od)(ss:List Sp)(cr:List Wd)(r:Int):Int×Int×Int:=
 if wNo cr ss=true then(0,0,1)else
 if seB os (wHi cr ss) r=false then(0,0,1)else
 if seB os (wLo cr ss) r=false then(0,0,1)else(lsN os (wHi cr ss),lsN os (wLo cr ss),0)
def nmV(p:Int×Int×Int):Value:= .tuple #[.int .i64 p.1, .int .i64 p.2.1, .int .i64 p.2.2]
theorem vL{pf:Wd→List Nat}(hpf:∀w,IsW w→IsS (pf w)){cr:List Wd}(hc:∀w∈cr,IsW w)(j:Nat):IsS (crF pf cr j):=by
 unfold crF
 cases h:cr[j]? with
 |none=>exact lK
 |some w=>exact hpf w (hc w (List.mem_of_getElem? h))
set_option maxHeartbeats 16000000 in
theorem CT(F:rE T){h:Heap}(hr:Rdy h)(hg:Tab h)(h2:0<h.next){ov sv' cv:Value}{os:List Od}{ss:List Sp}{cr:List Wd}{r:Int}(so:OdS h ov os)(ho:os.length<4611686018427387904)(sp:SpS h sv' ss)(h20:ss.length≤20)(wo:WoS h cv cr)(hc:cr.length<4611686018427387904):
 Pu T 7 [seV ov sv' r,cv] h (nmV (nmT os ss cr r)):=by
 have hp:=F.le.bk.cs.df.rt.p
 refine .of hp F.f67 hr rfl ?_
 obtain⟨a1,c1,rfl⟩:=so.form
 obtain⟨a,c,rfl⟩:=sp.form
 obtain⟨a2,c2,rfl⟩:=wo.form
 refine cH (E0:=[(2, .pointer (some ⟨h.next,0,none⟩)),(3, .pointer (some ⟨h.next+1,0,none⟩))]) (P:=fun h'=>Ext h h'∧h'.next=h.next+2∧h'.get h.next=some (.cells [.slice a1 os.length c1, .slice a ss.length c, .int .i64 r] true 1)∧h'.get (h.next+1)=some (.cells [.slice a2 cr.length c2] true 1)) ?_ ?_
 ·refine aq ?_;refine yB ?_;refine yB ?_;refine yM ?_;refine yM ?_;refine yM ?_;refine ct ?_;refine y1 ?_
  exact⟨rfl,rfl,rfl,((Ext.refl h).push _).push _,rfl,(z4 (Nat.lt_succ_self _)).trans (z3 h _),z3 (h.push _) _⟩
 rintro h1 ⟨x1,n1,g2,g3⟩
 have W1:=x1.wf hr.wf
 have hl1:=x1.log.trans hr.log
 have wo1:=wo.ext x1
 have C1:=xW F (h:={h1 with log:=[]}) (.of W1) (wo1.log []) hc
 unfold nmT
 generalize hov:(.slice a1 os.length c1:Value)=ov at*
 have hov1:dG [ov]=true:=by rw[←hov];rfl
 by_cases hlen:cr.length=ss.length
 case neg=>
  have m1:aA .neq (.int .i64 (cr.length:Nat)) (.int .i64 (ss.length:Nat))=some (.bool true):=Ap (by omega)
  rw[if_pos (show wNo cr ss=true by unfold wNo;rw[decide_eq_true hlen];rfl)]
  refine y4 ?_;refine yM ?_;refine y3 ?_;refine an ?_;refine y4 ?_;refine yL ?_;refine yD ?_
  refine yF ?_;refine yL ?_;refine yD ?_;refine yW ?_;refine yM ?_;refine yP ?_;refine yP ?_
  refine yP ?_;refine yT ?_;refine y3 ?_;refine yY ?_;refine y4 ?_;refine yM ?_;refine yM ?_
  refine yM ?_;refine y3 ?_;refine aM ?_;refine dZ ?_
  exact aD hl1 rfl rfl
 have m1:aA .neq (.int .i64 (cr.length:Nat)) (.int .i64 (ss.length:Nat))=some (.bool false):=Ft (by omega)
 cases hb:cr.any oP with
 |true=>
  rw[hb]at C1
  rw[if_pos (show wNo cr ss=true by unfold wNo;rw[hb,Bool.or_true])]
  refine y4 ?_;refine yM ?_;refine y3 ?_;refine an ?_;refine y4 ?_;refine yL ?_;refine yD ?_
  refine yF ?_;refine yL ?_;refine yD ?_;refine yW ?_;refine yM ?_;refine yO ?_;refine yL ?_
  refine yO ?_;refine yM ?_;refine yO ?_
  refine yC ?_
  refine FW.pu C1 ?_
  refine yU ?_;refine y3 ?_;refine yY ?_;refine y4 ?_;refine yM ?_;refine yM ?_;refine yM ?_
  refine y3 ?_;refine aM ?_;refine dZ ?_
  exact aD hl1 rfl rfl
 |false=>
 rw[hb]at C1
 rw[if_neg (show¬wNo cr ss=true by unfold wNo;rw[hb,decide_eq_false (fun q=>q hlen)];simp)]
 have okH:=sG (f:=crF (fun w=>w.2) cr) (ss:=ss) (i:=ss.length) (fun j _=>vL (fun w hw=>hw.b) wo.ok j)
 have okL:=sG (f:=crF (fun w=>w.1) cr) (ss:=ss) (i:=ss.length) (fun j _=>vL (fun w hw=>hw.a) wo.ok j)
 have leH:=jY (crF (fun w=>w.2) cr) ss ss.length
 have leL:=jY (crF (fun w=>w.1) cr) ss ss.length
 have C2:=Cl F (h:={h1 with log:=[]}) (.of W1) (pk:=29) (fun hr w hw=>IX F hr hw) (fun w hw=>hw.b) g2 g3 hov1 ((sp.ext x1).log []) (wo1.log []) hlen h20
 refine y4 ?_;refine yM ?_;refine y3 ?_;refine an ?_;refine y4 ?_;refine yL ?_;refine yD ?_
 refine yF ?_;refine yL ?_;refine yD ?_;refine yW ?_;refine yM ?_;refine yO ?_;refine yL ?_
 refine yO ?_;refine yM ?_;refine yO ?_
 refine yC ?_
 refine FW.pu C1 ?_
 clear C1
 refine yU ?_;refine y3 ?_;refine yX ?_;refine bA ?_;refine bH ?_;refine y4 ?_;refine ah (gL (by exact rfl) (by exact rfl)) ?_;refine yM ?_
 refine y3 ?_;refine y4 ?_;refine yM ?_
 refine yC ?_
 refine FW.al C2 (fun v h' m q=>q.log m) ?_
 clear C2
 rintro _ H x2 hq
 obtain⟨v2,rfl,sp2⟩:=hq.spS (Nat.le_trans leH (by omega)) okH
 have W2:=x2.wf W1
 have hl2:=x2.log.trans hl1
 have x02:=x1.trans x2
 have C3:=vZ F.le (h:={H with log:=[]}) (.of W2) (show Tab H from(x02.old 0 h2).trans hg) (by have:=x02.next;show 0<H.next;omega) (r:=r) ((so.ext x02).log []) ho (sp2.log []) (Nat.lt_of_le_of_lt leH (by omega))
 have e2:=(x2.old h.next (by omega)).trans g2
 have e3:=(x2.old (h.next+1) (by omega)).trans g3
 have C4:=Cl F (h:={H with log:=[]}) (.of W2) (pk:=30) (fun hr w hw=>IY F hr hw) (fun w hw=>hw.a) e2 e3 hov1 ((sp.ext x02).log []) ((wo.ext x02).log []) hlen h20
 clear g2 g3 hq
 unfold seE at C3
 rw[show lP (crF Prod.snd cr) ss=wHi cr ss from rfl]at C3
 cases hb1:seB os (wHi cr ss) r with
 |false=>
  rw[hb1,if_neg (by simp),if_neg (by simp)]at C3
  rw[if_pos rfl]
  have m2:aA .neq (.int .i64 1) (.int .i64 0)=some (.bool true):=rfl
  skip
  refine yC ?_
  refine FW.pu C3 ?_
  refine yM ?_;refine yE ?_;refine yE ?_;refine yM ?_;refine yM ?_;refine y3 ?_;refine an ?_
  refine y4 ?_;refine yM ?_;refine yW ?_;refine y3 ?_;refine yY ?_;refine y4 ?_
  refine yM ?_;refine yM ?_;refine yM ?_;refine yM ?_;refine y3 ?_;refine aM ?_;refine dZ ?_
  exact aD hl2 rfl rfl
 |true=>
 rw[hb1,if_pos rfl,if_pos rfl]at C3
 rw[if_neg (by simp)]
 have m2:aA .neq (.int .i64 0) (.int .i64 0)=some (.bool false):=rfl
 skip
 refine yC ?_
 refine FW.pu C3 ?_
 clear C3
 refine yM ?_;refine yE ?_;refine yE ?_;refine yM ?_;refine yM ?_;refine y3 ?_;refine an ?_
 refine y4 ?_;refine yM ?_;refine yW ?_;refine y3 ?_;refine yX ?_;refine bA ?_;refine bH ?_;refine y4 ?_;refine yM ?_
 refine yC ?_
 refine FW.al C4 (fun v h' m q=>q.log m) ?_
 clear C4
 rintro _ H3 x3 hq
 obtain⟨v3,rfl,sp3⟩:=hq.spS (Nat.le_trans leL (by omega)) okL
 have W3:=x3.wf W2
 have hl3:=x3.log.trans hl2
 have x03:=x02.trans x3
 have C3:=vZ F.le (h:={H3 with log:=[]}) (.of W3) (show Tab H3 from(x03.old 0 h2).trans hg) (by have:=x03.next;show 0<H3.next;omega) (r:=r) ((so.ext x03).log []) ho (sp3.log []) (Nat.lt_of_le_of_lt leL (by omega))
 unfold seE at C3
 rw[show lP (crF Prod.fst cr) ss=wLo cr ss from rfl]at C3
 cases hb2:seB os (wLo cr ss) r with
 |false=>
  rw[hb2,if_neg (by simp),if_neg (by simp)]at C3
  rw[if_pos rfl]
  have m2:aA .neq (.int .i64 1) (.int .i64 0)=some (.bool true):=rfl
  skip
  refine yC ?_
  refine FW.pu C3 ?_
  refine yM ?_;refine yE ?_;refine yE ?_;refine yM ?_;refine yM ?_;refine y3 ?_;refine an ?_
  refine y4 ?_;refine yM ?_;refine yW ?_;refine y3 ?_;refine yY ?_;refine y4 ?_
  refine yM ?_;refine yM ?_;refine yM ?_;refine yM ?_;refine y3 ?_;refine aM ?_;refine dZ ?_
  exact aD hl3 rfl rfl
 |true=>
  rw[hb2,if_pos rfl,if_pos rfl]at C3
  rw[if_neg (by simp)]
  skip
  refine yC ?_
  refine FW.pu C3 ?_
  refine yM ?_;refine yE ?_;refine yE ?_;refine yM ?_;refine yM ?_;refine y3 ?_;refine an ?_
  refine y4 ?_;refine yM ?_;refine yW ?_;refine y3 ?_;refine yX ?_;refine bA ?_;refine bH ?_;refine y4 ?_;refine yM ?_;refine yM ?_;refine yM ?_;refine yM ?_;refine yM ?_;refine y3 ?_;refine aM ?_
  exact aD hl3 rfl rfl
def psF(ps:List (List Nat))(i:Nat):List Nat:=match ps[i]? with|some p=>p|none=>s0
def crM(cr:List Wd)(ps:List (List Nat))(i:Nat):List Nat:=match cr[i]? with|some w=>mI w.1 (kP (psF ps i) w.2)|none=>s0
structure DV (T:Nat→Option af):Prop where
 nu:rE T
 f16:T 4=some f16
 f21:T 6=some (.mA pSd)
 f32:T 9=some f32
 f118:T 33=some f118
 f119:T 34=some f119
theorem wE{ps:List (List Nat)}(h:∀p∈ps,IsS p)(i:Nat):IsS (psF ps i):=by
 unfold psF
 cases hp:ps[i]? with
 |none=>exact lK
 |some p=>exact h p (List.mem_of_getElem? hp)
theorem Aa{cr:List Wd}{ps:List (List Nat)}(hc:∀w∈cr,IsW w)(h:∀p∈ps,IsS p)(i:Nat):IsS (crM cr ps i):=by
 unfold crM
 cases hw:cr[i]? with
 |none=>exact lK
 |some w=>
  have:=hc w (List.mem_of_getElem? hw)
  exact this.a.join ((wE h i).meet this.b)
def J9(os:List Od)(ss:List Sp)(cr:List Wd)(ps:List (List Nat))(r:Int):Prop:=wNo cr ss=false→seB os (wHi cr ss) r=true→seB os (wLo cr ss) r=true→
 seB os (lP (crM cr ps) ss) r=true∧lsN os (wHi cr ss)≤lsN os (lP (crM cr ps) ss)∧lsN os (lP (crM cr ps) ss)≤lsN os (wLo cr ss)
set_option maxHeartbeats 64000000 in
theorem NU(F:DV T){h:Heap}(hr:Rdy h)(hg:Tab h)(h2:0<h.next){ov sv' cv pv:Value}{os:List Od}{ss:List Sp}{cr:List Wd}{ps:List (List Nat)}{r:Int}(so:OdS h ov os)(ho:os.length<4611686018427387904)(sp:SpS h sv' ss)(hs:ss.length<4611686018427387904)(wo:WoS h cv cr)(hc:cr.length<4611686018427387904)(sq:SsQ h pv ps)(hps:ps.length<4611686018427387904)(hlaw:J9 os ss cr ps r):
 Pu T 4 [seV ov sv' r,cv,pv] h (.bool true):=by
 have hp:=F.nu.le.bk.cs.df.rt.p
 refine .of hp F.f16 hr rfl ?_
 obtain⟨a1,c1,rfl⟩:=so.form
 obtain⟨a,c,rfl⟩:=sp.form
 obtain⟨a2,c2,rfl⟩:=wo.form
 obtain⟨a3,c3,rfl⟩:=sq.sl.form
 refine cH (E0:=[(1, .slice a2 cr.length c2),(2, .slice a3 ps.length c3),(3, .pointer (some ⟨h.next,0,none⟩))]) (P:=fun h'=>Ext h h'∧h'.next=h.next+1∧h'.get h.next=some (.cells [.slice a1 os.length c1, .slice a ss.length c, .int .i64 r] true 1)) ?_ ?_
 ·refine aq ?_;refine yB ?_;refine yM ?_;refine ct ?_;refine y1 ?_
  exact⟨rfl,rfl,rfl,(Ext.refl h).push _,rfl,z3 h _⟩
 rintro h1 ⟨x1,n1,g3⟩
 have W1:=x1.wf hr.wf
 have hl1:=x1.log.trans hr.log
 have CS:Pu T 6 [] {h1 with log:=[]} (.bool true):=Oc F.f21 (show Tab h1 from(x1.old 0 h2).trans hg)
 have so1:=so.ext x1
 have sp1:=sp.ext x1
 have wo1:=wo.ext x1
 have sq1:=sq.ext x1
 by_cases q1:12<os.length
 ·have m1:aA .gtr (.int .i64 (os.length:Nat)) (.int .i64 12)=some (.bool true):=mg (by omega)
  refine an ?_;refine y4 ?_;refine yF ?_;refine yL ?_;refine yD ?_;refine yW ?_;refine yM ?_;refine yP ?_
  refine yP ?_;refine yP ?_;refine yP ?_;refine yT ?_;refine yM ?_;refine yP ?_;refine yP ?_;refine yP ?_
  refine yT ?_;refine yM ?_;refine yP ?_;refine yP ?_;refine yP ?_;refine yT ?_;refine y3 ?_;refine yY ?_;refine y4 ?_
  refine yC ?_
  refine FW.pu CS ?_
  refine yM ?_;refine y3 ?_;refine aM ?_;refine dZ ?_
  exact aD hl1 rfl rfl
 have m1:aA .gtr (.int .i64 (os.length:Nat)) (.int .i64 12)=some (.bool false):=mb (by omega)
 by_cases q2:6<ss.length
 ·have m2:aA .gtr (.int .i64 (ss.length:Nat)) (.int .i64 6)=some (.bool true):=mg (by omega)
  refine an ?_;refine y4 ?_;refine yF ?_;refine yL ?_;refine yD ?_;refine yW ?_;refine yM ?_;refine yO ?_
  refine yF ?_;refine yO ?_;refine yL ?_;refine yO ?_;refine yD ?_;refine yO ?_;refine yW ?_;refine yU ?_
  refine yM ?_;refine yP ?_;refine yP ?_;refine yP ?_;refine yT ?_;refine yM ?_;refine yP ?_;refine yP ?_
  refine yP ?_;refine yT ?_;refine y3 ?_;refine yY ?_;refine y4 ?_
  refine yC ?_
  refine FW.pu CS ?_
  refine yM ?_;refine y3 ?_;refine aM ?_;refine dZ ?_
  exact aD hl1 rfl rfl
 have m2:aA .gtr (.int .i64 (ss.length:Nat)) (.int .i64 6)=some (.bool false):=mb (by omega)
 by_cases q3:8<cr.length
 ·have m3:aA .gtr (.int .i64 (cr.length:Nat)) (.int .i64 8)=some (.bool true):=mg (by omega)
  refine an ?_;refine y4 ?_;refine yF ?_;refine yL ?_;refine yD ?_;refine yW ?_;refine yM ?_;refine yO ?_
  refine yF ?_;refine yO ?_;refine yL ?_;refine yO ?_;refine yD ?_;refine yO ?_;refine yW ?_;refine yU ?_
  refine yM ?_;refine yO ?_;refine yM ?_;refine yO ?_;refine yD ?_;refine yO ?_;refine yW ?_;refine yU ?_
  refine yM ?_;refine yP ?_;refine yP ?_;refine yP ?_;refine yT ?_;refine y3 ?_
  refine yY ?_;refine y4 ?_
  refine yC ?_
  refine FW.pu CS ?_
  refine yM ?_;refine y3 ?_;refine aM ?_;refine dZ ?_
  exact aD hl1 rfl rfl
 have m3:aA .gtr (.int .i64 (cr.length:Nat)) (.int .i64 8)=some (.bool false):=mb (by omega)
 by_cases q4:10<ps.length
 ·have m4:aA .gtr (.int .i64 (ps.length:Nat)) (.int .i64 10)=some (.bool true):=mg (by omega)
  refine an ?_;refine y4 ?_;refine yF ?_;refine yL ?_;refine yD ?_;refine yW ?_;refine yM ?_;refine yO ?_
  refine yF ?_;refine yO ?_;refine yL ?_;refine yO ?_;refine yD ?_;refine yO ?_;refine yW ?_;refine yU ?_
  refine yM ?_;refine yO ?_;refine yM ?_;refine yO ?_;refine yD ?_;refine yO ?_;refine yW ?_;refine yU ?_
  refine yM ?_;refine yO ?_;refine yM ?_;refine yO ?_;refine yD ?_;refine yO ?_;refine yW ?_;refine yU ?_;refine y3 ?_;refine yY ?_;refine y4 ?_
  refine yC ?_
  refine FW.pu CS ?_
  refine yM ?_;refine y3 ?_;refine aM ?_;refine dZ ?_
  exact aD hl1 rfl rfl
 have m4:aA .gtr (.int .i64 (ps.length:Nat)) (.int .i64 10)=some (.bool false):=mb (by omega)
 have C1:=CT F.nu (h:={h1 with log:=[]}) (.of W1) (show Tab h1 from(x1.old 0 h2).trans hg) (by show 0<h1.next;omega) (r:=r) (so1.log []) ho (sp1.log []) (by omega) (wo1.log []) hc
 unfold nmT at C1
 by_cases hbad:wNo cr ss=true∨seB os (wHi cr ss) r=false∨seB os (wLo cr ss) r=false
 ·rw[show(if wNo cr ss=true then((0,0,1):Int×Int×Int)else if seB os (wHi cr ss) r=false then(0,0,1)else if seB os (wLo cr ss) r=false then(0,0,1)else(lsN os (wHi cr ss),lsN os (wLo cr ss),0))=(0,0,1)by
   rcases hbad with h|h|h
   ·rw[if_pos h]
   ·rw[if_pos h];split<;>rfl
   ·rw[if_pos h];split<;>(try split)<;>rfl]at C1
  have m5:aA .neq (.int .i64 1) (.int .i64 0)=some (.bool true):=rfl
  refine an ?_;refine y4 ?_;refine yF ?_;refine yL ?_;refine yD ?_;refine yW ?_;refine yM ?_;refine yO ?_
  refine yF ?_;refine yO ?_;refine yL ?_;refine yO ?_;refine yD ?_;refine yO ?_;refine yW ?_;refine yU ?_
  refine yM ?_;refine yO ?_;refine yM ?_;refine yO ?_;refine yD ?_;refine yO ?_;refine yW ?_;refine yU ?_
  refine yM ?_;refine yO ?_;refine yM ?_;refine yO ?_;refine yD ?_;refine yO ?_;refine yW ?_;refine yU ?_;refine y3 ?_;refine yX ?_;refine bA ?_;refine bH ?_;refine y4 ?_;refine yN ?_;refine yM ?_
  refine yC ?_
  refine FW.pu C1 ?_
  unfold nmV
  refine yM ?_;refine yE ?_;refine yE ?_;refine yE ?_;refine yM ?_;refine yM ?_;refine yM ?_;refine y3 ?_;refine an ?_;refine y4 ?_;refine yM ?_;refine yW ?_;refine y3 ?_;refine yY ?_;refine y4 ?_
  refine yC ?_
  refine FW.pu CS ?_
  refine yM ?_;refine y3 ?_;refine aM ?_;refine dZ ?_
  exact aD hl1 rfl rfl
 have e1:wNo cr ss=false:=by cases hh:wNo cr ss with|true=>exact absurd (.inl hh) hbad|false=>rfl
 have e2:seB os (wHi cr ss) r=true:=by cases hh:seB os (wHi cr ss) r with|false=>exact absurd (.inr (.inl hh)) hbad|true=>rfl
 have e3:seB os (wLo cr ss) r=true:=by cases hh:seB os (wLo cr ss) r with|false=>exact absurd (.inr (.inr hh)) hbad|true=>rfl
 rw[e1,e2,e3,if_neg (by simp),if_neg (by simp),if_neg (by simp)]at C1
 obtain⟨l1,l2,l3⟩:=hlaw e1 e2 e3
 have hlen:cr.length=ss.length:=by
  unfold wNo at e1
  rw[Bool.or_eq_false_iff]at e1
  exact Decidable.byContradiction fun q=>by have:=e1.1;rw[decide_eq_true q]at this;cases this
 generalize lsN os (wHi cr ss)=wz1 at*
 generalize lsN os (wLo cr ss)=wz2 at*
 have m5:aA .neq (.int .i64 0) (.int .i64 0)=some (.bool false):=rfl
 refine an ?_;refine y4 ?_;refine yF ?_;refine yL ?_;refine yD ?_;refine yW ?_;refine yM ?_;refine yO ?_
 refine yF ?_;refine yO ?_;refine yL ?_;refine yO ?_;refine yD ?_;refine yO ?_;refine yW ?_;refine yU ?_
 refine yM ?_;refine yO ?_;refine yM ?_;refine yO ?_;refine yD ?_;refine yO ?_;refine yW ?_;refine yU ?_
 refine yM ?_;refine yO ?_;refine yM ?_;refine yO ?_;refine yD ?_;refine yO ?_;refine yW ?_;refine yU ?_;refine y3 ?_;refine yX ?_;refine bA ?_;refine bH ?_;refine y4 ?_;refine yN ?_;refine yM ?_
 refine yC ?_
 refine FW.pu C1 ?_
 clear C1
 unfold nmV
 refine yM ?_;refine yE ?_;refine yE ?_;refine yE ?_;refine yM ?_;refine yM ?_;refine yM ?_;refine y3 ?_;refine an ?_;refine y4 ?_;refine yM ?_;refine yW ?_;refine y3 ?_;refine yX ?_;refine bA ?_;refine bH ?_
 refine cH (E0:=[(1, .slice a2 cr.length c2),(2, .slice a3 ps.length c3),(3, .pointer (some ⟨h.next,0,none⟩)),(7, .int .i64 wz1),(8, .int .i64 wz2),(10, .pointer (some ⟨h1.next,0,none⟩))]) (P:=fun h'=>Ext h1 h'∧h'.next=h1.next+1∧h'.get h1.next=some (.cells [.slice a1 os.length c1, .slice a ss.length c, .int .i64 r] true 1)) ?_ ?_
 ·refine aq ?_;refine yN ?_;refine ah (cZ) ?_
  refine yS ?_;refine ct ?_
  refine y1 ?_
  exact⟨rfl,rfl,rfl,ff (by omega) _ _,rfl,fE _ _⟩
 rintro h2' ⟨x2,n2,g10⟩
 refine cH (E0:=[(1, .slice a2 cr.length c2),(2, .slice a3 ps.length c3),(3, .pointer (some ⟨h.next,0,none⟩)),(7, .int .i64 wz1),(8, .int .i64 wz2),(10, .pointer (some ⟨h1.next,0,none⟩))]) (P:=fun h'=>Ext h1 h'∧h'.next=h1.next+1∧h'.get h1.next=some (.cells [.slice a1 os.length c1, .slice none 0 0, .int .i64 r] true 1)) ?_ ?_
 ·refine aq ?_;refine yF ?_;refine yS ?_;refine ct ?_;refine y1 ?_
  exact⟨rfl,rfl,rfl,x2.wr (Nat.le_refl _) (by omega),n2,Heap.aJ g10⟩
 rintro h3 ⟨x3,n3,m10⟩
 clear x2 n2 g10 CS
 refine an ?_;refine y4 ?_;refine yM ?_;refine y3 ?_;refine aO ?_
 refine dL (fun m e ds h'=>∃i:Nat,i≤ss.length∧ss.length-i=m∧e=[(1, .slice a2 cr.length c2),(2, .slice a3 ps.length c3),(3, .pointer (some ⟨h.next,0,none⟩)),(7, .int .i64 wz1),(8, .int .i64 wz2),(10, .pointer (some ⟨h1.next,0,none⟩)),(11, .int .i64 (i:Nat))]∧ds=[]∧Ext h1 h'∧h1.next+1≤h'.next∧∃v,h'.get h1.next=some (.cells [.slice a1 os.length c1,v, .int .i64 r] true 1)∧dG [v]=true∧Own (h1.next+1) h' 10 v (gT (crM cr ps) ss i).length ((gT (crM cr ps) ss i).flatMap spL))
  ⟨0,by omega,rfl,rfl,rfl,x3,by omega,_,m10,rfl, .nil⟩ ?_
 clear x3 n3 m10
 rintro m e ds J ⟨i,hi,rfl,rfl,rfl,xJ,nJ,v,m10,hv1,ow⟩
 have WJ:=xJ.wf W1
 have hlJ:=xJ.log.trans hl1
 have hon3:dG (bT 3 (bS 0 [.slice a1 os.length c1,v, .int .i64 r]))=true:=iz (a:=[.slice a1 os.length c1]) rfl (iz (a:=[v]) hv1 rfl)
 have q3':=(xJ.old h.next (by omega)).trans g3
 have x1J:=x1.trans xJ
 by_cases hlt:i<ss.length
 ·obtain⟨x,hx⟩:∃r,ss[i]? =some r:=⟨ss[i],List.getElem?_eq_getElem hlt⟩
  have hxw:=sp.ok x (List.mem_of_getElem? hx)
  obtain⟨b,o,cc,vs,own,tt,hv,gl,hbl,el⟩:=sp1.elem hx
  cases hv
  obtain⟨w,hw⟩:∃r,cr[i]? =some r:=⟨cr[i],List.getElem?_eq_getElem (by omega)⟩
  have hww:=wo.ok w (List.mem_of_getElem? hw)
  obtain⟨b',o',cc',vs',own',tt',hv',gl',hbl',el'⟩:=wo1.elem hw
  cases hv'
  have mlt:aA .lss (.int .i64 (i:Nat)) (.int .i64 (ss.length:Nat))=some (.bool true):=gP (by omega)
  have k1:=kE hxw
  have k2:=mE hxw
  have k3:=eM hxw
  have k4:=kF x
  have gl1:=(xJ.old _ hbl).trans gl
  refine an ?_;refine y4 ?_;refine yM ?_;refine yF ?_;refine yL ?_;refine yD ?_;refine yW ?_;refine y3 ?_;refine yY ?_;refine bA ?_;refine bH ?_;refine an ?_;refine aO ?_
  refine cH (E0:=[(1, .slice (some ⟨b',o',none⟩) cr.length c2),(2, .slice a3 ps.length c3),(3, .pointer (some ⟨h.next,0,none⟩)),(7, .int .i64 wz1),(8, .int .i64 wz2),(10, .pointer (some ⟨h1.next,0,none⟩)),(11, .int .i64 (i:Nat)),(12, .pointer (some ⟨J.next,0,none⟩))]) (P:=fun h'=>Ext J h'∧h'.next=J.next+1∧h'.get J.next=some (.cells (spL x) true 1)) ?_ ?_
  ·refine aq ?_;refine yF ?_;refine yL ?_;refine yM ?_;refine yI ?_;refine yV ?_;refine ah (cZ) ?_
   refine ah (bQ (by exact rfl) (by exact rfl) (by(simp(disch:=first|omega|(simp only[z1,z2];omega))only[z3,z4,z5,z6,z7,z1,z2,m10,gl,g3,q3',gl',gl1];exact rfl)) (by assumption) (by exact rfl) (by exact cF _)) ?_;refine ct ?_
   refine y1 ?_
   exact⟨rfl,rfl,rfl,ff (by omega) _ _,rfl,fE _ _⟩
  rintro J1 ⟨wy1,nJ1,g12⟩
  have hpi:=wE sq.ok i
  refine cH (E0:=[(1, .slice (some ⟨b',o',none⟩) cr.length c2),(2, .slice a3 ps.length c3),(3, .pointer (some ⟨h.next,0,none⟩)),(7, .int .i64 wz1),(8, .int .i64 wz2),(10, .pointer (some ⟨h1.next,0,none⟩)),(11, .int .i64 (i:Nat)),(12, .pointer (some ⟨J.next,0,none⟩)),(13, .pointer (some ⟨J.next+1,0,none⟩))]) (P:=fun h'=>Ext J h'∧h'.next=J.next+2∧h'.get J.next=some (.cells (spL x) true 1)∧h'.get (J.next+1)=some (.cells (us s0) true 1)) ?_ ?_
  ·refine aq ?_;refine ah (cZ) ?_;refine ct ?_;refine y1 ?_
   rw[←nJ1]
   exact⟨rfl,rfl,rfl,wy1.push _,by show J1.next+1=J.next+2;omega,(z4 (by omega)).trans g12,z3 _ _⟩
  rintro J2 ⟨wy2,nJ2,g12,g13⟩
  clear wy1 nJ1
  refine Bh (E0:=fun r=>(1, .slice (some ⟨b',o',none⟩) cr.length c2)::(2, .slice a3 ps.length c3)::(3, .pointer (some ⟨h.next,0,none⟩))::(7, .int .i64 wz1)::(8, .int .i64 wz2)::(10, .pointer (some ⟨h1.next,0,none⟩))::(11, .int .i64 (i:Nat))::(12, .pointer (some ⟨J.next,0,none⟩))::(13, .pointer (some ⟨J.next+1,0,none⟩))::r) (P:=fun h'=>Ext J h'∧h'.next=J.next+2∧h'.get J.next=some (.cells (spL x) true 1)∧h'.get (J.next+1)=some (.cells (us (psF ps i)) true 1)) ?_ ?_
  ·by_cases hip:i<ps.length
   ·obtain⟨p,hpp⟩:∃r,ps[i]? =some r:=⟨ps[i],List.getElem?_eq_getElem hip⟩
    have hpw:=sq.ok p (List.mem_of_getElem? hpp)
    obtain⟨b3,o3,cc3,vs3,own3,tt3,hv3,gl3,hbl3,el3⟩:=sq1.elem hpp
    cases hv3
    have m6:aA .lss (.int .i64 (i:Nat)) (.int .i64 (ps.length:Nat))=some (.bool true):=gP (by omega)
    have gl4:=((xJ.trans wy2).old _ hbl3).trans gl3
    have u1:=bU hpw.len
    have u2:(us p).length=8:=by rw[aG];exact hpw.len
    have u3:=cF p
    have u4:(us s0).length=8:=rfl
    rw[show psF ps i=p by unfold psF;rw[hpp]]
    refine y4 ?_;refine yM ?_;refine yM ?_;refine yD ?_;refine yW ?_;refine y3 ?_
    refine yY ?_;refine aq ?_;refine yM ?_;refine yM ?_;refine yI ?_;refine yV ?_
    refine ah (bQ (by exact rfl) (by exact rfl) (by assumption) (by assumption) (by assumption) (by exact cF _)) ?_;refine ct ?_;refine y1 ?_
    exact⟨rfl,⟨[],rfl⟩,rfl,wy2.wr (by omega) (by omega),nJ2,(z5 (by omega)).trans g12,Heap.aJ g13⟩
   ·have m6:aA .lss (.int .i64 (i:Nat)) (.int .i64 (ps.length:Nat))=some (.bool false):=iF (by omega)
    rw[show psF ps i=s0 by unfold psF;rw[List.getElem?_eq_none (by omega)]]
    refine y4 ?_;refine yM ?_;refine yM ?_;refine yD ?_;refine yW ?_;refine y3 ?_
    refine yX ?_;refine bA ?_
    exact⟨rfl,⟨[(64, .bool false)],rfl⟩,rfl,wy2,nJ2,g12,g13⟩
  rintro e0 J3 ⟨wy3,nJ3,g12,g13⟩
  clear wy2 nJ2
  have hcm:crM cr ps i=mI w.1 (kP (psF ps i) w.2):=by unfold crM;rw[hw]
  have hfs:=Aa wo.ok sq.ok i
  have W3:=wy3.wf WJ
  have hl3:=wy3.log.trans hlJ
  have gl5:=((xJ.trans wy3).old _ hbl').trans gl'
  have C:=Cx hp F.f32 F.f118 F.f119 (h:={J3 with log:=[]}) (.of W3) hww hpi
  rw[←hcm]at C
  have v1:=bU hpi.len
  have v2:=dh hpi.len
  have e1:=mF hww
  have wz1':(Nat.beq (bO (cellsOf (sv (crM cr ps i)))) 8&&Nat.ble (0+2+8) (bO (spL x))&&dG (cellsOf (sv (crM cr ps i))))=true:=by
   have e:cellsOf (sv (crM cr ps i))=us (crM cr ps i):=by show(us (crM cr ps i)).toArray.toList=_;simp
   rw[e,bN,bN,aG,hfs.len,k3,cF,gJ (by omega)];rfl
  have wz2':cg (spL x) (0+2) (cellsOf (sv (crM cr ps i)))=spL ⟨x.id,x.size,crM cr ps i⟩:=by
   have e:cellsOf (sv (crM cr ps i))=us (crM cr ps i):=by show(us (crM cr ps i)).toArray.toList=_;simp
   rw[e];exact Cd hxw hfs
  refine cH (E0:=[(1, .slice (some ⟨b',o',none⟩) cr.length c2),(2, .slice a3 ps.length c3),(3, .pointer (some ⟨h.next,0,none⟩)),(7, .int .i64 wz1),(8, .int .i64 wz2),(10, .pointer (some ⟨h1.next,0,none⟩)),(11, .int .i64 (i:Nat)),(12, .pointer (some ⟨J.next,0,none⟩))]) (P:=fun h'=>Ext J h'∧h'.next=J.next+2∧h'.get J.next=some (.cells (spL ⟨x.id,x.size,crM cr ps i⟩) true 1)) ?_ ?_
  ·refine dn ?_;refine qM ?_;refine qM ?_;refine qI ?_
   refine qV ?_;refine qV ?_
   refine qC ?_
   refine FW.puD C (by(repeat apply aT rfl);exact cO) ?_
   refine qF ?_
   refine ec rfl rfl rfl (by exact rfl) (by exact rfl) (by exact rfl) g12 wz1' wz2' (by omega) (by apply aT rfl;exact cO) ?_
   refine dH ?_;refine y1 ?_
   exact⟨rfl,rfl,rfl,wy3.wr (by omega) (by omega),nJ3,Heap.aJ g12⟩
  rintro J4 ⟨x2,nJ4,g72⟩
  clear C wz1' wz2' g12 g13 wy3 W3 hl3 gl5 v1 v2 e1
  have hle:=jY (crM cr ps) ss i
  have hst:gT (crM cr ps) ss (i+1)=gT (crM cr ps) ss i++lQ (crM cr ps i) x:=by
   show gT (crM cr ps) ss i++(match ss[i]? with|some x=>lQ (crM cr ps i) x|none=>[])=_
   rw[hx]
  clear hcm
  generalize crM cr ps i=pw at*
  have W2:=x2.wf WJ
  have hl2:=x2.log.trans hlJ
  have xJ2:=xJ.trans x2
  have wy1:=kE (x:=⟨x.id,x.size,pw⟩) hfs
  have wy2:=mE (x:=⟨x.id,x.size,pw⟩) hfs
  have wy3:=eM (x:=⟨x.id,x.size,pw⟩) hfs
  have wy4:=kF ⟨x.id,x.size,pw⟩
  have wy5:=nN (x:=⟨x.id,x.size,pw⟩) hfs
  have wy6:=bU hfs.len
  have wy5':bT 8 (bS (0+2) (spL ⟨x.id,x.size,pw⟩))=us pw:=wy5
  have n5:=(x2.old h1.next (by omega)).trans m10
  have ow2:=ow.ext x2
  clear m10 ow gl1
  by_cases hem:pw=s0
  ·rw[show lQ pw x=[]from if_pos hem,List.append_nil]at hst
   refine y4 ?_;refine yF ?_;refine yV ?_;refine ah (dS (by exact rfl)) ?_
   refine ah (pM (b:=s0) (by exact rfl) (by exact rfl) hfs.len rfl) ?_
   rw[decide_eq_true hem]
   refine y3 ?_;refine yX ?_;refine bA ?_;refine fF ?_;refine bH ?_;refine aq ?_;refine yM ?_;refine iI ?_
   refine yM ?_;refine y3 ?_
   exact⟨ss.length-(i+1),by omega,i+1,by omega,rfl,rfl,rfl,xJ2,by omega,v,n5,hv1,by rw[hst];exact ow2⟩
  ·rw[show lQ pw x=[⟨x.id,x.size,pw⟩]from if_neg hem]at hst
   refine y4 ?_;refine yF ?_;refine yV ?_;refine ah (dS (by exact rfl)) ?_
   refine ah (pM (b:=s0) (by exact rfl) (by exact rfl) hfs.len rfl) ?_
   rw[decide_eq_false hem]
   refine y3 ?_;refine yY ?_;refine aq ?_;refine yF ?_;refine yL ?_;refine yV ?_
   refine ah (xI (yd wy3 rfl (by exact rfl)) rfl) ?_
   skip
   refine Ck (lo:=h1.next+1) (sz:=10) (v:=v) (c1:=spL ⟨x.id,x.size,pw⟩) (ow2.ext ((Ext.refl J4).push _)) (by omega) (by omega) (by omega) (by show h1.next+1≤J4.next+1;omega) (by omega) (by exact rfl) (by exact rfl) (vq (n:=1) (cs:=spL ⟨x.id,x.size,pw⟩) (by(simp(disch:=first|omega|(simp only[z1,z2];omega))only[z3,z4,z5,z6,z7,z1,z2,gl,g3,q3',gl',g12,g12,g13,g72,n5];exact rfl)) wy2 wy3) wy3 wy4 ?_
   intro v' h6 o6 x6
   have ey6:Lx (h1.next+1) J4 h6:=((Lx.refl (h1.next+1) J4).push (by omega) _).trans x6
   have r5:=(ey6.old _ (by omega)).trans n5
   have n6:=ey6.next
   obtain⟨a6,c6,rfl⟩:=(o6.slice (by omega)).form
   refine yF ?_;refine yS ?_;refine ct ?_;refine y1 ?_;refine fF ?_;refine bH ?_;refine aq ?_;refine yM ?_
   refine iI ?_;refine yM ?_;refine y3 ?_
   refine⟨ss.length-(i+1),by omega,i+1,by omega,rfl,rfl,rfl,?_,?_,_,Heap.aJ r5,rfl,?_⟩
   ·exact(((xJ2.lx (Nat.le_refl _)).trans (ey6.mono (by omega))).ext).wr (by omega) (by omega)
   ·show h1.next+1≤h6.next;omega
   ·rw[hst,List.length_append,List.flatMap_append,List.length_singleton]
    rw[show [(⟨x.id,x.size,pw⟩:Sp)].flatMap spL=spL ⟨x.id,x.size,pw⟩by simp]
    refine Own.keep o6 ?_ ?_
    ·exact Nat.le_refl _
    ·intro z hz _;exact z5 (by omega)
 ·obtain rfl:i=ss.length:=by omega
  have mlt:aA .lss (.int .i64 (ss.length:Nat)) (.int .i64 (ss.length:Nat))=some (.bool false):=iF (by omega)
  have okM:=sG (f:=crM cr ps) (ss:=ss) (i:=ss.length) (fun j _=>Aa wo.ok sq.ok j)
  have leM:=jY (crM cr ps) ss ss.length
  have C3:=vZ F.nu.le (h:={J with log:=[]}) (.of WJ) (show Tab J from(x1J.old 0 h2).trans hg) (by have:=x1J.next;show 0<J.next;omega) (ov:= .slice a1 os.length c1) (sv:=v) (ss:=lP (crM cr ps) ss) (r:=r) ((so.ext x1J).log []) ho ⟨(ow.slice (by omega)).log [],okM⟩ (Nat.lt_of_le_of_lt leM (by omega))
  unfold seE at C3
  rw[l1,if_pos rfl,if_pos rfl]at C3
  have CS:Pu T 6 [] {J with log:=[]} (.bool true):=Oc F.f21 (show Tab J from(x1J.old 0 h2).trans hg)
  generalize lsN os (lP (crM cr ps) ss)=wz3 at*
  have p1:aA .leq (.int .i64 wz1) (.int .i64 wz3)=some (.bool true):=mh l2
  have p2:aA .leq (.int .i64 wz3) (.int .i64 wz2)=some (.bool true):=mh l3
  refine an ?_;refine y4 ?_;refine yM ?_;refine yF ?_;refine yL ?_;refine yD ?_;refine yW ?_;refine y3 ?_;refine yX ?_;refine dz ?_;refine ek ?_;refine ek ?_;refine iY ?_;refine bH ?_;refine y4 ?_;refine yN ?_
  refine yC ?_
  refine FW.pu C3 ?_
  refine yM ?_;refine yE ?_;refine yE ?_;refine yM ?_;refine yM ?_;refine y3 ?_;refine y4 ?_
  refine yC ?_
  refine FW.pu CS ?_
  refine yM ?_;refine yO ?_;refine yM ?_;refine yO ?_;refine yt ?_;refine yT ?_;refine yM ?_;refine yO ?_;refine yM ?_
  refine yO ?_;refine yM ?_;refine yO ?_;refine yW ?_;refine yT ?_;refine yM ?_;refine yO ?_;refine yM ?_;refine yO ?_
  refine yM ?_;refine yO ?_;refine yW ?_;refine yT ?_;refine yM ?_;refine y3 ?_
  refine aM ?_
  exact aD hlJ rfl rfl
end Go.A.Pk
end
