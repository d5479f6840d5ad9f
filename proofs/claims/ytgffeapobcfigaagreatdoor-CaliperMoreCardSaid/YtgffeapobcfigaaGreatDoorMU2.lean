/- Walks of functions, plain laws, the table. -/
import Derived.Test.YtgffeapobcfigaaGreatDoorMU1
import Derived.Test.YtgffeapobcfigaaGreatDoorMU0
import Derived.Test.YtgffeapobcfigaaGreatDoorMF
import Derived.Test.YtgffeapobcfigaaGreatDoorMD
import Derived.Sort.Row
import Derived.Sort.Grow
import Derived.Test.YtgffeapobcfigaaGreatDoorMV
set_option linter.all false
section
set_option maxRecDepth 100000
namespace Go.A.Pk
def Sub(a b:List Nat):Prop:=∀c,oJ a c=true→oJ b c=true
end Go.A.Pk
end
section
set_option maxRecDepth 100000
namespace Go.A.Pk
variable {T:Nat→Option af}
theorem Jn(F:ED T)(hf:T 84=some f84){h:Heap}(hr:Rdy h){s:List Nat}(hs:IsS s):Pu T 84 [sv s] h (.int .i64 ((jw s:Nat):Int)):=by
 refine .of F.hr.p hf hr rfl ?_
 have k8:=bF hs.len
 have k9:=cD hs.len
 have x0:Ext h (h.push (.cells (cellsOf (sv s)) true 1)):=(Ext.refl h).push _
 have g0:(h.push (.cells (cellsOf (sv s)) true 1)).get h.next=some (.cells (us s) true 1):=z3 h _
 refine y4 ?_;refine yB ?_;refine yM ?_;refine y3 ?_
 generalize(h.push (.cells (cellsOf (sv s)) true 1))=H at*
 have W:=x0.wf hr.wf
 have hL:=x0.log.trans hr.log
 have hle:=kz s 512
 have C:=Fh F (h:={H with log:=[]}) (.of W) hs
 unfold jw
 refine y4 ?_;refine yV ?_
 refine yC ?_
 refine FW.al C (fun v h' m q=>q.log m) ?_
 rintro v H1 x1 q
 clear C
 have hL1:=x1.log.trans hL
 obtain⟨a,c,rfl⟩:=(q.slice (by omega)).form
 refine yD ?_;refine yM ?_;refine y3 ?_;refine aG ?_
 exact aD hL1 rfl rfl
theorem iW{α:Type}{l:List α}{j:Nat}{x:α}(h:l[j]? =some x):l.take (j+1)=l.take j++[x]:=by
 rw[List.take_add_one,h];rfl
def shC(x y z:Int)(c:Ce):Ce:=⟨c.x+x,c.y+y,c.z+z⟩
end Go.A.Pk
end
section
set_option maxRecDepth 100000
namespace Go.A.Pk
structure Rng (b:Bx) (x y z:Int):Prop where
 x:0≤b.lo.x+x∧b.hi.x+x≤7
 y:0≤b.lo.y+y∧b.hi.y+y≤7
 z:0≤b.lo.z+z∧b.hi.z+z≤7
end Go.A.Pk
end
section
set_option maxRecDepth 100000
namespace Go.A.Pk
variable {T:Nat→Option af}
def ssL(l:List (List Nat)):List Value:=l.flatMap us
structure SsQ (h:Heap) (v:Value) (l:List (List Nat)):Prop where
 sl:bK h 8 v l.length (ssL l)
 ok:∀s∈l,IsS s
theorem SsQ.ext{h h':Heap}{v:Value}{l:List (List Nat)}(s:SsQ h v l)(x:Ext h h'):SsQ h' v l:=⟨s.sl.ext x,s.ok⟩
theorem SsQ.log{h:Heap}{v:Value}{l:List (List Nat)}(s:SsQ h v l)(m:List Nat):SsQ {h with log:=m} v l:=⟨s.sl.log m,s.ok⟩
theorem CH:∀{l:List (List Nat)} {i:Nat} {x:List Nat},(∀s∈l,IsS s)→l[i]? =some x→((ssL l).drop (i*8)).take 8=us x
 |[],i,x,_,h=>by simp at h
 |c::l,0,x,hl,h=>by
  simp at h;subst h
  have e:ssL (c::l)=us c++ssL l:=rfl
  have e8:(us c).length=8:=by rw[aI,(hl c List.mem_cons_self).len]
  rw[e,Nat.zero_mul,List.drop_zero,List.take_append_of_le_length (by omega),List.take_of_length_le (by omega)]
 |c::l,i+1,x,hl,h=>by
  have e:ssL (c::l)=us c++ssL l:=rfl
  have e8:(us c).length=8:=by rw[aI,(hl c List.mem_cons_self).len]
  have e2:(us c++ssL l).drop 8=ssL l:=by rw[←e8];exact List.drop_left
  rw[e,show(i+1)*8=8+i*8 by omega,←List.drop_drop,e2]
  exact CH (fun s hs=>hl s (List.mem_cons_of_mem _ hs)) (by simpa using h)
theorem SsQ.elem{h:Heap}{v:Value}{l:List (List Nat)}(s:SsQ h v l){i:Nat}{x:List Nat}(hi:l[i]? =some x):
 ∃b o c vs own t,v= .slice (some ⟨b,o,none⟩) l.length c∧h.get b=some (.cells vs own t)∧b<h.next∧cH 8 (bW (o+i*8) vs)=us x:=by
 have hlt:=(List.getElem?_eq_some_iff.1 hi).1
 rcases bK.inv s.sl with⟨_,_,h0,_⟩|⟨b,o,cap,hv,s1,hc⟩
 ·omega
 ·obtain⟨vs,own,t,g1,g2⟩:=s1.obj
  refine⟨b,o,cap,vs,own,t,hv,g1,s1.lt,?_⟩
  rw[←CH s.ok hi,←g2]
  simp only[cG,bD,List.drop_take,List.take_take,List.drop_drop]
  congr 1;omega
theorem Js{h:Heap}{e:Env}{x:Operand}{s:List Nat}(hs:IsS s)(hx:ev h e x=some (sv s)):iF h e (eE 1 (aT 8 (.int .u64 0))) [(0,8,x)]=some (us s):=by
 have e1:cellsOf (sv s)=us s:=by show(us s).toArray.toList=_;simp
 have h0:eE 1 (aT 8 (.int .u64 0))=us s0:=rfl
 have e2:cO (us s0) 0 (us s)=us s:=by
  rw[eX (by rw[aI,aI,hs.len];decide),aI,hs.len,List.take_zero]
  simp[us,s0]
 have e3:bZ (us s)=8:=by rw[bQ,aI,hs.len]
 rw[h0]
 simp only[iF,hx,e1,e2,e3];rfl
end Go.A.Pk
end
section
namespace Go.A
open Go.Sort
variable {P:Program}
theorem LA{μ:Mu}{h:Heap}:∀(l:List Obj) {w:World},R P μ h w→R P μ h (Sort.grow w l.toArray)∧St μ h w μ h (Sort.grow w l.toArray)
 |[],w,hR=>by
  have e:Sort.grow w #[]=w:=grow_empty w
  rw[e];exact⟨hR, .refl _ _ _⟩
 |o::l,w,hR=>by
  have e:Sort.grow w (o::l).toArray=Sort.grow (w.alloc o) l.toArray:=by
   rw[alloc_eq_grow,grow_grow]
   congr 1
   apply Array.toList_inj.1
   simp
  rw[e]
  obtain⟨r1,s1⟩:=hR.Dn (w':=w.alloc o) rfl
  obtain⟨r2,s2⟩:=LA l r1
  exact⟨r2,s1.trans s2 (Nat.le_refl _)⟩
end Go.A
end
section
namespace Go.A.Pk
open Go.Sort
variable {P:Program}
def leS(x y:List Nat):Bool:= !decide (cmpL y x<0)
def eD(l:List (List Nat)):List (List Nat):=l.mergeSort leS
theorem jG(l:List (List Nat)):(eD l).length=l.length:=List.length_mergeSort l
theorem lZ{l:List (List Nat)}{x:List Nat}:x∈eD l↔x∈l:=List.mem_mergeSort
theorem fA:∀{l:List (List Nat)},(∀s∈l,IsS s)→(ssL l).length=l.length*8
 |[],_=>rfl
 |s::l,h=>by
  have e:ssL (s::l)=us s++ssL l:=rfl
  rw[e,List.length_append,aI,(h s List.mem_cons_self).len,fA (fun x hx=>h x (List.mem_cons_of_mem _ hx)),List.length_cons];omega
theorem CG{l:List (List Nat)}{v:Value}(h:v∈ssL l):∃m:Nat,v= .int .u64 (m:Nat):=by
 obtain⟨s,_,h⟩:=List.mem_flatMap.1 h
 obtain⟨m,_,rfl⟩:=List.mem_map.1 h
 exact⟨m,rfl⟩
def Dd(k1 k2:Nat):Value→Bool
 | .func (.func k) a b=>(Nat.beq k k1||Nat.beq k k2)&&(Nat.beq (bZ a.toList) 0&&Nat.beq (bZ b.toList) 0)
 |_=>false
theorem B8{k1 k2:Nat}{v:Value}(h:Dd k1 k2 v=true):∃k,(k=k1∨k=k2)∧v= .func (.func k) #[] #[]:=by
 unfold Dd at h
 split at h
 ·rename_i k a b
  rw[Bool.and_eq_true,Bool.and_eq_true,Bool.or_eq_true,beq_eq,beq_eq,beq_eq,beq_eq,decide_eq_true_eq,decide_eq_true_eq,decide_eq_true_eq,decide_eq_true_eq,bQ,bQ]at h
  obtain⟨h1,h2,h3⟩:=h
  have ea:a= #[]:=by cases a;simpa using h2
  have eb:b= #[]:=by cases b;simpa using h3
  subst ea;subst eb
  exact⟨k,h1,rfl⟩
 ·cases h
def wj:Nat→List Value→Option (List (List Nat))
 |0,_=>some []
 |n+1,vs=>match mH (cH 8 vs)with
  |some p=>bif Nat.beq (bZ p) 8 then(match wj n (bW 8 vs)with
   |some r=>some (p::r)
   |none=>none)else none
  |none=>none
theorem Ai:∀{n:Nat} {vs:List Value} {l:List (List Nat)},wj n vs=some l→l.length=n∧(∀s∈l,IsS s)∧vs=ssL l++bW (n*8) vs
 |0,vs,l,h=>by
  cases h
  refine⟨rfl,(fun s hs=>by cases hs),?_⟩
  rw[bD,Nat.zero_mul,List.drop_zero];rfl
 |n+1,vs,l,h=>by
  unfold wj at h
  split at h
  ·rename_i p hp
   rw[cond_eq_ite,beq_eq,bQ,Option.ite_none_right_eq_some,decide_eq_true_eq]at h
   obtain⟨hl,h⟩:=h
   split at h
   ·rename_i r hr
    cases h
    obtain⟨e1,e2,e3⟩:=Ai hr
    obtain⟨p1,p2⟩:=pF hp
    refine⟨by rw[List.length_cons,e1],fun s hs=> ?_,?_⟩
    ·rcases List.mem_cons.1 hs with rfl|hs
     ·exact⟨hl,p2⟩
     ·exact e2 s hs
    ·have e:ssL (p::r)=us p++ssL r:=rfl
     rw[cG]at p1
     rw[bD,bD]at e3
     rw[bD,e,←p1,List.append_assoc]
     have e4:vs.drop ((n+1)*8)=(vs.drop 8).drop (n*8):=by rw[List.drop_drop];congr 1;omega
     rw[e4,←e3,List.take_append_drop]
   ·cases h
  ·cases h
theorem Ah:∀{l:List (List Nat)} {t:List Value},(∀s∈l,IsS s)→wj l.length (ssL l++t)=some l
 |[],t,_=>rfl
 |s::l,t,h=>by
  have hs:=h s List.mem_cons_self
  have e:ssL (s::l)++t=us s++(ssL l++t):=by show us s++ssL l++t=_;rw[List.append_assoc]
  have e8:(us s).length=8:=by rw[aI,hs.len]
  have e1:cH 8 (us s++(ssL l++t))=us s:=by rw[cG,←e8,List.take_left]
  have e2:bW 8 (us s++(ssL l++t))=ssL l++t:=by rw[bD,←e8,List.drop_left]
  have e3:Nat.beq (bZ s) 8=true:=by rw[bQ,hs.len];rfl
  rw[e,List.length_cons,wj,e1,uq hs.lt]
  dsimp only
  rw[e3,cond_true,e2,Ah fun y hy=>h y (List.mem_cons_of_mem _ hy)]
def nM(k1 k2:Nat):List Value→Heap→Option (Value×Heap)
 |[.slice none 0 _,f],h=>bif Dd k1 k2 f then some (.tuple #[],h)else none
 |[.slice (some ⟨b,o,none⟩) n _,f],h=>bif Dd k1 k2 f&&(Nat.beq o 0&&Nat.blt n 1000000)then(match h.get b with
  |some (.cells vs true sz)=>match wj n vs with
   |some l=>some (.tuple #[],h.wr h.next b (.cells (ssL (eD l)++bW (n*8) vs) true sz))
   |none=>none
  |_=>none)else none
 |_,_=>none
theorem O2{μ:Mu}{k:Nat}{v:Value}(h:VR μ (.func (.func k) #[] #[]) v):v= .func (.func k) #[] #[]:=by
 cases h with
 |func hf h1 h2 h3 h4=>
  rename_i f' a' c'
  cases hf
  have ea:a'= #[]:=by cases a';simpa using h1.symm
  have ec:c'= #[]:=by cases c';simpa using h3.symm
  rw[ea,ec]
theorem DU{f k1 k2:Nat}{fn:Func}(hf:P.funcs[f]? =some fn)(hn:fn.name≠ "runtime.NumGoroutine")(hb:fn.body.isSome=true)
 (h0:∀(k:Nat) (p:Option Addr) (cap:Nat) (w:World),Calls P f #[.slice p 0 cap, .func (.func k) #[] #[]] w fun e w'=>e= .returned (.tuple #[])∧w'=w)
 (h1:∀(k:Nat),k=k1∨k=k2→∀(blk off cap:Nat) (l:List (List Nat)) (w:World),(∀s∈l,IsS s)→Holds id w blk off (ssL l).toArray→blk<w.heap.size→l.length<4611686018427387904→
   Calls P f #[.slice (some ⟨blk,off,none⟩) l.length cap, .func (.func k) #[] #[]] w fun e w'=>e= .returned (.tuple #[])∧∃n os,w'=Sort.grow (putRow id (Sort.ahead w n) blk off (ssL (eD l)).toArray) os):wE P f (nM k1 k2):=by
 intro args h v h' hp _
 unfold nM at hp
 split at hp
 ·rename_i c g
  rw[cond_eq_ite,Option.ite_none_right_eq_some]at hp
  obtain⟨hg,hp⟩:=hp
  cases hp
  obtain⟨k,hk,rfl⟩:=B8 hg
  refine⟨.refl _ _,fun μ w args' hR ha=> ?_⟩
  obtain⟨x',y',rfl,hx,hy⟩:=ha.two
  obtain rfl:=O2 hy
  cases hx
  exact jK hf hn hb (h0 _ _ _ w) fun e w' ⟨q1,q2⟩=>by subst q1;subst q2;exact⟨μ, .tuple rfl (fun i hi=>absurd hi (by simp)),hR, .refl _ _ _⟩
 ·rename_i b o n c g
  rw[cond_eq_ite,Option.ite_none_right_eq_some,Bool.and_eq_true,Bool.and_eq_true,beq_eq,blt_eq,decide_eq_true_eq,decide_eq_true_eq]at hp
  obtain⟨⟨hg,rfl,hlt⟩,hp⟩:=hp
  obtain⟨kf,hkf,rfl⟩:=B8 hg
  split at hp
  ·rename_i vs sz hbo
   split at hp
   ·rename_i l hxs
    cases hp
    obtain⟨hln,hok,hvs⟩:=Ai hxs
    have hsl:(ssL l).length=n*8:=by rw[fA hok,hln]
    have hok2:∀s∈eD l,IsS s:=fun s hs=>hok s (lZ.1 hs)
    have hsl2:(ssL (eD l)).length=n*8:=by rw[fA hok2,jG,hln]
    have hdl:(bW (n*8) vs).length=vs.length-n*8:=by rw[bD,List.length_drop]
    have hvl:n*8≤vs.length:=by
     have:=congrArg List.length hvs
     rw[List.length_append,hsl]at this;omega
    have hnl:(ssL (eD l)++bW (n*8) vs).length=vs.length:=by rw[List.length_append,hsl2,hdl];omega
    refine⟨AS.wr _ _ _ _,fun μ w args' hR ha=> ?_⟩
    obtain⟨x',y',rfl,hx,hy⟩:=ha.two
    obtain rfl:=O2 hy
    have key:∀k c',μ b=some k→mO P (gj P μ h w (.ret (.tuple #[])) (h.wr h.next b (.cells (ssL (eD l)++bW (n*8) vs) true sz))) ((callFunc f #[.slice (some ⟨k.r,k.d+0,none⟩) n c', .func (.func kf) #[] #[]]).run P w):=fun k c' hk=>by
     obtain⟨hsz,cc,el,fz,g1,g2,g3,g4,g5⟩:=hR.obj b _ hbo k hk
     obtain⟨hd,he,hfz⟩:=g5 rfl
     have gvL:∀(l2:List Value) j,(hj:j<l2.length)→gv l2 j=l2[j]:=fun l2 j hj=>by simp[gv,cM,hj]
     have hat:∀j,(hj:j<(ssL l).length)→cc[k.d+j]? =some (ssL l)[j]:=fun j hj=>by
      obtain⟨v',p1,p2⟩:=g4 j (by omega)
      have e:gv vs j=(ssL l)[j]:=by
       rw[gvL vs j (by omega)]
       have:vs[j]? =(ssL l)[j]? :=by
        conv=>lhs;rw[hvs]
        rw[List.getElem?_append_left hj]
       rw[List.getElem?_eq_getElem (by omega),List.getElem?_eq_getElem hj,Option.some.injEq]at this
       exact this
      rw[e]at p2
      obtain⟨m,hm⟩:=CG (List.getElem_mem hj)
      rw[hm]at p2⊢
      cases p2;exact p1
     have hH:Holds id w k.r (k.d+0) (ssL l).toArray:=fun j hj=>by
      have hj:j<(ssL l).length:=by simpa using hj
      refine⟨?_,?_⟩
      ·rw[cell_of g1,Nat.add_zero,hat j hj];simp[hj]
      ·have:=hfz (k.d+0+j) (by omega)
       simp only[World.frozen?,g1]
       simpa using this
     have hcall:=h1 kf hkf k.r (k.d+0) c' l w hok hH (hR.dom _ _ hk).2 (by omega)
     rw[hln]at hcall
     refine jK hf hn hb hcall fun e w' ⟨q1,m,os,q2⟩=> ?_
     subst q1;subst q2
     obtain⟨r1,s1⟩:=hR.world (w':=Sort.ahead w m) rfl
     have hg:(putRow id (Sort.ahead w m) k.r (k.d+0) (ssL (eD l)).toArray).heap=w.heap.modify k.r (onCells (putCells id (k.d+0) (ssL (eD l)).toArray)):=rfl
     have g1':(putRow id (Sort.ahead w m) k.r (k.d+0) (ssL (eD l)).toArray).heap[k.r]? =some (.cells (putCells id (k.d+0) (ssL (eD l)).toArray cc) el fz):=by
      rw[hg,Array.getElem?_modify,if_pos rfl,g1];rfl
     have hps:(putCells id (k.d+0) (ssL (eD l)).toArray cc).size=cc.size:=by simp[putCells]
     obtain⟨r2,s2⟩:=r1.write (base:=h.next) (b:=b) (o:= .cells vs true sz) (o':= .cells (ssL (eD l)++bW (n*8) vs) true sz) (k:=k) (w':=putRow id (Sort.ahead w m) k.r (k.d+0) (ssL (eD l)).toArray) hbo rfl rfl hk
      (by rw[hg];simp[Sort.ahead]) (fun r hr=>by rw[hg,Array.getElem?_modify,if_neg (Ne.symm hr)];rfl) (.ug g1 g1' (by omega)) (by
        intro k' hk'
        rw[hk]at hk';cases hk'
        refine⟨hsz,_,el,fz,g1',by omega,by omega,fun i hi=> ?_,fun _=>⟨hd,by omega,fun j hj=>hfz j (by omega)⟩⟩
        obtain⟨v',p1,p2⟩:=g4 i (by omega)
        have hgv:gv (ssL (eD l)++bW (n*8) vs) i=(ssL (eD l)++bW (n*8) vs)[i]:=gvL _ i hi
        rw[hgv]
        by_cases hi8:i<n*8
        ·rw[List.getElem_append_left (by omega)]
         obtain⟨q,hq⟩:=CG (List.getElem_mem (show i<(ssL (eD l)).length by omega))
         refine⟨(ssL (eD l))[i],?_,by rw[hq];exact .int _ _⟩
         simp only[putCells,Array.getElem?_mapIdx,p1,z7]
         rw[if_pos ⟨by omega,by simp;omega⟩]
         have:i<(ssL (eD l)).length:=by omega
         simp[this]
        ·refine⟨v',?_,?_⟩
         ·simp only[putCells,Array.getElem?_mapIdx,p1,z7]
          rw[if_neg (fun q=>by simp at q;omega)]
         ·have e:(ssL (eD l)++bW (n*8) vs)[i]? =vs[i]? :=by
           rw[List.getElem?_append_right (by omega),hsl2,bD,List.getElem?_drop]
           congr 1;omega
          rw[List.getElem?_eq_getElem hi,List.getElem?_eq_getElem (by omega),Option.some.injEq]at e
          rw[e,←gvL vs i (by omega)];exact p2)
     obtain⟨r3,s3⟩:=LA os.toList r2
     have e3:Sort.grow (putRow id (Sort.ahead w m) k.r (k.d+0) (ssL (eD l)).toArray) os.toList.toArray=Sort.grow (putRow id (Sort.ahead w m) k.r (k.d+0) (ssL (eD l)).toArray) os:=rfl
     rw[e3]at r3 s3
     exact⟨μ, .tuple rfl (fun i hi=>absurd hi (by simp)),r3,(s1.trans s2 (Nat.le_refl _)).trans s3 (Nat.le_refl _)⟩
    cases hx with
    |slice hk q1 q2=>exact key _ _ hk
    |ek hk q1 q2 q3=>exact key _ _ hk
   ·cases hp
  ·cases hp
 ·cases hp
end Go.A.Pk
end
section
set_option maxRecDepth 100000
namespace Go.A.Pk
variable {T:Nat→Option af}
theorem SsQ.len{h:Heap}{a:Option Addr}{n c:Nat}{l:List (List Nat)}(s:SsQ h (.slice a n c) l):n=l.length:=by
 rcases bK.inv s.sl with⟨_,hv,h0,_⟩|⟨b,o,cap,hv,s1,hc⟩
 ·cases hv;exact h0.symm
 ·cases hv;rfl
def iX(P:List Nat→Bool):List (List Nat)→Nat→Int
 |[],_=> -1
 |r::l,i=>if P r then(i:Int)else iX P l (i+1)
theorem Dh(P:List Nat→Bool){l:List (List Nat)}{i:Nat}{r:List Nat}(hi:l[i]? =some r):iX P (l.drop i) i=if P r then(i:Int)else iX P (l.drop (i+1)) (i+1):=by
 obtain⟨hlt,rfl⟩:=List.getElem?_eq_some_iff.1 hi
 rw[List.drop_eq_getElem_cons hlt,iX]
theorem FM(P:List Nat→Bool)(l:List (List Nat)):iX P (l.drop l.length) l.length= -1:=by rw[List.drop_length];rfl
theorem zu(P:List Nat→Bool):∀(l:List (List Nat)) (i:Nat),decide (0≤iX P l i)=l.any P
 |[],i=>rfl
 |r::l,i=>by
  rw[iX,List.any_cons]
  by_cases h:P r=true
  ·rw[if_pos h,h,decide_eq_true (by omega)];rfl
  ·rw[if_neg h,zu P l (i+1)]
   rw[Bool.not_eq_true]at h
   rw[h,Bool.false_or]
theorem zw(P:List Nat→Bool):∀(l:List (List Nat)) (i:Nat),0≤iX P l i→∃k r,l[k]? =some r∧P r=true∧iX P l i=((i+k:Nat):Int)∧∀x∈l.take k,P x=false
 |[],i,h=>by simp[iX]at h
 |r::l,i,h=>by
  rw[iX]at h⊢
  by_cases hp:P r=true
  ·exact⟨0,r,rfl,hp,by rw[if_pos hp];rfl,fun x hx=>by simp at hx⟩
  ·rw[if_neg hp]at h⊢
   obtain⟨k,q,h1,h2,h3,h4⟩:=zw P l (i+1) h
   refine⟨k+1,q,by simpa using h1,h2,by rw[h3];congr 1;omega,fun x hx=> ?_⟩
   rw[List.take_succ_cons]at hx
   rcases List.mem_cons.1 hx with rfl|hx
   ·simpa using hp
   ·exact h4 x hx
theorem zv(P:List Nat→Bool):∀(l:List (List Nat)) (i:Nat),¬0≤iX P l i→iX P l i= -1∧∀x∈l,P x=false
 |[],i,h=>⟨rfl,fun x hx=>by simp at hx⟩
 |r::l,i,h=>by
  rw[iX]at h⊢
  by_cases hp:P r=true
  ·rw[if_pos hp]at h;omega
  ·rw[if_neg hp]at h⊢
   obtain⟨h1,h2⟩:=zv P l (i+1) h
   refine⟨h1,fun x hx=> ?_⟩
   rcases List.mem_cons.1 hx with rfl|hx
   ·simpa using hp
   ·exact h2 x hx
set_option maxHeartbeats 1000000 in
theorem zx(hp:bt T)(hf:T 257=some f257){h:Heap}(hr:Rdy h){a:Option Addr}{n c:Nat}{l:List (List Nat)}(s:SsQ h (.slice a n c) l)(hn:n<1000000){g:Nat}{cap:List Value}(P:List Nat→Bool)
 (HP:∀r∈l,Pu T g (sv r::cap) h (.bool (P r))):Pu T 257 [.slice a n c, .func (.func g) #[] cap.toArray] h (.int .i64 (iX P l 0)):=by
 refine .of hp hf hr rfl ?_
 obtain rfl:=s.len
 refine y4 ?_;refine yM ?_;refine y3 ?_;refine ah ?_;refine y4 ?_;refine yM ?_;refine yD ?_;refine yM ?_
 refine y3 ?_;refine aK ?_
 refine dG (fun m e ds h'=>∃i:Nat,i≤l.length∧m=l.length-i∧e=[(0, .slice a l.length c),(1, .func (.func g) #[] cap.toArray),(7, .int .i64 (l.length:Nat)),(8, .int .i64 (i:Nat))]∧ds=[]∧h=h'∧iX P l 0=iX P (l.drop i) i)
  ⟨0,Nat.zero_le _,rfl,rfl,rfl,rfl,rfl⟩ ?_
 rintro m e ds _ ⟨i,hin,rfl,rfl,rfl,rfl,hi⟩
 by_cases hlt:i<l.length
 ·obtain⟨r,hri⟩:∃r,l[i]? =some r:=⟨l[i],List.getElem?_eq_getElem hlt⟩
  obtain⟨b,o,c2,vs,own,t,hv,g1,hb,k1⟩:=s.elem hri
  cases hv
  have k2:=bF (s.ok r (List.mem_of_getElem? hri)).len
  have H:=HP r (List.mem_of_getElem? hri)
  rw[Dh P hri]at hi
  refine y4 ?_;refine yt ?_;refine y3 ?_;refine ah ?_;refine yY ?_;refine aH ?_;refine aV ?_;refine ah ?_;refine aK ?_;refine y4 ?_;refine yM ?_;refine yM ?_;refine y3 ?_;refine y4 ?_;refine yM ?_;refine yM ?_;refine yM ?_
  refine yI ?_;refine yV ?_
  refine mM (tf (all:=sv r::cap) (by exact rfl) (by exact rfl) (by exact rfl) (by rw[dD,dD];simp[sv])) ?_
  refine FW.pu (by rw[hr.self];exact H) ?_
  clear H HP
  cases hpr:P r with
  |true=>
   rw[hpr,if_pos rfl]at hi
   rw[hi]
   refine y3 ?_;refine yY ?_;refine y4 ?_;refine yM ?_;refine yM ?_;refine y3 ?_;refine aG ?_;refine mU ?_;refine eW ?_;refine eW ?_;refine mU ?_;refine eW ?_
   exact aD hr.log rfl rfl
  |false=>
   rw[hpr,if_neg (by simp)]at hi
   refine y3 ?_;refine yX ?_;refine aH ?_;refine ff ?_;refine aV ?_;refine aJ ?_;refine ia ?_;refine yM ?_;refine y3 ?_
   exact⟨l.length-(i+1),by omega,i+1,by omega,rfl,rfl,rfl,rfl,hi⟩
 ·obtain rfl:i=l.length:=by omega
  rw[FM]at hi
  rw[hi]
  refine y4 ?_;refine yf ?_;refine y3 ?_;refine ah ?_;refine yX ?_;refine dw ?_;refine dQ ?_;refine dQ ?_;refine iN ?_;refine aV ?_
  refine y4 ?_;refine yM ?_;refine y3 ?_;refine aG ?_
  exact aD hr.log rfl rfl
theorem rT(hp:bt T)(hf:T 196=some f196)(hf2:T 257=some f257){h:Heap}(hr:Rdy h){a:Option Addr}{n c:Nat}{l:List (List Nat)}(s:SsQ h (.slice a n c) l)(hn:n<1000000){g:Nat}{cap:List Value}(P:List Nat→Bool)
 (HP:∀r∈l,Pu T g (sv r::cap) h (.bool (P r))):Pu T 196 [.slice a n c, .func (.func g) #[] cap.toArray] h (.bool (l.any P)):=by
 refine .of hp hf hr rfl ?_
 have C:=zx hp hf2 hr s hn P HP
 rw[←zu P l 0]
 generalize iX P l 0=z at C⊢
 refine y4 ?_;refine yM ?_;refine y3 ?_;refine y4 ?_;refine yM ?_;refine yM ?_
 refine yC ?_
 refine FW.pu (by rw[hr.self];exact C) ?_
 clear C
 have m1:aA .geq (.int .i64 z) (.int .i64 0)=some (.bool (decide (0≤z))):=zH
 refine yW ?_;refine yM ?_;refine y3 ?_;refine aG ?_
 exact aD hr.log rfl rfl
def OwS(lo:Nat)(h:Heap)(v:Value)(l:List (List Nat)):Prop:=
 (v= .slice none 0 0∧l=[])∨∃b c t,lo≤b∧b<h.next∧h.get b=some (.cells (ssL l++t) true 8)∧v= .slice (some ⟨b,0,none⟩) l.length c∧l.length≤c∧(l≠[]→c=UNK)
def vB(v:Value)(z:Nat):Prop:=∃m c,v= .slice (some ⟨z,0,none⟩) m c
theorem OwS.vb{lo:Nat}{h:Heap}{v:Value}{l:List (List Nat)}(q:OwS lo h v l){z:Nat}(hz:vB v z):lo≤z∧z<h.next:=by
 obtain⟨m,c,hz⟩:=hz
 rcases q with⟨rfl,_⟩|⟨b,c,t,h1,h2,h3,rfl,_⟩
 ·cases hz
 ·cases hz
  exact⟨h1,h2⟩
theorem OwS.ss{lo:Nat}{h:Heap}{v:Value}{l:List (List Nat)}(q:OwS lo h v l)(hl:∀s∈l,IsS s):SsQ h v l:=by
 refine⟨?_,hl⟩
 rcases q with⟨rfl,rfl⟩|⟨b,c,t,h1,h2,h3,rfl,h4,h5⟩
 ·exact .nil
 ·refine .mem ⟨h2,⟨_,_,_,h3,?_⟩,fA hl⟩ h4
  rw[cG,bD,List.drop_zero,List.take_append_of_le_length (by rw[fA hl];omega),List.take_of_length_le (by rw[fA hl];omega)]
theorem OwS.keep{lo:Nat}{h h':Heap}{v:Value}{l:List (List Nat)}(q:OwS lo h v l)(hn:h.next≤h'.next)(ha:∀z,lo≤z→z<h.next→h'.get z=h.get z):OwS lo h' v l:=by
 rcases q with q|⟨b,c,t,h1,h2,h3,rfl,h4,h5⟩
 ·exact .inl q
 ·exact .inr ⟨b,c,t,h1,by omega,(ha b h1 h2).trans h3,rfl,h4,h5⟩
theorem OwS.ext{lo:Nat}{h h':Heap}{v:Value}{l:List (List Nat)}(q:OwS lo h v l)(x:Ext h h'):OwS lo h' v l:=q.keep x.next fun z _ hz=>x.old z hz
theorem OwS.log{lo:Nat}{h:Heap}{v:Value}{l:List (List Nat)}(q:OwS lo h v l)(m:List Nat):OwS lo {h with log:=m} v l:=q
theorem OwS.low{lo lo':Nat}{h:Heap}{v:Value}{l:List (List Nat)}(q:OwS lo h v l)(hl:lo'≤lo):OwS lo' h v l:=by
 rcases q with q|⟨b,c,t,h1,h2⟩
 ·exact .inl q
 ·exact .inr ⟨b,c,t,by omega,h2⟩
theorem OwS.flat{lo lo':Nat}{h h':Heap}{v:Value}{l:List (List Nat)}(hv:cB v=true)(q:OwS lo h v l):OwS lo' h' v l:=by
 rcases q with q|⟨b,c,t,h1,h2,h3,rfl,_⟩
 ·exact .inl q
 ·cases hv
theorem OwS.form{lo:Nat}{h:Heap}{v:Value}{l:List (List Nat)}(q:OwS lo h v l):∃a c,v= .slice a l.length c:=by
 rcases q with⟨rfl,rfl⟩|⟨b,c,t,h1,h2,h3,rfl,_⟩
 ·exact⟨none,0,rfl⟩
 ·exact⟨_,c,rfl⟩
theorem Own.owS{lo:Nat}{h:Heap}{v:Value}{l:List (List Nat)}(q:Own lo h 8 v l.length (ssL l))(hn:l.length<4000000):OwS lo h v l:=by
 generalize hm:l.length=n at q
 generalize hc:ssL l=cs at q
 cases q with
 |nil=>exact .inl ⟨rfl,List.length_eq_zero_iff.1 hm⟩
 |full h1 h2 h3 h4 h5=>
  subst hm;subst hc
  exact .inr ⟨_,UNK,[],h1,h2,by rw[List.append_nil];exact h3,rfl,by unfold UNK;omega,fun _=>rfl⟩
theorem sV(a b:List (List Nat)):ssL (a++b)=ssL a++ssL b:=by simp[ssL]
theorem Ak(a:List Nat)(b:List (List Nat)):ssL (a::b)=us a++ssL b:=rfl
theorem Am{l:List (List Nat)}{i:Nat}(h:∀r∈l,IsS r):(ssL l).take (i*8)=ssL (l.take i):=by
 by_cases hi:i≤l.length
 ·have e:l=l.take i++l.drop i:=(List.take_append_drop i l).symm
  have hlen:(ssL (l.take i)).length=i*8:=by rw[fA fun r hr=>h r (List.mem_of_mem_take hr),List.length_take,Nat.min_eq_left hi]
  conv=>lhs;rw[e,sV]
  rw[←hlen,List.take_left]
 ·rw[List.take_of_length_le (by rw[fA h];omega),List.take_of_length_le (by omega)]
theorem Ie{l:List (List Nat)}{i:Nat}(h:∀r∈l,IsS r):(ssL l).drop (i*8)=ssL (l.drop i):=by
 by_cases hi:i≤l.length
 ·have e:l=l.take i++l.drop i:=(List.take_append_drop i l).symm
  have hlen:(ssL (l.take i)).length=i*8:=by rw[fA fun r hr=>h r (List.mem_of_mem_take hr),List.length_take,Nat.min_eq_left hi]
  conv=>lhs;rw[e,sV]
  rw[←hlen,List.drop_left]
 ·rw[List.drop_of_length_le (by rw[fA h];omega),List.drop_of_length_le (by omega)];rfl
theorem yc{l:List (List Nat)}{t:List Value}{i:Nat}{r:List Nat}(h:∀r∈l,IsS r)(hr:IsS r)(hi:i<l.length):cO (ssL l++t) (0+i*8) (us r)=ssL (l.set i r)++t:=by
 have hl:=fA h
 have hu:(us r).length=8:=by rw[aI,hr.len]
 rw[Nat.zero_add,eX (by rw[hu,List.length_append,hl];omega),hu,List.take_append_of_le_length (by omega),List.drop_append_of_le_length (by omega),Am h,show i*8+8=(i+1)*8 by omega,Ie h,List.set_eq_take_append_cons_drop,if_pos hi,sV,Ak]
 simp
theorem oD{l:List (List Nat)}{t:List Value}{i:Nat}{x:List Nat}(h:∀r∈l,IsS r)(hi:l[i]? =some x):cH 8 (bW (0+i*8) (ssL l++t))=us x:=by
 have hlt:=(List.getElem?_eq_some_iff.1 hi).1
 have hl:=fA h
 rw[cG,bD,Nat.zero_add,List.drop_append_of_le_length (by omega),List.take_append_of_le_length (by rw[List.length_drop];omega),CH h hi]
theorem yd{l:List (List Nat)}{t:List Value}{i:Nat}{r:List Nat}(h:∀r∈l,IsS r)(hr:IsS r)(hi:i<l.length):(Nat.beq (bZ (cellsOf (sv r))) 8&&Nat.ble (0+i*8+8) (bZ (ssL l++t))&&dR (cellsOf (sv r)))=true:=by
 have e:cellsOf (sv r)=us r:=by show(us r).toArray.toList=_;simp
 rw[e,bQ,bQ,aI,hr.len,dB,List.length_append,fA h,ij (by omega)];rfl
theorem Fk(hp:bt T)(hf:T 194=some f194){h:Heap}(hr:Rdy h){v:Value}{l:List (List Nat)}(s:SsQ h v l)(hn:l.length<1000000):Al T 194 [v] h fun v h'=>OwS h.next h' v l:=by
 refine .of hp hf hr (fun v h1 hv q=>OwS.flat hv q) ?_
 rcases bK.inv s.sl with⟨c',rfl,h0,_⟩|⟨b,o,cap,rfl,s1,hc⟩
 ·have hl:l=[]:=List.length_eq_zero_iff.1 h0
  subst hl
  refine y4 ?_;refine yM ?_;refine y3 ?_;refine ah ?_;refine y4 ?_;refine yM ?_;refine an (EK (by exact rfl) (by exact rfl) (by exact rfl)) ?_;refine y3 ?_;refine yY ?_;refine y4 ?_;refine yM ?_;refine y3 ?_;refine aG ?_;refine eW ?_
  exact ej hr.log rfl (.inl ⟨rfl,rfl⟩)
 ·have hs:=Ib (s.sl.ext ((Ext.refl h).push (.cells [] true 8)))
  by_cases h0:l.length=0
  ·have hl:l=[]:=List.length_eq_zero_iff.1 h0
   subst hl
   refine y4 ?_;refine yM ?_;refine y3 ?_;refine ah ?_;refine y4 ?_;refine yM ?_;refine an (EK (by exact rfl) (by exact rfl) (by exact rfl)) ?_;refine y3 ?_;refine yX ?_;refine aH ?_;refine aV ?_;refine y4 ?_;refine an (iZ (by exact rfl) (by exact rfl)) ?_;refine yM ?_
   refine an (td (by exact rfl) (by exact rfl) hs (Nat.le_refl _)) ?_
   refine yM ?_;refine y3 ?_;refine aG ?_
   refine ej hr.log rfl (.inr ⟨h.next,_,[],Nat.le_refl _,Nat.lt_succ_self _,?_,rfl,Nat.le_refl _,fun q=>absurd rfl q⟩)
   (simp(disch:=first|omega|(simp only[z1,z2];omega))only[z3,z4,z5,z6,z7,z1,z2];exact rfl)
  ·refine y4 ?_;refine yM ?_;refine y3 ?_;refine ah ?_;refine y4 ?_;refine yM ?_;refine an (EK (by exact rfl) (by exact rfl) (by exact rfl)) ?_;refine y3 ?_;refine yX ?_;refine aH ?_;refine aV ?_;refine y4 ?_;refine an (iZ (by exact rfl) (by exact rfl)) ?_;refine yM ?_
   refine an (oP (c:=0) (len:=0) (by exact rfl) (by exact rfl) hs h0 (by omega) (by decide) (z3 h _) (by exact Nat.le_refl _) (by omega) (by exact rfl)) ?_
   refine yM ?_;refine y3 ?_;refine aG ?_
   refine ej hr.log rfl (.inr ⟨h.next+1,UNK,[],Nat.le_succ _,Nat.lt_succ_self _,?_,?_,by unfold UNK;omega,fun _=>rfl⟩)
   ·rw[List.append_nil];(simp(disch:=first|omega|(simp only[z1,z2];omega)|(simp only[z1,z2];done)|fail)only[z8,z4,z5,z9,z7,z1,z2];exact rfl)
   ·rw[Nat.zero_add];rfl
theorem uQ{l:List (List Nat)}{i:Nat}{r:List Nat}(hi:l[i]? =some r)(Q:List Nat→Bool):(l.take (i+1)).filter Q=(l.take i).filter Q++(if Q r then [r]else []):=by
 obtain⟨hlt,rfl⟩:=List.getElem?_eq_some_iff.1 hi
 rw[List.take_succ_eq_append_getElem hlt,List.filter_append]
 congr 1
 by_cases hq:Q l[i]=true
 ·simp[hq]
 ·simp[hq]
theorem wh{l:List (List Nat)}{i:Nat}{r:List Nat}(hi:i<l.length):(l.set i r).take (i+1)=l.take i++[r]:=by
 apply List.ext_getElem?
 intro k
 by_cases hk:k<i
 ·rw[List.getElem?_take_of_lt (by omega),List.getElem?_set_ne (by omega),List.getElem?_append_left (by rw[List.length_take];omega),List.getElem?_take_of_lt hk]
 ·by_cases hk2:k=i
  ·subst hk2
   rw[List.getElem?_take_of_lt (by omega),List.getElem?_set_self hi,List.getElem?_append_right (by rw[List.length_take];omega),List.length_take,Nat.min_eq_left (by omega),Nat.sub_self];rfl
  ·rw[List.getElem?_eq_none (by rw[List.length_take,List.length_set];omega),List.getElem?_eq_none (by rw[List.length_append,List.length_take,List.length_singleton];omega)]
theorem wg{l:List (List Nat)}{i j:Nat}{r:List Nat}(hi:i<j):(l.set i r).drop j=l.drop j:=by
 apply List.ext_getElem?
 intro k
 rw[List.getElem?_drop,List.getElem?_drop,List.getElem?_set_ne (by omega)]
def zS:List Value:=aT 8 (.int .u64 0)
theorem yj:∀n,dR (eE n zS)=true
 |0=>rfl
 |n+1=>by
  show dR (dI zS (eE n zS))=true
  rw[dD]
  exact kH rfl (yj n)
theorem uP{l D:List (List Nat)}{t ws:List Value}{i:Nat}(hl:∀r∈l,IsS r)(hi:i≤l.length)(hD:l.take i=D)(hw:cO (ssL l++t) (0+i*8) (eE (l.length-i) zS)=ws):∃t',ws=ssL D++t':=by
 have hz:(eE (l.length-i) zS).length=(l.length-i)*8:=by rw[jR];rfl
 have hll:=fA hl
 rw[←hw,eX (by rw[hz,List.length_append,hll];omega),Nat.zero_add,List.take_append_of_le_length (by omega),Am hl,hD,List.append_assoc]
 exact⟨_,rfl⟩
set_option maxHeartbeats 4000000 in
theorem C9(hp:bt T)(hf:T 193=some f193)(hf2:T 257=some f257){h:Heap}(hr:Rdy h){lo:Nat}{l:List (List Nat)}{v:Value}(q:OwS lo h v l)(hl:∀r∈l,IsS r)(hn:l.length<1000000){g:Nat}{cap:List Value}(P:List Nat→Bool)
 (HP:∀h':Heap,WF h'→h.next≤h'.next→(∀z,z<lo→h'.get z=h.get z)→∀r,IsS r→Pu T g (sv r::cap) {h' with log:=[]} (.bool (P r))):
 Gs T 193 [v, .func (.func g) #[] cap.toArray] h (vB v) (fun v h'=>OwS lo h' v (l.filter fun r=> !P r)):=by
 have sR:=q.ss hl
 obtain⟨a,c,rfl⟩:=q.form
 refine .of hp hf ?_ ?_
 ·intro v h1 h2 hv hn2 hag hq
  exact OwS.flat hv hq
 have C:=zx hp hf2 hr sR hn P (fun r hR=>by
  have:=HP h hr.wf (Nat.le_refl _) (fun _ _=>rfl) r (hl r hR)
  rwa [hr.self]at this)
 refine y4 ?_;refine yM ?_;refine y3 ?_;refine y4 ?_;refine yM ?_;refine yM ?_
 refine yC ?_
 refine FW.pu (by rw[hr.self];exact C) ?_
 clear C
 by_cases hi:0≤iX P l 0
 ·obtain⟨k,rk,h1,h2,h3,h4⟩:=zw P l 0 hi
  rw[Nat.zero_add]at h3
  rw[h3]
  have hkl:k<l.length:=(List.getElem?_eq_some_iff.1 h1).1
  rcases q with⟨_,rfl⟩|⟨b,c',tl,hb1,hb2,hb3,hv,hcl,hcu⟩
  ·simp at hkl
  ·cases hv
   obtain rfl:=hcu (fun q=>by rw[q]at hkl;simp at hkl)
   have m1:aA .eql (.int .i64 (k:Nat)) (.int .i64 (-1))=some (.bool false):=pn (by omega)
   refine yM ?_;refine y3 ?_;refine ah ?_;refine y4 ?_;refine yM ?_;refine yW ?_;refine y3 ?_;refine yX ?_;refine aH ?_;refine aV ?_;refine ah ?_;refine y4 ?_;refine yM ?_;refine ia ?_
   refine yM ?_;refine y3 ?_;refine aK ?_
   refine dG (fun mm e ds h'=>∃(j i:Nat) (m:List (List Nat)),j≤l.length∧i<j∧mm=l.length-j∧e=[(0, .slice (some ⟨b,0,none⟩) l.length UNK),(1, .func (.func g) #[] cap.toArray),(5, .int .i64 (i:Nat)),(6, .int .i64 (j:Nat))]∧ds=[]∧
    WF h'∧h.next≤h'.next∧(∀z,z<lo→h'.get z=h.get z)∧(∀z∈h'.log,vB (.slice (some ⟨b,0,none⟩) l.length UNK) z)∧h'.get b=some (.cells (ssL m++tl) true 8)∧m.length=l.length∧(∀r∈m,IsS r)∧m.take i=(l.take j).filter (fun r=> !P r)∧m.drop j=l.drop j)
    ⟨k+1,k,l,hkl,Nat.lt_succ_self _,rfl,rfl,rfl,hr.wf,Nat.le_refl _,fun _ _=>rfl,(by rw[hr.log];intro z hz;cases hz),hb3,rfl,hl,?_,rfl⟩ ?_
   ·rw[uQ h1,h2]
    simp only[Bool.not_true,Bool.false_eq_true,if_false,List.append_nil]
    exact(List.filter_eq_self.2 (fun x hx=>by rw[h4 x hx];rfl)).symm
   rintro mm e ds H ⟨j,i,m,hj,hij,rfl,rfl,rfl,hw,hnx,hold,hlg,gb,hm,hmR,htk,hdr⟩
   have hbn:b<H.next:=WF.ef hw gb
   by_cases hlt:j<l.length
   ·obtain⟨r,hr1⟩:∃r,l[j]? =some r:=⟨l[j],List.getElem?_eq_getElem hlt⟩
    have hmj:m[j]? =some r:=by
     have e1:(m.drop j)[0]? =(l.drop j)[0]? :=by rw[hdr]
     rw[List.getElem?_drop,List.getElem?_drop]at e1
     exact e1.trans hr1
    have hrR:=hmR r (List.mem_of_getElem? hmj)
    have ra0:=oD (t:=tl) hmR hmj
    have rl:=bF hrR.len
    have rk8:=cD hrR.len
    have rln:=hrR.len
    refine ah ?_;refine y4 ?_;refine yM ?_;refine yM ?_;refine yD ?_;refine yt ?_;refine y3 ?_
    refine yY ?_;refine aH ?_;refine aV ?_;refine ah ?_;refine aK ?_;refine y4 ?_;refine yM ?_;refine yM ?_;refine yI ?_;refine yV ?_
    refine an (dL) ?_;refine an (dg (by exact rfl) (by exact rfl) (by(simp(disch:=first|omega|(simp only[z1,z2];omega))only[z3,z4,z5,z6,z7,z1,z2,hb3,gb];exact rfl)) (by(simp only[aI];assumption)) (by exact rfl) (by exact dB _)) ?_
    refine y3 ?_;refine y4 ?_;refine yM ?_
    refine an (ct (by exact rfl) (by(simp(disch:=first|omega|(simp only[z1,z2];omega))only[z3,z4,z5,z6,z7,z1,z2,hb3,gb];exact rfl)) (by assumption) (by assumption)) ?_
    have W2:WF (((H.push (.cells (aT 8 (.int .u64 0)) true 1)).wr h.next H.next (.cells (us r) true 1))):=(hw.push (.cells (aT 8 (.int .u64 0)) true 1)).as (AS.wr h.next _ _ _)
    have HPr:=HP _ W2 (show h.next≤H.next+1 by omega) (fun z hz=>by
     rw[z5 (by omega),z4 (by omega)];exact hold z hz) r hrR
    refine mM (tf (all:=sv r::cap) (by exact rfl) (by exact rfl) (by exact rfl) (by rw[dD,dD];simp[sv])) ?_
    refine FW.pu HPr ?_
    clear HPr
    have hlg2:∀z∈(((H.push (.cells (aT 8 (.int .u64 0)) true 1)).wr h.next H.next (.cells (us r) true 1))).log,vB (.slice (some ⟨b,0,none⟩) l.length UNK) z:=by
     rw[Heap.aN hnx];exact hlg
    have gb2:(((H.push (.cells (aT 8 (.int .u64 0)) true 1)).wr h.next H.next (.cells (us r) true 1))).get b=some (.cells (ssL m++tl) true 8):=by
     rw[z5 (by omega),z4 hbn];exact gb
    have gn2:(((H.push (.cells (aT 8 (.int .u64 0)) true 1)).wr h.next H.next (.cells (us r) true 1))).get H.next=some (.cells (us r) true 1):=by
     rw[z6,z3];rfl
    have hold2:∀z,z<lo→(((H.push (.cells (aT 8 (.int .u64 0)) true 1)).wr h.next H.next (.cells (us r) true 1))).get z=h.get z:=fun z hz=>by
     rw[z5 (by omega),z4 (by omega)];exact hold z hz
    have hnx2:(((H.push (.cells (aT 8 (.int .u64 0)) true 1)).wr h.next H.next (.cells (us r) true 1))).next=H.next+1:=rfl
    generalize(((H.push (.cells (aT 8 (.int .u64 0)) true 1)).wr h.next H.next (.cells (us r) true 1)))=H2 at*
    cases hp:P r with
    |true=>
     refine yA ?_;refine y3 ?_;refine yX ?_;refine aH ?_;refine ff ?_;refine aV ?_;refine aJ ?_;refine yM ?_
     refine ia ?_;refine yM ?_;refine y3 ?_
     refine⟨l.length-(j+1),by omega,j+1,i,m,by omega,by omega,rfl,rfl,rfl,W2,by omega,hold2,hlg2,gb2,hm,hmR,?_,?_⟩
     ·rw[uQ hr1,hp,htk];simp
     ·rw[←List.drop_drop,←List.drop_drop,hdr]
    |false=>
     have kc:=yd (t:=tl) hmR hrR (i:=i) (by omega)
     have kw:cO (ssL m++tl) (0+i*8) (cellsOf (sv r))=ssL (m.set i r)++tl:=by
      have e:cellsOf (sv r)=us r:=by show(us r).toArray.toList=_;simp
      rw[e,yc hmR hrR (by omega)]
     refine yA ?_;refine y3 ?_;refine yY ?_;refine y4 ?_;refine yM ?_;refine yM ?_
     refine yV ?_;refine yI ?_
     refine an (ja (by exact rfl) (by exact rfl) gb2 kc kw) ?_
     refine y3 ?_;refine aJ ?_;refine yM ?_;refine ia ?_;refine yM ?_;refine dN ?_
     refine y1 ?_;refine ff ?_;refine aV ?_;refine aJ ?_;refine yM ?_;refine ia ?_;refine yM ?_;refine y3 ?_
     refine⟨l.length-(j+1),by omega,j+1,i+1,m.set i r,by omega,by omega,rfl,rfl,rfl,W2.as (AS.wr h.next _ _ _),(by show h.next≤H2.next;omega),?_,uX hlg2 ⟨_,_,rfl⟩,?_,by rw[List.length_set];exact hm,?_,?_,?_⟩
     ·intro z hz
      rw[z5 (by omega)];exact hold2 z hz
     ·rw[z6,gb2];rfl
     ·intro x hx
      rcases List.mem_or_eq_of_mem_set hx with hx|rfl
      ·exact hmR x hx
      ·exact hrR
     ·rw[wh (by omega),uQ hr1,hp,htk];simp
     ·rw[wg (by omega),←List.drop_drop,←List.drop_drop,hdr]
   ·obtain rfl:j=l.length:=by omega
    rw[List.take_length]at htk
    have hz:(eE (l.length-i) zS).length=(l.length-i)*8:=by rw[jR];rfl
    have hle:i≤l.length:=by omega
    have hml:=fA hmR
    refine ah ?_;refine y4 ?_;refine yM ?_;refine yM ?_;refine yD ?_;refine yf ?_;refine y3 ?_
    refine yX ?_;refine dw ?_;refine dQ ?_;refine dQ ?_;refine iN ?_;refine aV ?_;refine y4 ?_;refine yM ?_;refine yM ?_;refine an (oR (by exact rfl) (by exact rfl) (by assumption) (by omega)) ?_
    refine an (BR (z:=zS) (by exact rfl) (by omega) gb (by rw[hz,List.length_append,hml];omega) (by exact yj _) rfl) ?_
    refine y3 ?_;refine y4 ?_;refine yM ?_;refine yM ?_
    refine an (th (by exact rfl) (by exact rfl) (by(simp(disch:=first|omega|(simp only[z1,z2];omega))only[z3,z4,z5,z6,z7,z1,z2,hb3,gb];exact rfl)) (by omega) (by omega)) ?_;refine yM ?_;refine y3 ?_;refine aG ?_
    refine jd (uX hlg ⟨_,_,rfl⟩) rfl ?_
    have hi2:(l.filter fun r=> !P r).length=i:=by
     rw[←htk,List.length_take];omega
    obtain⟨t',ht'⟩:=uP (t:=tl) (i:=i) (ws:=cO (ssL m++tl) (0+i*8) (eE (l.length-i) zS)) hmR (by omega) htk (by rw[hm])
    refine .inr ⟨b,UNK,t',hb1,hbn,?_,?_,by unfold UNK;omega,fun _=>rfl⟩
    ·rw[z6,gb,z7,ht']
    ·rw[hi2];rfl
 ·obtain⟨h1,h2⟩:=zv P l 0 hi
  rw[h1]
  refine yM ?_;refine y3 ?_;refine ah ?_;refine y4 ?_;refine yM ?_;refine yt ?_;refine y3 ?_;refine yY ?_;refine y4 ?_;refine yM ?_;refine yM ?_;refine y3 ?_;refine aG ?_;refine eW ?_
  refine jd (by rw[hr.log];intro z hz;cases hz) rfl ?_
  show OwS lo h (.slice a l.length c) _
  rw[List.filter_eq_self.2 (fun x hx=>by rw[h2 x hx];rfl)]
  exact q
def ddS:List (List Nat)→List (List Nat)
 |a::b::l=>if a=b then ddS (b::l)else a::ddS (b::l)
 |l=>l
theorem tF:∀(l:List (List Nat)) (y x:List Nat),ddS (l++[y,x])=if y=x then ddS (l++[y])else ddS (l++[y])++[x]
 |[],y,x=>by
  show(if y=x then [x]else y::[x])=if y=x then [y]else [y]++[x]
  by_cases h:y=x
  ·rw[if_pos h,if_pos h,h]
  ·rw[if_neg h,if_neg h];rfl
 |[a],y,x=>by
  have ih:=tF [] y x
  simp only[List.nil_append]at ih
  show(if a=y then ddS (y::[x])else a::ddS (y::[x]))=_
  have e:ddS ([a]++[y])=if a=y then ddS [y]else a::ddS [y]:=rfl
  rw[e,ih]
  by_cases h:a=y
  ·simp only[if_pos h]
  ·simp only[if_neg h]
   by_cases h2:y=x
   ·simp only[if_pos h2]
   ·simp only[if_neg h2];rfl
 |a::b::l,y,x=>by
  have ih:=tF (b::l) y x
  show(if a=b then ddS (b::l++[y,x])else a::ddS (b::l++[y,x]))=_
  have e:ddS (a::b::l++[y])=if a=b then ddS (b::l++[y])else a::ddS (b::l++[y]):=rfl
  rw[e,ih]
  by_cases h:a=b
  ·simp only[if_pos h]
  ·simp only[if_neg h]
   by_cases h2:y=x
   ·simp only[if_pos h2]
   ·simp only[if_neg h2];rfl
theorem y6{l:List (List Nat)}{k:Nat}{y x:List Nat}(hy:l[k]? =some y)(hx:l[k+1]? =some x):ddS (l.take (k+1+1))=if y=x then ddS (l.take (k+1))else ddS (l.take (k+1))++[x]:=by
 rw[iW hx,iW hy,List.append_assoc]
 exact tF _ y x
theorem sM:∀{l:List (List Nat)} {x:List Nat},x∈ddS l→x∈l
 |[],_,h=>h
 |[a],_,h=>h
 |a::b::l,x,h=>by
  unfold ddS at h
  by_cases e:a=b
  ·rw[if_pos e]at h;exact List.mem_cons_of_mem _ (sM h)
  ·rw[if_neg e]at h
   rcases List.mem_cons.1 h with rfl|h
   ·exact List.mem_cons_self
   ·exact List.mem_cons_of_mem _ (sM h)
theorem vE{m l:List (List Nat)}{n:Nat}(h:m.drop n=l.drop n):m.drop (n+1)=l.drop (n+1):=by
 have:=congrArg (List.drop 1) h
 rwa [List.drop_drop,List.drop_drop]at this
theorem wH:∀l:List (List Nat),(ddS l).length≤l.length
 |[]=>Nat.le_refl _
 |[a]=>Nat.le_refl _
 |a::b::l=>by
  have ih:=wH (b::l)
  unfold ddS
  by_cases e:a=b
  ·rw[if_pos e];exact Nat.le_succ_of_le ih
  ·rw[if_neg e];exact Nat.succ_le_succ ih
set_option maxHeartbeats 8000000 in
theorem tD(hp:bt T)(hf:T 192=some f192){h:Heap}(hr:Rdy h){lo:Nat}{l:List (List Nat)}{v:Value}(q:OwS lo h v l)(hl:∀r∈l,IsS r)(hn:l.length<1000000):
 Gs T 192 [v] h (vB v) (fun v h'=>OwS lo h' v (ddS l)):=by
 obtain⟨a,c,rfl⟩:=q.form
 refine .of hp hf ?_ ?_
 ·intro v h1 h2 hv hn2 hag hq
  exact OwS.flat hv hq
 by_cases h2:l.length<2
 ·have e:ddS l=l:=by
   match l,h2 with
   |[],_=>rfl
   |[_],_=>rfl
  rw[e]
  have m1:aA .lss (.int .i64 (l.length:Nat)) (.int .i64 2)=some (.bool true):=jg (by omega)
  refine y4 ?_;refine yM ?_;refine y3 ?_;refine ah ?_;refine y4 ?_;refine yM ?_;refine yD ?_
  refine yW ?_;refine y3 ?_;refine yY ?_;refine y4 ?_;refine yM ?_;refine yM ?_;refine y3 ?_;refine aG ?_;refine eW ?_
  exact jd (by rw[hr.log];intro z hz;cases hz) rfl q
 have m0:aA .lss (.int .i64 (l.length:Nat)) (.int .i64 2)=some (.bool false):=jD (by omega)
 rcases q with⟨_,rfl⟩|⟨b,c',tl,hb1,hb2,hb3,hv,hcl,hcu⟩
 ·exact absurd (show([]:List (List Nat)).length<2 by decide) h2
 cases hv
 obtain rfl:=hcu (fun q=>by rw[q]at h2;simp at h2)
 refine y4 ?_;refine yM ?_;refine y3 ?_;refine ah ?_;refine y4 ?_;refine yM ?_;refine yD ?_
 refine yW ?_;refine y3 ?_;refine yX ?_;refine aH ?_;refine aV ?_;refine ah ?_;refine y4 ?_;refine yM ?_
 refine y3 ?_;refine aK ?_
 refine dG (fun mm e ds h'=>∃k:Nat,k+1≤l.length∧l.length-(k+1)=mm∧e=[(0, .slice (some ⟨b,0,none⟩) l.length UNK),(3, .int .i64 ((k+1:Nat):Int))]∧ds=[]∧h=h'∧ddS (l.take (k+1))=l.take (k+1))
  ⟨0,by omega,rfl,rfl,rfl,rfl,?_⟩ ?_
 ·cases l with
  |nil=>rfl
  |cons a l=>rfl
 rintro mm e ds _ ⟨k,hk,rfl,rfl,rfl,rfl,hdd⟩
 by_cases hlt:k+1<l.length
 ·obtain⟨x,hx⟩:∃r,l[k+1]? =some r:=⟨l[k+1],List.getElem?_eq_getElem hlt⟩
  obtain⟨y,hy⟩:∃r,l[k]? =some r:=⟨l[k],List.getElem?_eq_getElem (by omega)⟩
  have hxs:=hl x (List.mem_of_getElem? hx)
  have hys:=hl y (List.mem_of_getElem? hy)
  have hst:=y6 hy hx
  have rx:=oD (t:=tl) hl hx
  have ry:=oD (t:=tl) hl hy
  have kx:=bF hxs.len
  have ky:=bF hys.len
  have mlt:aA .lss (.int .i64 ((k+1:Nat):Int)) (.int .i64 (l.length:Nat))=some (.bool true):=jg (by omega)
  have msb:aA .sub (.int .i64 ((k+1:Nat):Int)) (.int .i64 1)=some (.int .i64 ((k:Nat):Int)):=nF (by rw[cQ]<;>omega)
  by_cases hxy:y=x
  ·rw[if_pos hxy,hdd]at hst
   refine ah ?_;refine y4 ?_;refine yM ?_;refine yM ?_;refine yD ?_;refine yW ?_;refine y3 ?_
   refine yY ?_;refine aH ?_;refine aV ?_;refine ah ?_;refine aK ?_;refine ah ?_;refine cV ?_;refine qM ?_;refine qM ?_
   refine qI ?_;refine qV ?_;refine qM ?_
   refine qM ?_;refine qW ?_;refine qI ?_
   refine qV ?_
   refine aM rfl rfl rfl (by exact rfl) (by exact rfl) (by exact rfl) (mP (b:=y) (by exact rfl) (by exact rfl) hxs.len hys.len) ?_
   rw[decide_eq_true hxy.symm]
   refine dy ?_;refine y1 ?_;refine aV ?_;refine yY ?_;refine y4 ?_;refine yM ?_;refine yM ?_;refine an (oR (by exact rfl) (by exact rfl) (by assumption) (by omega)) ?_
   refine yM ?_;refine y3 ?_;refine ah ?_;refine y4 ?_;refine yM ?_;refine y3 ?_;refine aK ?_
   refine dG (fun mm e ds h'=>∃(k2 i:Nat) (m:List (List Nat)),k2+1≤l.length-(k+1)∧l.length-(k+1)-(k2+1)=mm∧e=[(0, .slice (some ⟨b,0,none⟩) l.length UNK),(3, .int .i64 (i:Nat)),(4, .slice (some ⟨b,0+(k+1)*8,none⟩) (l.length-(k+1)) UNK),(5, .int .i64 ((k2+1:Nat):Int))]∧ds=[]∧
    WF h'∧h.next≤h'.next∧(∀z,z<lo→h'.get z=h.get z)∧(∀z∈h'.log,vB (.slice (some ⟨b,0,none⟩) l.length UNK) z)∧h'.get b=some (.cells (ssL m++tl) true 8)∧m.length=l.length∧(∀r∈m,IsS r)∧i≤k+1+k2∧m.take i=ddS (l.take (k+1+k2+1))∧m.drop (k+1+k2)=l.drop (k+1+k2))
    ⟨0,k+1,l,by omega,rfl,rfl,rfl,hr.wf,Nat.le_refl _,fun _ _=>rfl,(by rw[hr.log];intro z hz;cases hz),hb3,rfl,hl,Nat.le_refl _,hst.symm,rfl⟩ ?_
   rintro mm e ds H ⟨k2,i,m,hk2,rfl,rfl,rfl,hw,hnx,hold,hlg,gb,hm,hmR,hik,htk,hdr⟩
   have hbn:b<H.next:=WF.ef hw gb
   clear hx hy hxs hys hst rx ry kx ky mlt msb hxy
   by_cases hlt2:k2+1<l.length-(k+1)
   ·obtain⟨x',hx'⟩:∃r,l[k+1+k2+1]? =some r:=⟨l[k+1+k2+1],List.getElem?_eq_getElem (by omega)⟩
    obtain⟨y',hy'⟩:∃r,l[k+1+k2]? =some r:=⟨l[k+1+k2],List.getElem?_eq_getElem (by omega)⟩
    have mx:m[k+1+k2+1]? =some x':=by
     have e1:(m.drop (k+1+k2))[1]? =(l.drop (k+1+k2))[1]? :=by rw[hdr]
     rw[List.getElem?_drop,List.getElem?_drop]at e1
     exact e1.trans hx'
    have my:m[k+1+k2]? =some y':=by
     have e1:(m.drop (k+1+k2))[0]? =(l.drop (k+1+k2))[0]? :=by rw[hdr]
     rw[List.getElem?_drop,List.getElem?_drop]at e1
     exact e1.trans hy'
    have hxs:=hmR x' (List.mem_of_getElem? mx)
    have hys:=hmR y' (List.mem_of_getElem? my)
    have hst:=y6 hy' hx'
    have rx:=oD (t:=tl) hmR mx
    have ry:=oD (t:=tl) hmR my
    rw[show 0+(k+1+k2+1)*8=0+(k+1)*8+(k2+1)*8 by omega]at rx
    rw[show 0+(k+1+k2)*8=0+(k+1)*8+k2*8 by omega]at ry
    have kx:=bF hxs.len
    have ky:=bF hys.len
    have mlt:aA .lss (.int .i64 ((k2+1:Nat):Int)) (.int .i64 ((l.length-(k+1):Nat):Int))=some (.bool true):=jg (by omega)
    have msb:aA .sub (.int .i64 ((k2+1:Nat):Int)) (.int .i64 1)=some (.int .i64 ((k2:Nat):Int)):=nF (by rw[cQ]<;>omega)
    by_cases hxy:y'=x'
    ·rw[if_pos hxy]at hst
     refine ah ?_;refine y4 ?_;refine yM ?_;refine yM ?_;refine yD ?_;refine yW ?_;refine y3 ?_
     refine yY ?_;refine aH ?_;refine aV ?_;refine ah ?_;refine aK ?_;refine ah ?_;refine cV ?_;refine qM ?_;refine qM ?_
     refine qI ?_;refine qV ?_;refine qM ?_
     refine qM ?_;refine qW ?_;refine qI ?_
     refine qV ?_
     refine aM rfl rfl rfl (by exact rfl) (by exact rfl) (by exact rfl) (mP (b:=y') (by exact rfl) (by exact rfl) hxs.len hys.len) ?_
     rw[decide_eq_true hxy.symm]
     refine dy ?_;refine y1 ?_;refine aV ?_;refine yX ?_;refine aH ?_;refine ff ?_;refine aV ?_;refine aJ ?_;refine yM ?_;refine ia ?_
     refine yM ?_;refine y3 ?_
     exact⟨l.length-(k+1)-(k2+1+1),by omega,k2+1,i,m,by omega,rfl,rfl,rfl,hw,hnx,hold,hlg,gb,hm,hmR,by omega,by rw[htk,←hst];rfl,vE hdr⟩
    ·rw[if_neg hxy]at hst
     have kc:=yd (t:=tl) hmR hxs (i:=i) (by omega)
     have kw:cO (ssL m++tl) (0+i*8) (cellsOf (sv x'))=ssL (m.set i x')++tl:=by
      have e:cellsOf (sv x')=us x':=by show(us x').toArray.toList=_;simp
      rw[e,yc hmR hxs (by omega)]
     refine ah ?_;refine y4 ?_;refine yM ?_;refine yM ?_;refine yD ?_;refine yW ?_;refine y3 ?_
     refine yY ?_;refine aH ?_;refine aV ?_;refine ah ?_;refine aK ?_;refine ah ?_;refine cV ?_;refine qM ?_;refine qM ?_
     refine qI ?_;refine qV ?_;refine qM ?_
     refine qM ?_;refine qW ?_;refine qI ?_
     refine qV ?_
     refine aM rfl rfl rfl (by exact rfl) (by exact rfl) (by exact rfl) (mP (b:=y') (by exact rfl) (by exact rfl) hxs.len hys.len) ?_
     rw[decide_eq_false (Ne.symm hxy)]
     refine dy ?_;refine y1 ?_;refine aV ?_;refine yY ?_;refine y4 ?_;refine yM ?_;refine yM ?_;refine yM ?_;refine yM ?_
     refine yI ?_;refine yV ?_;refine yI ?_
     refine an (ja (by exact rfl) (by exact rfl) gb kc kw) ?_
     refine y3 ?_;refine aJ ?_;refine yM ?_;refine ia ?_;refine yM ?_;refine dN ?_
     refine y1 ?_;refine ff ?_;refine aV ?_;refine aJ ?_;refine yM ?_;refine ia ?_;refine yM ?_;refine y3 ?_
     refine⟨l.length-(k+1)-(k2+1+1),by omega,k2+1,i+1,m.set i x',by omega,rfl,rfl,rfl,hw.as (AS.wr h.next _ _ _),hnx,?_,uX hlg ⟨_,_,rfl⟩,?_,by rw[List.length_set];exact hm,?_,by omega,?_,?_⟩
     ·intro z hz
      rw[z5 (by omega)];exact hold z hz
     ·rw[z6,gb];rfl
     ·intro r hx
      rcases List.mem_or_eq_of_mem_set hx with hx|rfl
      ·exact hmR r hx
      ·exact hxs
     ·rw[wh (by omega),htk,←Nat.add_assoc,hst]
     ·rw[wg (by omega)];exact vE hdr
   ·have hkl:k+1+k2+1=l.length:=by omega
    rw[hkl,List.take_length]at htk
    have mlt:aA .lss (.int .i64 ((k2+1:Nat):Int)) (.int .i64 ((l.length-(k+1):Nat):Int))=some (.bool false):=jD (by omega)
    have hz:(eE (l.length-i) zS).length=(l.length-i)*8:=by rw[jR];rfl
    have hml:=fA hmR
    refine ah ?_;refine y4 ?_;refine yM ?_;refine yM ?_;refine yD ?_;refine yW ?_;refine y3 ?_
    refine yX ?_;refine dw ?_;refine dQ ?_;refine dQ ?_;refine iN ?_;refine aV ?_;refine y4 ?_;refine yM ?_;refine yM ?_;refine an (oR (by exact rfl) (by exact rfl) (by assumption) (by omega)) ?_
    refine an (BR (z:=zS) (by exact rfl) (by omega) gb (by rw[hz,List.length_append,hml];omega) (by exact yj _) rfl) ?_
    refine y3 ?_;refine y4 ?_;refine yM ?_;refine yM ?_
    refine an (th (by exact rfl) (by exact rfl) (by(simp(disch:=first|omega|(simp only[z1,z2];omega))only[z3,z4,z5,z6,z7,z1,z2,hb3,gb];exact rfl)) (by omega) (by omega)) ?_;refine yM ?_;refine y3 ?_;refine aG ?_;refine mU ?_;refine eW ?_;refine eW ?_;refine mU ?_;refine eW ?_
    refine jd (uX hlg ⟨_,_,rfl⟩) rfl ?_
    have hi2:(ddS l).length=i:=by
     rw[←htk,List.length_take];omega
    obtain⟨t',ht'⟩:=uP (t:=tl) (i:=i) (ws:=cO (ssL m++tl) (0+i*8) (eE (l.length-i) zS)) hmR (by omega) htk (by rw[hm])
    refine .inr ⟨b,UNK,t',hb1,hbn,?_,?_,by unfold UNK;omega,fun _=>rfl⟩
    ·rw[z6,gb,z7,ht']
    ·rw[hi2];rfl
  ·rw[if_neg hxy,hdd,←iW hx]at hst
   refine ah ?_;refine y4 ?_;refine yM ?_;refine yM ?_;refine yD ?_;refine yW ?_;refine y3 ?_
   refine yY ?_;refine aH ?_;refine aV ?_;refine ah ?_;refine aK ?_;refine ah ?_;refine cV ?_;refine qM ?_;refine qM ?_
   refine qI ?_;refine qV ?_;refine qM ?_
   refine qM ?_;refine qW ?_;refine qI ?_
   refine qV ?_
   refine aM rfl rfl rfl (by exact rfl) (by exact rfl) (by exact rfl) (mP (b:=y) (by exact rfl) (by exact rfl) hxs.len hys.len) ?_
   rw[decide_eq_false (Ne.symm hxy)]
   refine dy ?_;refine y1 ?_;refine aV ?_;refine yX ?_;refine aH ?_;refine ff ?_;refine aV ?_;refine aJ ?_;refine yM ?_;refine ia ?_
   refine yM ?_;refine y3 ?_
   exact⟨l.length-(k+1+1),by omega,k+1,by omega,rfl,rfl,rfl,rfl,hst⟩
 ·have hkl:k+1=l.length:=by omega
  rw[hkl,List.take_length]at hdd
  have mlt:aA .lss (.int .i64 ((k+1:Nat):Int)) (.int .i64 (l.length:Nat))=some (.bool false):=jD (by omega)
  refine ah ?_;refine y4 ?_;refine yM ?_;refine yM ?_;refine yD ?_;refine yW ?_;refine y3 ?_
  refine yX ?_;refine dw ?_;refine dQ ?_;refine dQ ?_;refine iN ?_;refine aV ?_;refine y4 ?_;refine yM ?_;refine yM ?_;refine y3 ?_;refine aG ?_
  refine jd (by rw[hr.log];intro z hz;cases hz) rfl ?_
  rw[hdd]
  exact .inr ⟨b,UNK,tl,hb1,hb2,hb3,rfl,hcl,fun _=>rfl⟩
end Go.A.Pk
end
