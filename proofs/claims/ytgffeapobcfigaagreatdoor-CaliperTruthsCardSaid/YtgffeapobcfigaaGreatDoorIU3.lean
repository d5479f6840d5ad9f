/- Walks of functions, plain laws, the table. -/
import Derived.Test.YtgffeapobcfigaaGreatDoorIU2
import Derived.Test.YtgffeapobcfigaaGreatDoorIV
import Derived.Test.YtgffeapobcfigaaGreatDoorIU0
import Derived.Shelf.SlSortCmp.NoneTotal
import Derived.Test.YtgffeapobcfigaaGreatDoorProg
import Derived.Test.YtgffeapobcfigaaGreatDoorIH
import Derived.KernelRfl
import Derived.Test.YtgffeapobcfigaaGreatDoorIF
import Derived.Test.YtgffeapobcfigaaGreatDoorID
set_option linter.all false
section
namespace Go.A.Pk
open Go.Sort
variable {P:Program}
def leS(x y:List Nat):Bool:= !decide (cmpL y x<0)
def eG(l:List (List Nat)):List (List Nat):=l.mergeSort leS
theorem je(l:List (List Nat)):(eG l).length=l.length:=List.length_mergeSort l
theorem gL{l:List (List Nat)}{x:List Nat}:x∈eG l↔x∈l:=List.mem_mergeSort
theorem fF:∀{l:List (List Nat)},(∀s∈l,IsS s)→(ssL l).length=l.length*8
 |[],_=>rfl
 |s::l,h=>by
  have e:ssL (s::l)=us s++ssL l:=rfl
  rw[e,List.length_append,aJ,(h s List.mem_cons_self).len,fF (fun x hx=>h x (List.mem_cons_of_mem _ hx)),List.length_cons];omega
theorem AN{l:List (List Nat)}{v:Value}(h:v∈ssL l):∃m:Nat,v= .int .u64 (m:Nat):=by
 obtain⟨s,_,h⟩:=List.mem_flatMap.1 h
 obtain⟨m,_,rfl⟩:=List.mem_map.1 h
 exact⟨m,rfl⟩
def B0(k1 k2:Nat):Value→Bool
 | .func (.func k) a b=>(Nat.beq k k1||Nat.beq k k2)&&(Nat.beq (bR a.toList) 0&&Nat.beq (bR b.toList) 0)
 |_=>false
theorem Bt{k1 k2:Nat}{v:Value}(h:B0 k1 k2 v=true):∃k,(k=k1∨k=k2)∧v= .func (.func k) #[] #[]:=by
 unfold B0 at h
 split at h
 ·rename_i k a b
  rw[Bool.and_eq_true,Bool.and_eq_true,Bool.or_eq_true,beq_eq,beq_eq,beq_eq,beq_eq,decide_eq_true_eq,decide_eq_true_eq,decide_eq_true_eq,decide_eq_true_eq,bV,bV]at h
  obtain⟨h1,h2,h3⟩:=h
  have ea:a= #[]:=by cases a;simpa using h2
  have eb:b= #[]:=by cases b;simpa using h3
  subst ea;subst eb
  exact⟨k,h1,rfl⟩
 ·cases h
def uV:Nat→List Value→Option (List (List Nat))
 |0,_=>some []
 |n+1,vs=>match mc (cG 8 vs)with
  |some p=>bif Nat.beq (bR p) 8 then(match uV n (bX 8 vs)with
   |some r=>some (p::r)
   |none=>none)else none
  |none=>none
theorem xk:∀{n:Nat} {vs:List Value} {l:List (List Nat)},uV n vs=some l→l.length=n∧(∀s∈l,IsS s)∧vs=ssL l++bX (n*8) vs
 |0,vs,l,h=>by
  cases h
  refine⟨rfl,(fun s hs=>by cases hs),?_⟩
  rw[cA,Nat.zero_mul,List.drop_zero];rfl
 |n+1,vs,l,h=>by
  unfold uV at h
  split at h
  ·rename_i p hp
   rw[cond_eq_ite,beq_eq,bV,Option.ite_none_right_eq_some,decide_eq_true_eq]at h
   obtain⟨hl,h⟩:=h
   split at h
   ·rename_i r hr
    cases h
    obtain⟨e1,e2,e3⟩:=xk hr
    obtain⟨p1,p2⟩:=oP hp
    refine⟨by rw[List.length_cons,e1],fun s hs=> ?_,?_⟩
    ·rcases List.mem_cons.1 hs with rfl|hs
     ·exact⟨hl,p2⟩
     ·exact e2 s hs
    ·have e:ssL (p::r)=us p++ssL r:=rfl
     rw[dV]at p1
     rw[cA,cA]at e3
     rw[cA,e,←p1,List.append_assoc]
     have e4:vs.drop ((n+1)*8)=(vs.drop 8).drop (n*8):=by rw[List.drop_drop];congr 1;omega
     rw[e4,←e3,List.take_append_drop]
   ·cases h
  ·cases h
theorem xK:∀{l:List (List Nat)} {t:List Value},(∀s∈l,IsS s)→uV l.length (ssL l++t)=some l
 |[],t,_=>rfl
 |s::l,t,h=>by
  have hs:=h s List.mem_cons_self
  have e:ssL (s::l)++t=us s++(ssL l++t):=by show us s++ssL l++t=_;rw[List.append_assoc]
  have e8:(us s).length=8:=by rw[aJ,hs.len]
  have e1:cG 8 (us s++(ssL l++t))=us s:=by rw[dV,←e8,List.take_left]
  have e2:bX 8 (us s++(ssL l++t))=ssL l++t:=by rw[cA,←e8,List.drop_left]
  have e3:Nat.beq (bR s) 8=true:=by rw[bV,hs.len];rfl
  rw[e,List.length_cons,uV,e1,sJ hs.lt]
  dsimp only
  rw[e3,cond_true,e2,xK fun y hy=>h y (List.mem_cons_of_mem _ hy)]
def mP(k1 k2:Nat):List Value→Heap→Option (Value×Heap)
 |[.slice none 0 _,f],h=>bif B0 k1 k2 f then some (.tuple #[],h)else none
 |[.slice (some ⟨b,o,none⟩) n _,f],h=>bif B0 k1 k2 f&&(Nat.beq o 0&&Nat.blt n 1000000)then(match h.get b with
  |some (.cells vs true sz)=>match uV n vs with
   |some l=>some (.tuple #[],h.wr h.next b (.cells (ssL (eG l)++bX (n*8) vs) true sz))
   |none=>none
  |_=>none)else none
 |_,_=>none
theorem Mv{μ:Mu}{k:Nat}{v:Value}(h:VR μ (.func (.func k) #[] #[]) v):v= .func (.func k) #[] #[]:=by
 cases h with
 |func hf h1 h2 h3 h4=>
  rename_i f' a' c'
  cases hf
  have ea:a'= #[]:=by cases a';simpa using h1.symm
  have ec:c'= #[]:=by cases c';simpa using h3.symm
  rw[ea,ec]
theorem CG{f k1 k2:Nat}{fn:Func}(hf:P.funcs[f]? =some fn)(hn:fn.name≠ "runtime.NumGoroutine")(hb:fn.body.isSome=true)
 (h0:∀(k:Nat) (p:Option Addr) (cap:Nat) (w:World),Calls P f #[.slice p 0 cap, .func (.func k) #[] #[]] w fun e w'=>e= .returned (.tuple #[])∧w'=w)
 (h1:∀(k:Nat),k=k1∨k=k2→∀(blk off cap:Nat) (l:List (List Nat)) (w:World),(∀s∈l,IsS s)→Holds id w blk off (ssL l).toArray→blk<w.heap.size→l.length<4611686018427387904→
   Calls P f #[.slice (some ⟨blk,off,none⟩) l.length cap, .func (.func k) #[] #[]] w fun e w'=>e= .returned (.tuple #[])∧∃n os,w'=Sort.grow (putRow id (Sort.ahead w n) blk off (ssL (eG l)).toArray) os):vF P f (mP k1 k2):=by
 intro args h v h' hp _
 unfold mP at hp
 split at hp
 ·rename_i c g
  rw[cond_eq_ite,Option.ite_none_right_eq_some]at hp
  obtain⟨hg,hp⟩:=hp
  cases hp
  obtain⟨k,hk,rfl⟩:=Bt hg
  refine⟨.refl _ _,fun μ w args' hR ha=> ?_⟩
  obtain⟨x',y',rfl,hx,hy⟩:=ha.two
  obtain rfl:=Mv hy
  cases hx
  exact jw hf hn hb (h0 _ _ _ w) fun e w' ⟨q1,q2⟩=>by subst q1;subst q2;exact⟨μ, .tuple rfl (fun i hi=>absurd hi (by simp)),hR, .refl _ _ _⟩
 ·rename_i b o n c g
  rw[cond_eq_ite,Option.ite_none_right_eq_some,Bool.and_eq_true,Bool.and_eq_true,beq_eq,blt_eq,decide_eq_true_eq,decide_eq_true_eq]at hp
  obtain⟨⟨hg,rfl,hlt⟩,hp⟩:=hp
  obtain⟨kf,hkf,rfl⟩:=Bt hg
  split at hp
  ·rename_i vs sz hbo
   split at hp
   ·rename_i l hxs
    cases hp
    obtain⟨hln,hok,hvs⟩:=xk hxs
    have hsl:(ssL l).length=n*8:=by rw[fF hok,hln]
    have hok2:∀s∈eG l,IsS s:=fun s hs=>hok s (gL.1 hs)
    have hsl2:(ssL (eG l)).length=n*8:=by rw[fF hok2,je,hln]
    have hdl:(bX (n*8) vs).length=vs.length-n*8:=by rw[cA,List.length_drop]
    have hvl:n*8≤vs.length:=by
     have:=congrArg List.length hvs
     rw[List.length_append,hsl]at this;omega
    have hnl:(ssL (eG l)++bX (n*8) vs).length=vs.length:=by rw[List.length_append,hsl2,hdl];omega
    refine⟨AS.wr _ _ _ _,fun μ w args' hR ha=> ?_⟩
    obtain⟨x',y',rfl,hx,hy⟩:=ha.two
    obtain rfl:=Mv hy
    have key:∀k c',μ b=some k→mJ P (gp P μ h w (.ret (.tuple #[])) (h.wr h.next b (.cells (ssL (eG l)++bX (n*8) vs) true sz))) ((callFunc f #[.slice (some ⟨k.r,k.d+0,none⟩) n c', .func (.func kf) #[] #[]]).run P w):=fun k c' hk=>by
     obtain⟨hsz,cc,el,fz,g1,g2,g3,g4,g5⟩:=hR.obj b _ hbo k hk
     obtain⟨hd,he,hfz⟩:=g5 rfl
     have gvL:∀(l2:List Value) j,(hj:j<l2.length)→gv l2 j=l2[j]:=fun l2 j hj=>by simp[gv,cO,hj]
     have hat:∀j,(hj:j<(ssL l).length)→cc[k.d+j]? =some (ssL l)[j]:=fun j hj=>by
      obtain⟨v',p1,p2⟩:=g4 j (by omega)
      have e:gv vs j=(ssL l)[j]:=by
       rw[gvL vs j (by omega)]
       have:vs[j]? =(ssL l)[j]? :=by
        conv=>lhs;rw[hvs]
        rw[List.getElem?_append_left hj]
       rw[List.getElem?_eq_getElem (by omega),List.getElem?_eq_getElem hj,Option.some.injEq]at this
       exact this
      rw[e]at p2
      obtain⟨m,hm⟩:=AN (List.getElem_mem hj)
      rw[hm]at p2⊢
      cases p2;exact p1
     have hH:Holds id w k.r (k.d+0) (ssL l).toArray:=fun j hj=>by
      have hj:j<(ssL l).length:=by simpa using hj
      refine⟨?_,?_⟩
      ·rw[cell_of g1,Nat.add_zero,hat j hj];simp[hj]
      ·have:=hfz (k.d+0+j) (by omega)
       simp only[World.frozen?,g1]
       simpa using this
     have hcall:=h1 kf hkf k.r (k.d+0) c' l w hok hH (hR.dom _ _ hk).2 (by omega)
     rw[hln]at hcall
     refine jw hf hn hb hcall fun e w' ⟨q1,m,os,q2⟩=> ?_
     subst q1;subst q2
     obtain⟨r1,s1⟩:=hR.world (w':=Sort.ahead w m) rfl
     have hg:(putRow id (Sort.ahead w m) k.r (k.d+0) (ssL (eG l)).toArray).heap=w.heap.modify k.r (onCells (putCells id (k.d+0) (ssL (eG l)).toArray)):=rfl
     have g1':(putRow id (Sort.ahead w m) k.r (k.d+0) (ssL (eG l)).toArray).heap[k.r]? =some (.cells (putCells id (k.d+0) (ssL (eG l)).toArray cc) el fz):=by
      rw[hg,Array.getElem?_modify,if_pos rfl,g1];rfl
     have hps:(putCells id (k.d+0) (ssL (eG l)).toArray cc).size=cc.size:=by simp[putCells]
     obtain⟨r2,s2⟩:=r1.write (base:=h.next) (b:=b) (o:= .cells vs true sz) (o':= .cells (ssL (eG l)++bX (n*8) vs) true sz) (k:=k) (w':=putRow id (Sort.ahead w m) k.r (k.d+0) (ssL (eG l)).toArray) hbo rfl rfl hk
      (by rw[hg];simp[Sort.ahead]) (fun r hr=>by rw[hg,Array.getElem?_modify,if_neg (Ne.symm hr)];rfl) (.sS g1 g1' (by omega)) (by
        intro k' hk'
        rw[hk]at hk';cases hk'
        refine⟨hsz,_,el,fz,g1',by omega,by omega,fun i hi=> ?_,fun _=>⟨hd,by omega,fun j hj=>hfz j (by omega)⟩⟩
        obtain⟨v',p1,p2⟩:=g4 i (by omega)
        have hgv:gv (ssL (eG l)++bX (n*8) vs) i=(ssL (eG l)++bX (n*8) vs)[i]:=gvL _ i hi
        rw[hgv]
        by_cases hi8:i<n*8
        ·rw[List.getElem_append_left (by omega)]
         obtain⟨q,hq⟩:=AN (List.getElem_mem (show i<(ssL (eG l)).length by omega))
         refine⟨(ssL (eG l))[i],?_,by rw[hq];exact .int _ _⟩
         simp only[putCells,Array.getElem?_mapIdx,p1,z7]
         rw[if_pos ⟨by omega,by simp;omega⟩]
         have:i<(ssL (eG l)).length:=by omega
         simp[this]
        ·refine⟨v',?_,?_⟩
         ·simp only[putCells,Array.getElem?_mapIdx,p1,z7]
          rw[if_neg (fun q=>by simp at q;omega)]
         ·have e:(ssL (eG l)++bX (n*8) vs)[i]? =vs[i]? :=by
           rw[List.getElem?_append_right (by omega),hsl2,cA,List.getElem?_drop]
           congr 1;omega
          rw[List.getElem?_eq_getElem hi,List.getElem?_eq_getElem (by omega),Option.some.injEq]at e
          rw[e,←gvL vs i (by omega)];exact p2)
     obtain⟨r3,s3⟩:=JB os.toList r2
     have e3:Sort.grow (putRow id (Sort.ahead w m) k.r (k.d+0) (ssL (eG l)).toArray) os.toList.toArray=Sort.grow (putRow id (Sort.ahead w m) k.r (k.d+0) (ssL (eG l)).toArray) os:=rfl
     rw[e3]at r3 s3
     exact⟨μ, .tuple rfl (fun i hi=>absurd hi (by simp)),r3,(s1.trans s2 (Nat.le_refl _)).trans s3 (Nat.le_refl _)⟩
    cases hx with
    |slice hk q1 q2=>exact key _ _ hk
    |eC hk q1 q2 q3=>exact key _ _ hk
   ·cases hp
  ·cases hp
 ·cases hp
end Go.A.Pk
end
section
set_option maxRecDepth 100000
namespace Go.A.Pk
variable {T:Nat→Option ak}
theorem SsQ.len{h:Heap}{a:Option Addr}{n c:Nat}{l:List (List Nat)}(s:SsQ h (.slice a n c) l):n=l.length:=by
 rcases eS.inv s.sl with⟨_,hv,h0,_⟩|⟨b,o,cap,hv,s1,hc⟩
 ·cases hv;exact h0.symm
 ·cases hv;rfl
def iM(P:List Nat→Bool):List (List Nat)→Nat→Int
 |[],_=> -1
 |r::l,i=>if P r then(i:Int)else iM P l (i+1)
theorem Cj(P:List Nat→Bool){l:List (List Nat)}{i:Nat}{r:List Nat}(hi:l[i]? =some r):iM P (l.drop i) i=if P r then(i:Int)else iM P (l.drop (i+1)) (i+1):=by
 obtain⟨hlt,rfl⟩:=List.getElem?_eq_some_iff.1 hi
 rw[List.drop_eq_getElem_cons hlt,iM]
theorem EO(P:List Nat→Bool)(l:List (List Nat)):iM P (l.drop l.length) l.length= -1:=by rw[List.drop_length];rfl
theorem x9(P:List Nat→Bool):∀(l:List (List Nat)) (i:Nat),decide (0≤iM P l i)=l.any P
 |[],i=>rfl
 |r::l,i=>by
  rw[iM,List.any_cons]
  by_cases h:P r=true
  ·rw[if_pos h,h,decide_eq_true (by omega)];rfl
  ·rw[if_neg h,x9 P l (i+1)]
   rw[Bool.not_eq_true]at h
   rw[h,Bool.false_or]
theorem yx(P:List Nat→Bool):∀(l:List (List Nat)) (i:Nat),0≤iM P l i→∃k r,l[k]? =some r∧P r=true∧iM P l i=((i+k:Nat):Int)∧∀x∈l.take k,P x=false
 |[],i,h=>by simp[iM]at h
 |r::l,i,h=>by
  rw[iM]at h⊢
  by_cases hp:P r=true
  ·exact⟨0,r,rfl,hp,by rw[if_pos hp];rfl,fun x hx=>by simp at hx⟩
  ·rw[if_neg hp]at h⊢
   obtain⟨k,q,h1,h2,h3,h4⟩:=yx P l (i+1) h
   refine⟨k+1,q,by simpa using h1,h2,by rw[h3];congr 1;omega,fun x hx=> ?_⟩
   rw[List.take_succ_cons]at hx
   rcases List.mem_cons.1 hx with rfl|hx
   ·simpa using hp
   ·exact h4 x hx
theorem yc(P:List Nat→Bool):∀(l:List (List Nat)) (i:Nat),¬0≤iM P l i→iM P l i= -1∧∀x∈l,P x=false
 |[],i,h=>⟨rfl,fun x hx=>by simp at hx⟩
 |r::l,i,h=>by
  rw[iM]at h⊢
  by_cases hp:P r=true
  ·rw[if_pos hp]at h;omega
  ·rw[if_neg hp]at h⊢
   obtain⟨h1,h2⟩:=yc P l (i+1) h
   refine⟨h1,fun x hx=> ?_⟩
   rcases List.mem_cons.1 hx with rfl|hx
   ·simpa using hp
   ·exact h2 x hx
set_option maxHeartbeats 1000000 in
theorem xO(hp:bA T)(hf:T 257=some f257){h:Heap}(hr:Rdy h){a:Option Addr}{n c:Nat}{l:List (List Nat)}(s:SsQ h (.slice a n c) l)(hn:n<1000000){g:Nat}{cap:List Value}(P:List Nat→Bool)
 (HP:∀r∈l,Pu T g (sv r::cap) h (.bool (P r))):Pu T 257 [.slice a n c, .func (.func g) #[] cap.toArray] h (.int .i64 (iM P l 0)):=by
 refine .of hp hf hr rfl ?_
 obtain rfl:=s.len
 refine y4 ?_;refine yM ?_;refine y3 ?_;refine aq ?_;refine y4 ?_;refine yM ?_;refine yD ?_;refine yM ?_
 refine y3 ?_;refine aI ?_
 refine dh (fun m e ds h'=>∃i:Nat,i≤l.length∧m=l.length-i∧e=[(0, .slice a l.length c),(1, .func (.func g) #[] cap.toArray),(7, .int .i64 (l.length:Nat)),(8, .int .i64 (i:Nat))]∧ds=[]∧h=h'∧iM P l 0=iM P (l.drop i) i)
  ⟨0,Nat.zero_le _,rfl,rfl,rfl,rfl,rfl⟩ ?_
 rintro m e ds _ ⟨i,hin,rfl,rfl,rfl,rfl,hi⟩
 by_cases hlt:i<l.length
 ·obtain⟨r,hri⟩:∃r,l[i]? =some r:=⟨l[i],List.getElem?_eq_getElem hlt⟩
  obtain⟨b,o,c2,vs,own,t,hv,g1,hb,k1⟩:=s.elem hri
  cases hv
  have k2:=aV (s.ok r (List.mem_of_getElem? hri)).len
  have H:=HP r (List.mem_of_getElem? hri)
  rw[Cj P hri]at hi
  refine y4 ?_;refine yt ?_;refine y3 ?_;refine aq ?_;refine yY ?_;refine aM ?_;refine br ?_;refine aq ?_;refine aI ?_;refine y4 ?_;refine yM ?_;refine yM ?_;refine y3 ?_;refine y4 ?_;refine yM ?_;refine yM ?_;refine yM ?_
  refine aa (cM (by exact rfl) (by exact rfl) (by omega)) ?_;refine aa (au (by exact rfl) (by assumption) (by assumption) (by assumption)) ?_
  refine og (vL (all:=sv r::cap) (by exact rfl) (by exact rfl) (by exact rfl) (by rw[dY,dY];simp[sv])) ?_
  refine FW.pu (by rw[hr.self];exact H) ?_
  clear H HP
  cases hpr:P r with
  |true=>
   rw[hpr,if_pos rfl]at hi
   rw[hi]
   refine y3 ?_;refine yY ?_;refine y4 ?_;refine yM ?_;refine yM ?_;refine y3 ?_;refine aP ?_;refine kH ?_;refine eO ?_;refine eO ?_;refine kH ?_;refine eO ?_
   exact aH hr.log rfl rfl
  |false=>
   rw[hpr,if_neg (by simp)]at hi
   refine y3 ?_;refine yX ?_;refine aM ?_;refine fI ?_;refine br ?_;refine aK ?_;refine iI ?_;refine yM ?_;refine y3 ?_
   exact⟨l.length-(i+1),by omega,i+1,by omega,rfl,rfl,rfl,rfl,hi⟩
 ·obtain rfl:i=l.length:=by omega
  rw[EO]at hi
  rw[hi]
  refine y4 ?_;refine yf ?_;refine y3 ?_;refine aq ?_;refine yX ?_;refine cU ?_;refine dU ?_;refine dU ?_;refine iw ?_;refine br ?_
  refine y4 ?_;refine yM ?_;refine y3 ?_;refine aP ?_
  exact aH hr.log rfl rfl
theorem xR(hp:bA T)(hf:T 196=some f196)(hf2:T 257=some f257){h:Heap}(hr:Rdy h){a:Option Addr}{n c:Nat}{l:List (List Nat)}(s:SsQ h (.slice a n c) l)(hn:n<1000000){g:Nat}{cap:List Value}(P:List Nat→Bool)
 (HP:∀r∈l,Pu T g (sv r::cap) h (.bool (P r))):Pu T 196 [.slice a n c, .func (.func g) #[] cap.toArray] h (.bool (l.any P)):=by
 refine .of hp hf hr rfl ?_
 have C:=xO hp hf2 hr s hn P HP
 rw[←x9 P l 0]
 generalize iM P l 0=z at C⊢
 refine y4 ?_;refine yM ?_;refine y3 ?_;refine y4 ?_;refine yM ?_;refine yM ?_
 refine yC ?_
 refine FW.pu (by rw[hr.self];exact C) ?_
 clear C
 have m1:aC .geq (.int .i64 z) (.int .i64 0)=some (.bool (decide (0≤z))):=ES
 refine aa (aF (by exact rfl) (by exact rfl) (by with_reducible assumption)) ?_;refine yM ?_;refine y3 ?_;refine aP ?_
 exact aH hr.log rfl rfl
def OwS(lo:Nat)(h:Heap)(v:Value)(l:List (List Nat)):Prop:=
 (v= .slice none 0 0∧l=[])∨∃b c t,lo≤b∧b<h.next∧h.get b=some (.cells (ssL l++t) true 8)∧v= .slice (some ⟨b,0,none⟩) l.length c∧l.length≤c∧(l≠[]→c=UNK)
def vB(v:Value)(z:Nat):Prop:=∃m c,v= .slice (some ⟨z,0,none⟩) m c
theorem OwS.vb{lo:Nat}{h:Heap}{v:Value}{l:List (List Nat)}(q:OwS lo h v l){z:Nat}(hz:vB v z):lo≤z∧z<h.next:=by
 obtain⟨m,c,hz⟩:=hz
 rcases q with⟨rfl,_⟩|⟨b,c,t,h1,h2,h3,rfl,_⟩
 ·cases hz
 ·cases hz
  exact⟨h1,h2⟩
theorem OwS.ss{lo:Nat}{h:Heap}{v:Value}{l:List (List Nat)}(q:OwS lo h v l)(hl:∀s∈l,IsS s):SsQ h v l:=by
 refine⟨?_,hl⟩
 rcases q with⟨rfl,rfl⟩|⟨b,c,t,h1,h2,h3,rfl,h4,h5⟩
 ·exact .nil
 ·refine .mem ⟨h2,⟨_,_,_,h3,?_⟩,fF hl⟩ h4
  rw[dV,cA,List.drop_zero,List.take_append_of_le_length (by rw[fF hl];omega),List.take_of_length_le (by rw[fF hl];omega)]
theorem OwS.keep{lo:Nat}{h h':Heap}{v:Value}{l:List (List Nat)}(q:OwS lo h v l)(hn:h.next≤h'.next)(ha:∀z,lo≤z→z<h.next→h'.get z=h.get z):OwS lo h' v l:=by
 rcases q with q|⟨b,c,t,h1,h2,h3,rfl,h4,h5⟩
 ·exact .inl q
 ·exact .inr ⟨b,c,t,h1,by omega,(ha b h1 h2).trans h3,rfl,h4,h5⟩
theorem OwS.ext{lo:Nat}{h h':Heap}{v:Value}{l:List (List Nat)}(q:OwS lo h v l)(x:Ext h h'):OwS lo h' v l:=q.keep x.next fun z _ hz=>x.old z hz
theorem OwS.log{lo:Nat}{h:Heap}{v:Value}{l:List (List Nat)}(q:OwS lo h v l)(m:List Nat):OwS lo {h with log:=m} v l:=q
theorem OwS.low{lo lo':Nat}{h:Heap}{v:Value}{l:List (List Nat)}(q:OwS lo h v l)(hl:lo'≤lo):OwS lo' h v l:=by
 rcases q with q|⟨b,c,t,h1,h2⟩
 ·exact .inl q
 ·exact .inr ⟨b,c,t,by omega,h2⟩
theorem OwS.flat{lo lo':Nat}{h h':Heap}{v:Value}{l:List (List Nat)}(hv:cw v=true)(q:OwS lo h v l):OwS lo' h' v l:=by
 rcases q with q|⟨b,c,t,h1,h2,h3,rfl,_⟩
 ·exact .inl q
 ·cases hv
theorem OwS.form{lo:Nat}{h:Heap}{v:Value}{l:List (List Nat)}(q:OwS lo h v l):∃a c,v= .slice a l.length c:=by
 rcases q with⟨rfl,rfl⟩|⟨b,c,t,h1,h2,h3,rfl,_⟩
 ·exact⟨none,0,rfl⟩
 ·exact⟨_,c,rfl⟩
theorem Own.owS{lo:Nat}{h:Heap}{v:Value}{l:List (List Nat)}(q:Own lo h 8 v l.length (ssL l))(hn:l.length<4000000):OwS lo h v l:=by
 generalize hm:l.length=n at q
 generalize hc:ssL l=cs at q
 cases q with
 |nil=>exact .inl ⟨rfl,List.length_eq_zero_iff.1 hm⟩
 |full h1 h2 h3 h4 h5=>
  subst hm;subst hc
  exact .inr ⟨_,UNK,[],h1,h2,by rw[List.append_nil];exact h3,rfl,by unfold UNK;omega,fun _=>rfl⟩
theorem rO(a b:List (List Nat)):ssL (a++b)=ssL a++ssL b:=by simp[ssL]
theorem Ds(a:List Nat)(b:List (List Nat)):ssL (a::b)=us a++ssL b:=rfl
theorem ze{l:List (List Nat)}{i:Nat}(h:∀r∈l,IsS r):(ssL l).take (i*8)=ssL (l.take i):=by
 by_cases hi:i≤l.length
 ·have e:l=l.take i++l.drop i:=(List.take_append_drop i l).symm
  have hlen:(ssL (l.take i)).length=i*8:=by rw[fF fun r hr=>h r (List.mem_of_mem_take hr),List.length_take,Nat.min_eq_left hi]
  conv=>lhs;rw[e,rO]
  rw[←hlen,List.take_left]
 ·rw[List.take_of_length_le (by rw[fF h];omega),List.take_of_length_le (by omega)]
theorem FZ{l:List (List Nat)}{i:Nat}(h:∀r∈l,IsS r):(ssL l).drop (i*8)=ssL (l.drop i):=by
 by_cases hi:i≤l.length
 ·have e:l=l.take i++l.drop i:=(List.take_append_drop i l).symm
  have hlen:(ssL (l.take i)).length=i*8:=by rw[fF fun r hr=>h r (List.mem_of_mem_take hr),List.length_take,Nat.min_eq_left hi]
  conv=>lhs;rw[e,rO]
  rw[←hlen,List.drop_left]
 ·rw[List.drop_of_length_le (by rw[fF h];omega),List.drop_of_length_le (by omega)];rfl
theorem vW{l:List (List Nat)}{t:List Value}{i:Nat}{r:List Nat}(h:∀r∈l,IsS r)(hr:IsS r)(hi:i<l.length):cD (ssL l++t) (0+i*8) (us r)=ssL (l.set i r)++t:=by
 have hl:=fF h
 have hu:(us r).length=8:=by rw[aJ,hr.len]
 rw[Nat.zero_add,jc (by rw[hu,List.length_append,hl];omega),hu,List.take_append_of_le_length (by omega),List.drop_append_of_le_length (by omega),ze h,show i*8+8=(i+1)*8 by omega,FZ h,List.set_eq_take_append_cons_drop,if_pos hi,rO,Ds]
 simp
theorem n9{l:List (List Nat)}{t:List Value}{i:Nat}{x:List Nat}(h:∀r∈l,IsS r)(hi:l[i]? =some x):cG 8 (bX (0+i*8) (ssL l++t))=us x:=by
 have hlt:=(List.getElem?_eq_some_iff.1 hi).1
 have hl:=fF h
 rw[dV,cA,Nat.zero_add,List.drop_append_of_le_length (by omega),List.take_append_of_le_length (by rw[List.length_drop];omega),Bi h hi]
theorem vU{l:List (List Nat)}{t:List Value}{i:Nat}{r:List Nat}(h:∀r∈l,IsS r)(hr:IsS r)(hi:i<l.length):(Nat.beq (bR (cellsOf (sv r))) 8&&Nat.ble (0+i*8+8) (bR (ssL l++t))&&eM (cellsOf (sv r)))=true:=by
 have e:cellsOf (sv r)=us r:=by show(us r).toArray.toList=_;simp
 rw[e,bV,bV,aJ,hr.len,dH,List.length_append,fF h,gY (by omega)];rfl
theorem FT(hp:bA T)(hf:T 194=some f194){h:Heap}(hr:Rdy h){v:Value}{l:List (List Nat)}(s:SsQ h v l)(hn:l.length<1000000):Al T 194 [v] h fun v h'=>OwS h.next h' v l:=by
 refine .of hp hf hr (fun v h1 hv q=>OwS.flat hv q) ?_
 rcases eS.inv s.sl with⟨c',rfl,h0,_⟩|⟨b,o,cap,rfl,s1,hc⟩
 ·have hl:l=[]:=List.length_eq_zero_iff.1 h0
  subst hl
  refine y4 ?_;refine yM ?_;refine y3 ?_;refine aq ?_;refine y4 ?_;refine yM ?_;refine aa (DQ (by exact rfl) (by exact rfl) (by exact rfl)) ?_;refine y3 ?_;refine yY ?_;refine y4 ?_;refine yM ?_;refine y3 ?_;refine aP ?_;refine eO ?_
  exact eY hr.log rfl (.inl ⟨rfl,rfl⟩)
 ·have hs:=JI (s.sl.ext ((Ext.refl h).push (.cells [] true 8)))
  by_cases h0:l.length=0
  ·have hl:l=[]:=List.length_eq_zero_iff.1 h0
   subst hl
   refine y4 ?_;refine yM ?_;refine y3 ?_;refine aq ?_;refine y4 ?_;refine yM ?_;refine aa (DQ (by exact rfl) (by exact rfl) (by exact rfl)) ?_;refine y3 ?_;refine yX ?_;refine aM ?_;refine br ?_;refine y4 ?_;refine aa (nv (by exact rfl) (by exact rfl)) ?_;refine yM ?_
   refine aa (zV (by exact rfl) (by exact rfl) hs (Nat.le_refl _)) ?_
   refine yM ?_;refine y3 ?_;refine aP ?_
   refine eY hr.log rfl (.inr ⟨h.next,_,[],Nat.le_refl _,Nat.lt_succ_self _,?_,rfl,Nat.le_refl _,fun q=>absurd rfl q⟩)
   (simp(disch:=first|omega|(simp only[z1,z2];omega))only[z3,z4,z5,z6,z7,z1,z2];exact rfl)
  ·refine y4 ?_;refine yM ?_;refine y3 ?_;refine aq ?_;refine y4 ?_;refine yM ?_;refine aa (DQ (by exact rfl) (by exact rfl) (by exact rfl)) ?_;refine y3 ?_;refine yX ?_;refine aM ?_;refine br ?_;refine y4 ?_;refine aa (nv (by exact rfl) (by exact rfl)) ?_;refine yM ?_
   refine aa (zx (c:=0) (len:=0) (by exact rfl) (by exact rfl) hs h0 (by omega) (by decide) (z3 h _) (by exact Nat.le_refl _) (by omega) (by exact rfl)) ?_
   refine yM ?_;refine y3 ?_;refine aP ?_
   refine eY hr.log rfl (.inr ⟨h.next+1,UNK,[],Nat.le_succ _,Nat.lt_succ_self _,?_,?_,by unfold UNK;omega,fun _=>rfl⟩)
   ·rw[List.append_nil];(simp(disch:=first|omega|(simp only[z1,z2];omega)|(simp only[z1,z2];done)|fail)only[z8,z4,z5,z9,z7,z1,z2];exact rfl)
   ·rw[Nat.zero_add];rfl
end Go.A.Pk
end
section
set_option maxRecDepth 100000
namespace Go.A.Pk
variable {T:Nat→Option ak}
theorem sj{l:List (List Nat)}{i:Nat}{r:List Nat}(hi:l[i]? =some r)(Q:List Nat→Bool):(l.take (i+1)).filter Q=(l.take i).filter Q++(if Q r then [r]else []):=by
 obtain⟨hlt,rfl⟩:=List.getElem?_eq_some_iff.1 hi
 rw[List.take_succ_eq_append_getElem hlt,List.filter_append]
 congr 1
 by_cases hq:Q l[i]=true
 ·simp[hq]
 ·simp[hq]
theorem uI{l:List (List Nat)}{i:Nat}{r:List Nat}(hi:i<l.length):(l.set i r).take (i+1)=l.take i++[r]:=by
 apply List.ext_getElem?
 intro k
 by_cases hk:k<i
 ·rw[List.getElem?_take_of_lt (by omega),List.getElem?_set_ne (by omega),List.getElem?_append_left (by rw[List.length_take];omega),List.getElem?_take_of_lt hk]
 ·by_cases hk2:k=i
  ·subst hk2
   rw[List.getElem?_take_of_lt (by omega),List.getElem?_set_self hi,List.getElem?_append_right (by rw[List.length_take];omega),List.length_take,Nat.min_eq_left (by omega),Nat.sub_self];rfl
  ·rw[List.getElem?_eq_none (by rw[List.length_take,List.length_set];omega),List.getElem?_eq_none (by rw[List.length_append,List.length_take,List.length_singleton];omega)]
theorem uQ{l:List (List Nat)}{i j:Nat}{r:List Nat}(hi:i<j):(l.set i r).drop j=l.drop j:=by
 apply List.ext_getElem?
 intro k
 rw[List.getElem?_drop,List.getElem?_drop,List.getElem?_set_ne (by omega)]
def zS:List Value:=aU 8 (.int .u64 0)
theorem vO:∀n,eM (eN n zS)=true
 |0=>rfl
 |n+1=>by
  show eM (dJ zS (eN n zS))=true
  rw[dY]
  exact tB rfl (vO n)
theorem sQ{l D:List (List Nat)}{t ws:List Value}{i:Nat}(hl:∀r∈l,IsS r)(hi:i≤l.length)(hD:l.take i=D)(hw:cD (ssL l++t) (0+i*8) (eN (l.length-i) zS)=ws):∃t',ws=ssL D++t':=by
 have hz:(eN (l.length-i) zS).length=(l.length-i)*8:=by rw[jx];rfl
 have hll:=fF hl
 rw[←hw,jc (by rw[hz,List.length_append,hll];omega),Nat.zero_add,List.take_append_of_le_length (by omega),ze hl,hD,List.append_assoc]
 exact⟨_,rfl⟩
set_option maxHeartbeats 4000000 in
theorem BX(hp:bA T)(hf:T 193=some f193)(hf2:T 257=some f257){h:Heap}(hr:Rdy h){lo:Nat}{l:List (List Nat)}{v:Value}(q:OwS lo h v l)(hl:∀r∈l,IsS r)(hn:l.length<1000000){g:Nat}{cap:List Value}(P:List Nat→Bool)
 (HP:∀h':Heap,WF h'→h.next≤h'.next→(∀z,z<lo→h'.get z=h.get z)→∀r,IsS r→Pu T g (sv r::cap) {h' with log:=[]} (.bool (P r))):
 Gs T 193 [v, .func (.func g) #[] cap.toArray] h (vB v) (fun v h'=>OwS lo h' v (l.filter fun r=> !P r)):=by
 have sR:=q.ss hl
 obtain⟨a,c,rfl⟩:=q.form
 refine .of hp hf ?_ ?_
 ·intro v h1 h2 hv hn2 hag hq
  exact OwS.flat hv hq
 have C:=xO hp hf2 hr sR hn P (fun r hR=>by
  have:=HP h hr.wf (Nat.le_refl _) (fun _ _=>rfl) r (hl r hR)
  rwa [hr.self]at this)
 refine y4 ?_;refine yM ?_;refine y3 ?_;refine y4 ?_;refine yM ?_;refine yM ?_
 refine yC ?_
 refine FW.pu (by rw[hr.self];exact C) ?_
 clear C
 by_cases hi:0≤iM P l 0
 ·obtain⟨k,rk,h1,h2,h3,h4⟩:=yx P l 0 hi
  rw[Nat.zero_add]at h3
  rw[h3]
  have hkl:k<l.length:=(List.getElem?_eq_some_iff.1 h1).1
  rcases q with⟨_,rfl⟩|⟨b,c',tl,hb1,hb2,hb3,hv,hcl,hcu⟩
  ·simp at hkl
  ·cases hv
   obtain rfl:=hcu (fun q=>by rw[q]at hkl;simp at hkl)
   have m1:aC .eql (.int .i64 (k:Nat)) (.int .i64 (-1))=some (.bool false):=Aw (by omega)
   refine yM ?_;refine y3 ?_;refine aq ?_;refine y4 ?_;refine yM ?_;refine aa (aF (by exact rfl) (by exact rfl) (by with_reducible assumption)) ?_;refine y3 ?_;refine yX ?_;refine aM ?_;refine br ?_;refine aq ?_;refine y4 ?_;refine yM ?_;refine iI ?_
   refine yM ?_;refine y3 ?_;refine aI ?_
   refine dh (fun mm e ds h'=>∃(j i:Nat) (m:List (List Nat)),j≤l.length∧i<j∧mm=l.length-j∧e=[(0, .slice (some ⟨b,0,none⟩) l.length UNK),(1, .func (.func g) #[] cap.toArray),(5, .int .i64 (i:Nat)),(6, .int .i64 (j:Nat))]∧ds=[]∧
    WF h'∧h.next≤h'.next∧(∀z,z<lo→h'.get z=h.get z)∧(∀z∈h'.log,vB (.slice (some ⟨b,0,none⟩) l.length UNK) z)∧h'.get b=some (.cells (ssL m++tl) true 8)∧m.length=l.length∧(∀r∈m,IsS r)∧m.take i=(l.take j).filter (fun r=> !P r)∧m.drop j=l.drop j)
    ⟨k+1,k,l,hkl,Nat.lt_succ_self _,rfl,rfl,rfl,hr.wf,Nat.le_refl _,fun _ _=>rfl,(by rw[hr.log];intro z hz;cases hz),hb3,rfl,hl,?_,rfl⟩ ?_
   ·rw[sj h1,h2]
    simp only[Bool.not_true,Bool.false_eq_true,if_false,List.append_nil]
    exact(List.filter_eq_self.2 (fun x hx=>by rw[h4 x hx];rfl)).symm
   rintro mm e ds H ⟨j,i,m,hj,hij,rfl,rfl,rfl,hw,hnx,hold,hlg,gb,hm,hmR,htk,hdr⟩
   have hbn:b<H.next:=WF.iH hw gb
   by_cases hlt:j<l.length
   ·obtain⟨r,hr1⟩:∃r,l[j]? =some r:=⟨l[j],List.getElem?_eq_getElem hlt⟩
    have hmj:m[j]? =some r:=by
     have e1:(m.drop j)[0]? =(l.drop j)[0]? :=by rw[hdr]
     rw[List.getElem?_drop,List.getElem?_drop]at e1
     exact e1.trans hr1
    have hrR:=hmR r (List.mem_of_getElem? hmj)
    have ra0:=n9 (t:=tl) hmR hmj
    have rl:=aV hrR.len
    have rk8:=bE hrR.len
    have rln:=hrR.len
    refine aq ?_;refine y4 ?_;refine yM ?_;refine yM ?_;refine yD ?_;refine yt ?_;refine y3 ?_
    refine yY ?_;refine aM ?_;refine br ?_;refine aq ?_;refine aI ?_;refine y4 ?_;refine yM ?_;refine yM ?_;refine aa (cM (by exact rfl) (by exact rfl) (by omega)) ?_;refine aa (au (by exact rfl) (by assumption) (by assumption) (by assumption)) ?_
    refine aa (di) ?_;refine aa (dx (by exact rfl) (by exact rfl) (by(simp(disch:=first|omega|(simp only[z1,z2];omega))only[z3,z4,z5,z6,z7,z1,z2,hb3,gb];exact rfl)) (by(simp only[aJ];assumption)) (by exact rfl) (by exact dH _)) ?_
    refine y3 ?_;refine y4 ?_;refine yM ?_
    refine aa (au (by exact rfl) (by(simp(disch:=first|omega|(simp only[z1,z2];omega))only[z3,z4,z5,z6,z7,z1,z2,hb3,gb];exact rfl)) (by assumption) (by assumption)) ?_
    have W2:WF (((H.push (.cells (aU 8 (.int .u64 0)) true 1)).wr h.next H.next (.cells (us r) true 1))):=(hw.push (.cells (aU 8 (.int .u64 0)) true 1)).as (AS.wr h.next _ _ _)
    have HPr:=HP _ W2 (show h.next≤H.next+1 by omega) (fun z hz=>by
     rw[z5 (by omega),z4 (by omega)];exact hold z hz) r hrR
    refine og (vL (all:=sv r::cap) (by exact rfl) (by exact rfl) (by exact rfl) (by rw[dY,dY];simp[sv])) ?_
    refine FW.pu HPr ?_
    clear HPr
    have hlg2:∀z∈(((H.push (.cells (aU 8 (.int .u64 0)) true 1)).wr h.next H.next (.cells (us r) true 1))).log,vB (.slice (some ⟨b,0,none⟩) l.length UNK) z:=by
     rw[Heap.aG hnx];exact hlg
    have gb2:(((H.push (.cells (aU 8 (.int .u64 0)) true 1)).wr h.next H.next (.cells (us r) true 1))).get b=some (.cells (ssL m++tl) true 8):=by
     rw[z5 (by omega),z4 hbn];exact gb
    have gn2:(((H.push (.cells (aU 8 (.int .u64 0)) true 1)).wr h.next H.next (.cells (us r) true 1))).get H.next=some (.cells (us r) true 1):=by
     rw[z6,z3];rfl
    have hold2:∀z,z<lo→(((H.push (.cells (aU 8 (.int .u64 0)) true 1)).wr h.next H.next (.cells (us r) true 1))).get z=h.get z:=fun z hz=>by
     rw[z5 (by omega),z4 (by omega)];exact hold z hz
    have hnx2:(((H.push (.cells (aU 8 (.int .u64 0)) true 1)).wr h.next H.next (.cells (us r) true 1))).next=H.next+1:=rfl
    generalize(((H.push (.cells (aU 8 (.int .u64 0)) true 1)).wr h.next H.next (.cells (us r) true 1)))=H2 at*
    cases hp:P r with
    |true=>
     refine yA ?_;refine y3 ?_;refine yX ?_;refine aM ?_;refine fI ?_;refine br ?_;refine aK ?_;refine yM ?_
     refine iI ?_;refine yM ?_;refine y3 ?_
     refine⟨l.length-(j+1),by omega,j+1,i,m,by omega,by omega,rfl,rfl,rfl,W2,by omega,hold2,hlg2,gb2,hm,hmR,?_,?_⟩
     ·rw[sj hr1,hp,htk];simp
     ·rw[←List.drop_drop,←List.drop_drop,hdr]
    |false=>
     have kc:=vU (t:=tl) hmR hrR (i:=i) (by omega)
     have kw:cD (ssL m++tl) (0+i*8) (cellsOf (sv r))=ssL (m.set i r)++tl:=by
      have e:cellsOf (sv r)=us r:=by show(us r).toArray.toList=_;simp
      rw[e,vW hmR hrR (by omega)]
     refine yA ?_;refine y3 ?_;refine yY ?_;refine y4 ?_;refine yM ?_;refine yM ?_
     refine aa (au (by exact rfl) (by assumption) (by assumption) (by assumption)) ?_;refine aa (cM (by exact rfl) (by exact rfl) (by omega)) ?_
     refine aa (iA (by exact rfl) (by exact rfl) gb2 kc kw) ?_
     refine y3 ?_;refine aK ?_;refine yM ?_;refine iI ?_;refine yM ?_;refine eD ?_
     refine y1 ?_;refine fI ?_;refine br ?_;refine aK ?_;refine yM ?_;refine iI ?_;refine yM ?_;refine y3 ?_
     refine⟨l.length-(j+1),by omega,j+1,i+1,m.set i r,by omega,by omega,rfl,rfl,rfl,W2.as (AS.wr h.next _ _ _),(by show h.next≤H2.next;omega),?_,wZ hlg2 ⟨_,_,rfl⟩,?_,by rw[List.length_set];exact hm,?_,?_,?_⟩
     ·intro z hz
      rw[z5 (by omega)];exact hold2 z hz
     ·rw[z6,gb2];rfl
     ·intro x hx
      rcases List.mem_or_eq_of_mem_set hx with hx|rfl
      ·exact hmR x hx
      ·exact hrR
     ·rw[uI (by omega),sj hr1,hp,htk];simp
     ·rw[uQ (by omega),←List.drop_drop,←List.drop_drop,hdr]
   ·obtain rfl:j=l.length:=by omega
    rw[List.take_length]at htk
    have hz:(eN (l.length-i) zS).length=(l.length-i)*8:=by rw[jx];rfl
    have hle:i≤l.length:=by omega
    have hml:=fF hmR
    refine aq ?_;refine y4 ?_;refine yM ?_;refine yM ?_;refine yD ?_;refine yf ?_;refine y3 ?_
    refine yX ?_;refine cU ?_;refine dU ?_;refine dU ?_;refine iw ?_;refine br ?_;refine y4 ?_;refine yM ?_;refine yM ?_;refine aa (oU (by exact rfl) (by exact rfl) (by assumption) (by omega)) ?_
    refine aa (Bz (z:=zS) (by exact rfl) (by omega) gb (by rw[hz,List.length_append,hml];omega) (by exact vO _) rfl) ?_
    refine y3 ?_;refine y4 ?_;refine yM ?_;refine yM ?_
    refine aa (sD (by exact rfl) (by exact rfl) (by(simp(disch:=first|omega|(simp only[z1,z2];omega))only[z3,z4,z5,z6,z7,z1,z2,hb3,gb];exact rfl)) (by omega) (by omega)) ?_;refine yM ?_;refine y3 ?_;refine aP ?_
    refine lP (wZ hlg ⟨_,_,rfl⟩) rfl ?_
    have hi2:(l.filter fun r=> !P r).length=i:=by
     rw[←htk,List.length_take];omega
    obtain⟨t',ht'⟩:=sQ (t:=tl) (i:=i) (ws:=cD (ssL m++tl) (0+i*8) (eN (l.length-i) zS)) hmR (by omega) htk (by rw[hm])
    refine .inr ⟨b,UNK,t',hb1,hbn,?_,?_,by unfold UNK;omega,fun _=>rfl⟩
    ·rw[z6,gb,z7,ht']
    ·rw[hi2];rfl
 ·obtain⟨h1,h2⟩:=yc P l 0 hi
  rw[h1]
  refine yM ?_;refine y3 ?_;refine aq ?_;refine y4 ?_;refine yM ?_;refine yt ?_;refine y3 ?_;refine yY ?_;refine y4 ?_;refine yM ?_;refine yM ?_;refine y3 ?_;refine aP ?_;refine eO ?_
  refine lP (by rw[hr.log];intro z hz;cases hz) rfl ?_
  show OwS lo h (.slice a l.length c) _
  rw[List.filter_eq_self.2 (fun x hx=>by rw[h2 x hx];rfl)]
  exact q
end Go.A.Pk
end
section
set_option maxRecDepth 100000
namespace Go.A.Pk
variable {T:Nat→Option ak}
def ddS:List (List Nat)→List (List Nat)
 |a::b::l=>if a=b then ddS (b::l)else a::ddS (b::l)
 |l=>l
theorem tw:∀(l:List (List Nat)) (y x:List Nat),ddS (l++[y,x])=if y=x then ddS (l++[y])else ddS (l++[y])++[x]
 |[],y,x=>by
  show(if y=x then [x]else y::[x])=if y=x then [y]else [y]++[x]
  by_cases h:y=x
  ·rw[if_pos h,if_pos h,h]
  ·rw[if_neg h,if_neg h];rfl
 |[a],y,x=>by
  have ih:=tw [] y x
  simp only[List.nil_append]at ih
  show(if a=y then ddS (y::[x])else a::ddS (y::[x]))=_
  have e:ddS ([a]++[y])=if a=y then ddS [y]else a::ddS [y]:=rfl
  rw[e,ih]
  by_cases h:a=y
  ·simp only[if_pos h]
  ·simp only[if_neg h]
   by_cases h2:y=x
   ·simp only[if_pos h2]
   ·simp only[if_neg h2];rfl
 |a::b::l,y,x=>by
  have ih:=tw (b::l) y x
  show(if a=b then ddS (b::l++[y,x])else a::ddS (b::l++[y,x]))=_
  have e:ddS (a::b::l++[y])=if a=b then ddS (b::l++[y])else a::ddS (b::l++[y]):=rfl
  rw[e,ih]
  by_cases h:a=b
  ·simp only[if_pos h]
  ·simp only[if_neg h]
   by_cases h2:y=x
   ·simp only[if_pos h2]
   ·simp only[if_neg h2];rfl
theorem xM{l:List (List Nat)}{k:Nat}{y x:List Nat}(hy:l[k]? =some y)(hx:l[k+1]? =some x):ddS (l.take (k+1+1))=if y=x then ddS (l.take (k+1))else ddS (l.take (k+1))++[x]:=by
 rw[jg hx,jg hy,List.append_assoc]
 exact tw _ y x
theorem mF:∀{l:List (List Nat)} {x:List Nat},x∈ddS l→x∈l
 |[],_,h=>h
 |[a],_,h=>h
 |a::b::l,x,h=>by
  unfold ddS at h
  by_cases e:a=b
  ·rw[if_pos e]at h;exact List.mem_cons_of_mem _ (mF h)
  ·rw[if_neg e]at h
   rcases List.mem_cons.1 h with rfl|h
   ·exact List.mem_cons_self
   ·exact List.mem_cons_of_mem _ (mF h)
theorem pW:∀{l:List (List Nat)} {x:List Nat},x∈l→x∈ddS l
 |[],_,h=>h
 |[a],_,h=>h
 |a::b::l,x,h=>by
  unfold ddS
  by_cases e:a=b
  ·rw[if_pos e]
   rcases List.mem_cons.1 h with rfl|h
   ·exact pW (by rw[e];exact List.mem_cons_self)
   ·exact pW h
  ·rw[if_neg e]
   rcases List.mem_cons.1 h with rfl|h
   ·exact List.mem_cons_self
   ·exact List.mem_cons_of_mem _ (pW h)
theorem vc{m l:List (List Nat)}{n:Nat}(h:m.drop n=l.drop n):m.drop (n+1)=l.drop (n+1):=by
 have:=congrArg (List.drop 1) h
 rwa [List.drop_drop,List.drop_drop]at this
theorem vR:∀l:List (List Nat),(ddS l).length≤l.length
 |[]=>Nat.le_refl _
 |[a]=>Nat.le_refl _
 |a::b::l=>by
  have ih:=vR (b::l)
  unfold ddS
  by_cases e:a=b
  ·rw[if_pos e];exact Nat.le_succ_of_le ih
  ·rw[if_neg e];exact Nat.succ_le_succ ih
set_option maxHeartbeats 8000000 in
theorem tf(hp:bA T)(hf:T 192=some f192){h:Heap}(hr:Rdy h){lo:Nat}{l:List (List Nat)}{v:Value}(q:OwS lo h v l)(hl:∀r∈l,IsS r)(hn:l.length<1000000):
 Gs T 192 [v] h (vB v) (fun v h'=>OwS lo h' v (ddS l)):=by
 obtain⟨a,c,rfl⟩:=q.form
 refine .of hp hf ?_ ?_
 ·intro v h1 h2 hv hn2 hag hq
  exact OwS.flat hv hq
 by_cases h2:l.length<2
 ·have e:ddS l=l:=by
   match l,h2 with
   |[],_=>rfl
   |[_],_=>rfl
  rw[e]
  have m1:aC .lss (.int .i64 (l.length:Nat)) (.int .i64 2)=some (.bool true):=j7 (by omega)
  refine y4 ?_;refine yM ?_;refine y3 ?_;refine aq ?_;refine y4 ?_;refine yM ?_;refine yD ?_
  refine aa (aF (by exact rfl) (by exact rfl) (by with_reducible assumption)) ?_;refine y3 ?_;refine yY ?_;refine y4 ?_;refine yM ?_;refine yM ?_;refine y3 ?_;refine aP ?_;refine eO ?_
  exact lP (by rw[hr.log];intro z hz;cases hz) rfl q
 have m0:aC .lss (.int .i64 (l.length:Nat)) (.int .i64 2)=some (.bool false):=kT (by omega)
 rcases q with⟨_,rfl⟩|⟨b,c',tl,hb1,hb2,hb3,hv,hcl,hcu⟩
 ·exact absurd (show([]:List (List Nat)).length<2 by decide) h2
 cases hv
 obtain rfl:=hcu (fun q=>by rw[q]at h2;simp at h2)
 refine y4 ?_;refine yM ?_;refine y3 ?_;refine aq ?_;refine y4 ?_;refine yM ?_;refine yD ?_
 refine aa (aF (by exact rfl) (by exact rfl) (by with_reducible assumption)) ?_;refine y3 ?_;refine yX ?_;refine aM ?_;refine br ?_;refine aq ?_;refine y4 ?_;refine yM ?_
 refine y3 ?_;refine aI ?_
 refine dh (fun mm e ds h'=>∃k:Nat,k+1≤l.length∧l.length-(k+1)=mm∧e=[(0, .slice (some ⟨b,0,none⟩) l.length UNK),(3, .int .i64 ((k+1:Nat):Int))]∧ds=[]∧h=h'∧ddS (l.take (k+1))=l.take (k+1))
  ⟨0,by omega,rfl,rfl,rfl,rfl,?_⟩ ?_
 ·cases l with
  |nil=>rfl
  |cons a l=>rfl
 rintro mm e ds _ ⟨k,hk,rfl,rfl,rfl,rfl,hdd⟩
 by_cases hlt:k+1<l.length
 ·obtain⟨x,hx⟩:∃r,l[k+1]? =some r:=⟨l[k+1],List.getElem?_eq_getElem hlt⟩
  obtain⟨y,hy⟩:∃r,l[k]? =some r:=⟨l[k],List.getElem?_eq_getElem (by omega)⟩
  have hxs:=hl x (List.mem_of_getElem? hx)
  have hys:=hl y (List.mem_of_getElem? hy)
  have hst:=xM hy hx
  have rx:=n9 (t:=tl) hl hx
  have ry:=n9 (t:=tl) hl hy
  have kx:=aV hxs.len
  have ky:=aV hys.len
  have mlt:aC .lss (.int .i64 ((k+1:Nat):Int)) (.int .i64 (l.length:Nat))=some (.bool true):=j7 (by omega)
  have msb:aC .sub (.int .i64 ((k+1:Nat):Int)) (.int .i64 1)=some (.int .i64 ((k:Nat):Int)):=jB (by rw[bL]<;>omega)
  by_cases hxy:y=x
  ·rw[if_pos hxy,hdd]at hst
   refine aq ?_;refine y4 ?_;refine yM ?_;refine yM ?_;refine yD ?_;refine aa (aF (by exact rfl) (by exact rfl) (by with_reducible assumption)) ?_;refine y3 ?_
   refine yY ?_;refine aM ?_;refine br ?_;refine aq ?_;refine aI ?_;refine aq ?_;refine cK ?_;refine qM ?_;refine qM ?_
   refine an rfl rfl rfl (by exact rfl) (by exact rfl) (by exact rfl) (cM (by exact rfl) (by exact rfl) (by omega)) ?_;refine an rfl rfl rfl (by exact rfl) (by exact rfl) (by exact rfl) (au (by exact rfl) (by assumption) (by assumption) (by assumption)) ?_;refine qM ?_
   refine qM ?_;refine an rfl rfl rfl (by exact rfl) (by exact rfl) (by exact rfl) (aF (by exact rfl) (by exact rfl) (by with_reducible assumption)) ?_;refine an rfl rfl rfl (by exact rfl) (by exact rfl) (by exact rfl) (cM (by exact rfl) (by exact rfl) (by omega)) ?_
   refine an rfl rfl rfl (by exact rfl) (by exact rfl) (by exact rfl) (au (by exact rfl) (by assumption) (by assumption) (by assumption)) ?_
   refine an rfl rfl rfl (by exact rfl) (by exact rfl) (by exact rfl) (j8 (b:=y) (by exact rfl) (by exact rfl) hxs.len hys.len) ?_
   rw[decide_eq_true hxy.symm]
   refine dF ?_;refine y1 ?_;refine br ?_;refine yY ?_;refine y4 ?_;refine yM ?_;refine yM ?_;refine aa (oU (by exact rfl) (by exact rfl) (by assumption) (by omega)) ?_
   refine yM ?_;refine y3 ?_;refine aq ?_;refine y4 ?_;refine yM ?_;refine y3 ?_;refine aI ?_
   refine dh (fun mm e ds h'=>∃(k2 i:Nat) (m:List (List Nat)),k2+1≤l.length-(k+1)∧l.length-(k+1)-(k2+1)=mm∧e=[(0, .slice (some ⟨b,0,none⟩) l.length UNK),(3, .int .i64 (i:Nat)),(4, .slice (some ⟨b,0+(k+1)*8,none⟩) (l.length-(k+1)) UNK),(5, .int .i64 ((k2+1:Nat):Int))]∧ds=[]∧
    WF h'∧h.next≤h'.next∧(∀z,z<lo→h'.get z=h.get z)∧(∀z∈h'.log,vB (.slice (some ⟨b,0,none⟩) l.length UNK) z)∧h'.get b=some (.cells (ssL m++tl) true 8)∧m.length=l.length∧(∀r∈m,IsS r)∧i≤k+1+k2∧m.take i=ddS (l.take (k+1+k2+1))∧m.drop (k+1+k2)=l.drop (k+1+k2))
    ⟨0,k+1,l,by omega,rfl,rfl,rfl,hr.wf,Nat.le_refl _,fun _ _=>rfl,(by rw[hr.log];intro z hz;cases hz),hb3,rfl,hl,Nat.le_refl _,hst.symm,rfl⟩ ?_
   rintro mm e ds H ⟨k2,i,m,hk2,rfl,rfl,rfl,hw,hnx,hold,hlg,gb,hm,hmR,hik,htk,hdr⟩
   have hbn:b<H.next:=WF.iH hw gb
   clear hx hy hxs hys hst rx ry kx ky mlt msb hxy
   by_cases hlt2:k2+1<l.length-(k+1)
   ·obtain⟨x',hx'⟩:∃r,l[k+1+k2+1]? =some r:=⟨l[k+1+k2+1],List.getElem?_eq_getElem (by omega)⟩
    obtain⟨y',hy'⟩:∃r,l[k+1+k2]? =some r:=⟨l[k+1+k2],List.getElem?_eq_getElem (by omega)⟩
    have mx:m[k+1+k2+1]? =some x':=by
     have e1:(m.drop (k+1+k2))[1]? =(l.drop (k+1+k2))[1]? :=by rw[hdr]
     rw[List.getElem?_drop,List.getElem?_drop]at e1
     exact e1.trans hx'
    have my:m[k+1+k2]? =some y':=by
     have e1:(m.drop (k+1+k2))[0]? =(l.drop (k+1+k2))[0]? :=by rw[hdr]
     rw[List.getElem?_drop,List.getElem?_drop]at e1
     exact e1.trans hy'
    have hxs:=hmR x' (List.mem_of_getElem? mx)
    have hys:=hmR y' (List.mem_of_getElem? my)
    have hst:=xM hy' hx'
    have rx:=n9 (t:=tl) hmR mx
    have ry:=n9 (t:=tl) hmR my
    rw[show 0+(k+1+k2+1)*8=0+(k+1)*8+(k2+1)*8 by omega]at rx
    rw[show 0+(k+1+k2)*8=0+(k+1)*8+k2*8 by omega]at ry
    have kx:=aV hxs.len
    have ky:=aV hys.len
    have mlt:aC .lss (.int .i64 ((k2+1:Nat):Int)) (.int .i64 ((l.length-(k+1):Nat):Int))=some (.bool true):=j7 (by omega)
    have msb:aC .sub (.int .i64 ((k2+1:Nat):Int)) (.int .i64 1)=some (.int .i64 ((k2:Nat):Int)):=jB (by rw[bL]<;>omega)
    by_cases hxy:y'=x'
    ·rw[if_pos hxy]at hst
     refine aq ?_;refine y4 ?_;refine yM ?_;refine yM ?_;refine yD ?_;refine aa (aF (by exact rfl) (by exact rfl) (by with_reducible assumption)) ?_;refine y3 ?_
     refine yY ?_;refine aM ?_;refine br ?_;refine aq ?_;refine aI ?_;refine aq ?_;refine cK ?_;refine qM ?_;refine qM ?_
     refine an rfl rfl rfl (by exact rfl) (by exact rfl) (by exact rfl) (cM (by exact rfl) (by exact rfl) (by omega)) ?_;refine an rfl rfl rfl (by exact rfl) (by exact rfl) (by exact rfl) (au (by exact rfl) (by assumption) (by assumption) (by assumption)) ?_;refine qM ?_
     refine qM ?_;refine an rfl rfl rfl (by exact rfl) (by exact rfl) (by exact rfl) (aF (by exact rfl) (by exact rfl) (by with_reducible assumption)) ?_;refine an rfl rfl rfl (by exact rfl) (by exact rfl) (by exact rfl) (cM (by exact rfl) (by exact rfl) (by omega)) ?_
     refine an rfl rfl rfl (by exact rfl) (by exact rfl) (by exact rfl) (au (by exact rfl) (by assumption) (by assumption) (by assumption)) ?_
     refine an rfl rfl rfl (by exact rfl) (by exact rfl) (by exact rfl) (j8 (b:=y') (by exact rfl) (by exact rfl) hxs.len hys.len) ?_
     rw[decide_eq_true hxy.symm]
     refine dF ?_;refine y1 ?_;refine br ?_;refine yX ?_;refine aM ?_;refine fI ?_;refine br ?_;refine aK ?_;refine yM ?_;refine iI ?_
     refine yM ?_;refine y3 ?_
     exact⟨l.length-(k+1)-(k2+1+1),by omega,k2+1,i,m,by omega,rfl,rfl,rfl,hw,hnx,hold,hlg,gb,hm,hmR,by omega,by rw[htk,←hst];rfl,vc hdr⟩
    ·rw[if_neg hxy]at hst
     have kc:=vU (t:=tl) hmR hxs (i:=i) (by omega)
     have kw:cD (ssL m++tl) (0+i*8) (cellsOf (sv x'))=ssL (m.set i x')++tl:=by
      have e:cellsOf (sv x')=us x':=by show(us x').toArray.toList=_;simp
      rw[e,vW hmR hxs (by omega)]
     refine aq ?_;refine y4 ?_;refine yM ?_;refine yM ?_;refine yD ?_;refine aa (aF (by exact rfl) (by exact rfl) (by with_reducible assumption)) ?_;refine y3 ?_
     refine yY ?_;refine aM ?_;refine br ?_;refine aq ?_;refine aI ?_;refine aq ?_;refine cK ?_;refine qM ?_;refine qM ?_
     refine an rfl rfl rfl (by exact rfl) (by exact rfl) (by exact rfl) (cM (by exact rfl) (by exact rfl) (by omega)) ?_;refine an rfl rfl rfl (by exact rfl) (by exact rfl) (by exact rfl) (au (by exact rfl) (by assumption) (by assumption) (by assumption)) ?_;refine qM ?_
     refine qM ?_;refine an rfl rfl rfl (by exact rfl) (by exact rfl) (by exact rfl) (aF (by exact rfl) (by exact rfl) (by with_reducible assumption)) ?_;refine an rfl rfl rfl (by exact rfl) (by exact rfl) (by exact rfl) (cM (by exact rfl) (by exact rfl) (by omega)) ?_
     refine an rfl rfl rfl (by exact rfl) (by exact rfl) (by exact rfl) (au (by exact rfl) (by assumption) (by assumption) (by assumption)) ?_
     refine an rfl rfl rfl (by exact rfl) (by exact rfl) (by exact rfl) (j8 (b:=y') (by exact rfl) (by exact rfl) hxs.len hys.len) ?_
     rw[decide_eq_false (Ne.symm hxy)]
     refine dF ?_;refine y1 ?_;refine br ?_;refine yY ?_;refine y4 ?_;refine yM ?_;refine yM ?_;refine yM ?_;refine yM ?_
     refine aa (cM (by exact rfl) (by exact rfl) (by omega)) ?_;refine aa (au (by exact rfl) (by assumption) (by assumption) (by assumption)) ?_;refine aa (cM (by exact rfl) (by exact rfl) (by omega)) ?_
     refine aa (iA (by exact rfl) (by exact rfl) gb kc kw) ?_
     refine y3 ?_;refine aK ?_;refine yM ?_;refine iI ?_;refine yM ?_;refine eD ?_
     refine y1 ?_;refine fI ?_;refine br ?_;refine aK ?_;refine yM ?_;refine iI ?_;refine yM ?_;refine y3 ?_
     refine⟨l.length-(k+1)-(k2+1+1),by omega,k2+1,i+1,m.set i x',by omega,rfl,rfl,rfl,hw.as (AS.wr h.next _ _ _),hnx,?_,wZ hlg ⟨_,_,rfl⟩,?_,by rw[List.length_set];exact hm,?_,by omega,?_,?_⟩
     ·intro z hz
      rw[z5 (by omega)];exact hold z hz
     ·rw[z6,gb];rfl
     ·intro r hx
      rcases List.mem_or_eq_of_mem_set hx with hx|rfl
      ·exact hmR r hx
      ·exact hxs
     ·rw[uI (by omega),htk,←Nat.add_assoc,hst]
     ·rw[uQ (by omega)];exact vc hdr
   ·have hkl:k+1+k2+1=l.length:=by omega
    rw[hkl,List.take_length]at htk
    have mlt:aC .lss (.int .i64 ((k2+1:Nat):Int)) (.int .i64 ((l.length-(k+1):Nat):Int))=some (.bool false):=kT (by omega)
    have hz:(eN (l.length-i) zS).length=(l.length-i)*8:=by rw[jx];rfl
    have hml:=fF hmR
    refine aq ?_;refine y4 ?_;refine yM ?_;refine yM ?_;refine yD ?_;refine aa (aF (by exact rfl) (by exact rfl) (by with_reducible assumption)) ?_;refine y3 ?_
    refine yX ?_;refine cU ?_;refine dU ?_;refine dU ?_;refine iw ?_;refine br ?_;refine y4 ?_;refine yM ?_;refine yM ?_;refine aa (oU (by exact rfl) (by exact rfl) (by assumption) (by omega)) ?_
    refine aa (Bz (z:=zS) (by exact rfl) (by omega) gb (by rw[hz,List.length_append,hml];omega) (by exact vO _) rfl) ?_
    refine y3 ?_;refine y4 ?_;refine yM ?_;refine yM ?_
    refine aa (sD (by exact rfl) (by exact rfl) (by(simp(disch:=first|omega|(simp only[z1,z2];omega))only[z3,z4,z5,z6,z7,z1,z2,hb3,gb];exact rfl)) (by omega) (by omega)) ?_;refine yM ?_;refine y3 ?_;refine aP ?_;refine kH ?_;refine eO ?_;refine eO ?_;refine kH ?_;refine eO ?_
    refine lP (wZ hlg ⟨_,_,rfl⟩) rfl ?_
    have hi2:(ddS l).length=i:=by
     rw[←htk,List.length_take];omega
    obtain⟨t',ht'⟩:=sQ (t:=tl) (i:=i) (ws:=cD (ssL m++tl) (0+i*8) (eN (l.length-i) zS)) hmR (by omega) htk (by rw[hm])
    refine .inr ⟨b,UNK,t',hb1,hbn,?_,?_,by unfold UNK;omega,fun _=>rfl⟩
    ·rw[z6,gb,z7,ht']
    ·rw[hi2];rfl
  ·rw[if_neg hxy,hdd,←jg hx]at hst
   refine aq ?_;refine y4 ?_;refine yM ?_;refine yM ?_;refine yD ?_;refine aa (aF (by exact rfl) (by exact rfl) (by with_reducible assumption)) ?_;refine y3 ?_
   refine yY ?_;refine aM ?_;refine br ?_;refine aq ?_;refine aI ?_;refine aq ?_;refine cK ?_;refine qM ?_;refine qM ?_
   refine an rfl rfl rfl (by exact rfl) (by exact rfl) (by exact rfl) (cM (by exact rfl) (by exact rfl) (by omega)) ?_;refine an rfl rfl rfl (by exact rfl) (by exact rfl) (by exact rfl) (au (by exact rfl) (by assumption) (by assumption) (by assumption)) ?_;refine qM ?_
   refine qM ?_;refine an rfl rfl rfl (by exact rfl) (by exact rfl) (by exact rfl) (aF (by exact rfl) (by exact rfl) (by with_reducible assumption)) ?_;refine an rfl rfl rfl (by exact rfl) (by exact rfl) (by exact rfl) (cM (by exact rfl) (by exact rfl) (by omega)) ?_
   refine an rfl rfl rfl (by exact rfl) (by exact rfl) (by exact rfl) (au (by exact rfl) (by assumption) (by assumption) (by assumption)) ?_
   refine an rfl rfl rfl (by exact rfl) (by exact rfl) (by exact rfl) (j8 (b:=y) (by exact rfl) (by exact rfl) hxs.len hys.len) ?_
   rw[decide_eq_false (Ne.symm hxy)]
   refine dF ?_;refine y1 ?_;refine br ?_;refine yX ?_;refine aM ?_;refine fI ?_;refine br ?_;refine aK ?_;refine yM ?_;refine iI ?_
   refine yM ?_;refine y3 ?_
   exact⟨l.length-(k+1+1),by omega,k+1,by omega,rfl,rfl,rfl,rfl,hst⟩
 ·have hkl:k+1=l.length:=by omega
  rw[hkl,List.take_length]at hdd
  have mlt:aC .lss (.int .i64 ((k+1:Nat):Int)) (.int .i64 (l.length:Nat))=some (.bool false):=kT (by omega)
  refine aq ?_;refine y4 ?_;refine yM ?_;refine yM ?_;refine yD ?_;refine aa (aF (by exact rfl) (by exact rfl) (by with_reducible assumption)) ?_;refine y3 ?_
  refine yX ?_;refine cU ?_;refine dU ?_;refine dU ?_;refine iw ?_;refine br ?_;refine y4 ?_;refine yM ?_;refine yM ?_;refine y3 ?_;refine aP ?_
  refine lP (by rw[hr.log];intro z hz;cases hz) rfl ?_
  rw[hdd]
  exact .inr ⟨b,UNK,tl,hb1,hb2,hb3,rfl,hcl,fun _=>rfl⟩
end Go.A.Pk
end
section
set_option maxRecDepth 100000
namespace Go.A.Pk
variable {T:Nat→Option ak}
inductive OwE (lo:Nat) (h:Heap) (sz:Nat):Value→Nat→List Value→Prop
 |own {v n cs}:Own lo h sz v n cs→OwE lo h sz v n cs
 |lit {b}:lo≤b→b<h.next→h.get b=some (.cells [] true sz)→OwE lo h sz (.slice (some ⟨b,0,none⟩) 0 0) 0 []
section
variable {base:Nat} {rnd:Option Nat} {Q:XQ} {e:Env} {ds:Dfs} {h:Heap} {dst:Option Nat} {os:List bk} {x y:Operand} {v u:Value} {lo sz n i:Nat} {cs:List Value} {k:IntKind}
end
end Go.A.Pk
end
section
set_option maxRecDepth 100000
namespace Go.A.Pk
variable {T:Nat→Option ak}
theorem Dc{base:Nat}{rnd:Option Nat}{Q:XQ}{e:Env}{ds:Dfs}{h:Heap}{lo sz bytes n:Nat}{dst:Option Nat}{os:List bk}{x y:Operand}{v u:Value}{cs c1:List Value}(s:Own lo h sz v n cs)(hn:n<1000000)(hsz:0<sz)(hb:bytes≤100000)
 (hx:ev h e x=some v)(hy:ev h e y=some u)(hs:eL h sz u=some (c1,1))(hl1:c1.length=sz)(h1:eM c1=true)
 (hK:∀h',Own h.next h' sz (.slice (some ⟨h.next,0,none⟩) (n+1) UNK) (n+1) (cs++c1)→h'.next=h.next+1→(∀z∈h'.log,lo≤z∨z∈h.log)→(WF h→WF h')→(∀z,z<h.next→(∀m c,v≠ .slice (some ⟨z,0,none⟩) m c)→h'.get z=h.get z)→WO T base rnd Q os (bZ e dst (.slice (some ⟨h.next,0,none⟩) (n+1) UNK)) ds h'):
 WO T base rnd Q (⟨dst, .append sz bytes x y,none⟩::os) e ds h:=by
 have hbd:(2*(n+1)+768)*bytes≤281474976710656:=by
  have:(2*(n+1)+768)*bytes≤2000768*100000:=Nat.mul_le_mul (by omega) hb
  omega
 cases s with
 |nil=>
  refine aa (uA (n:=1) hx hy hs (by omega) (by simpa using hbd) rfl) ?_
  exact hK _ (Own.full (lo:=h.next) (h:=h.push (.cells c1 true sz)) (sz:=sz) (q:=h.next) (n:=1) (cs:=c1) (Nat.le_refl _) (Nat.lt_succ_self _) (z3 _ _) (by omega) (by omega)) rfl (fun z hz=> .inr hz) (fun w=>w.push _) (fun z hz _=>z4 hz)
 | @full q _ _ q1 q2 q3 q4 q5=>
   refine aa (th (n:=1) (vs:=cs) (ws:=cs++c1) hx hy hs (by omega) q3 q4 hsz h1 hbd (dY _ _)) ?_
   exact hK _ (.full (Nat.le_refl _) (Nat.lt_succ_self _) (z3 _ _) (by rw[List.length_append,q4,hl1,Nat.add_mul,Nat.one_mul]) (by omega)) rfl (fun z hz=>by
    rcases ew (b:=q) (o:= .dead) hz with rfl|hz
    ·exact .inl q1
    ·exact .inr hz) (fun w=>(w.as (AS.wr base _ q .dead)).push _) (fun z hz hne=>(z4 (by exact hz)).trans (z5 (fun e=>hne n UNK (by subst e;rfl))))
section
open I
def vt:aX:=I.R [g 8 (.new (aU 8 (.int .u64 0))),S 8 8 16] [6,8]
def u0:aX:= .block 1 (I.R [L 17 6,N 18 8 8,g 19 (.cW (aU 8 (.int .u64 0)) 1 [(0,8,(t 18))]),g 20 (.append 8 64 (t 17) (t 19)),S 1 6 20] [])
end
set_option maxHeartbeats 8000000 in
theorem y7(hp:bA T){H:Heap}(hr:Rdy H){q l lo lo2:Nat}{fv v:Value}{ss:List (List Nat)}{f:Fi}(hfs:IsS f.s)(hm:ss.length<1000000)(hlo:lo≤q)
 (gl:H.get l=some (.loop [(6, .pointer (some ⟨q,0,none⟩)),(14,fv)] [15,16] vt u0 0 .normal))
 (go:H.get q=some (.cells [v] true 1))(own:Own lo2 H 8 v ss.length (ssL ss))(hlo2:lo≤lo2)(hq2:q<lo2)(hl2:l<lo2)(h2n:lo2≤H.next):
 FW T (.yield l) (fiV f) H fun r H'=>r= .ret (.bool true)∧(∀z∈H'.log,lo≤z)∧q∈H'.log∧∃p,H'.get q=some (.cells [.slice (some ⟨p,0,none⟩) (ss.length+1) UNK] true 1)∧H.next≤p∧Own lo2 H' 8 (.slice (some ⟨p,0,none⟩) (ss.length+1) UNK) (ss++[f.s]).length (ssL (ss++[f.s]))∧(∀z,z<H.next→z≠q→(∀m c,v≠ .slice (some ⟨z,0,none⟩) m c)→H'.get z=H.get z)∧WF H'∧H.next≤H'.next∧p<H'.next:=by
 have no:q≠l:=fun e=>by subst e;rw[go]at gl;cases gl
 have ko:=hr.wf.iH go
 have kl:=hr.wf.iH gl
 have hvl:∀m c,v≠ .slice (some ⟨l,0,none⟩) m c:=fun m c e=>by
  rw[e]at own
  generalize hn:ss.length=n at own
  generalize ssL ss=cs at own
  cases own with
  |full h1=>omega
 have hvq:∀m c,v≠ .slice (some ⟨q,0,none⟩) m c:=fun m c e=>by
  rw[e]at own
  generalize hn:ss.length=n at own
  generalize ssL ss=cs at own
  cases own with
  |full h1=>omega
 refine FW.Ke hp (q:=q) (R:=fun H'=>∃p,H'.get q=some (.cells [.slice (some ⟨p,0,none⟩) (ss.length+1) UNK] true 1)∧H.next≤p∧Own lo2 H' 8 (.slice (some ⟨p,0,none⟩) (ss.length+1) UNK) (ss++[f.s]).length (ssL (ss++[f.s]))∧(∀z,z<H.next→z≠q→(∀m c,v≠ .slice (some ⟨z,0,none⟩) m c)→H'.get z=H.get z)∧WF H'∧H.next≤H'.next∧p<H'.next) gl rfl kl ko no ?_
 have k8:=aV hfs.len
 have k9:=bE hfs.len
 have kln:=hfs.len
 unfold vt
 refine aK ?_;refine aa (di) ?_
 refine aa (dx (by exact rfl) (by exact rfl) (by(simp(disch:=first|omega|(simp only[z1,z2];omega))only[z3,z4,z5,z6,z7,z1,z2,gl,go];exact rfl)) (by(simp only[aJ];assumption)) (by exact rfl) (by exact dH _)) ?_;refine eD ?_
 refine y1 ?_
 refine⟨rfl,by(simp(disch:=first|omega|(simp only[z1,z2];omega))only[z3,z4,z5,z6,z7,z1,z2,gl,go];exact rfl),?_⟩
 unfold u0
 refine aI ?_
 refine WE.Cs ?_
 intro hA hAe
 have A1:∀z,z<H.next→z≠l→H.get z=hA.get z:=fun z hz hne=>by rw[hAe];symm;simp(disch:=first|omega|(simp only[z1,z2];omega))only[z5,z4]
 have A3:hA.get H.next=some (.cells (us f.s) true 1):=by rw[hAe];(simp(disch:=first|omega|(simp only[z1,z2];omega))only[z3,z4,z5,z6,z7,z1,z2,gl,go];done)
 have A2:hA.get l=some (.loop [(6, .pointer (some ⟨q,0,none⟩)),(14,fv)] [15,16] vt u0 1 .normal):=by rw[hAe];(simp(disch:=first|omega|(simp only[z1,z2];omega))only[z3,z4,z5,z6,z7,z1,z2,gl,go,A3];exact rfl)
 have A5:hA.next=H.next+1:=by rw[hAe];rfl
 have A6:hA.log=[]:=by rw[hAe];simp(disch:=first|omega|(simp only[z1,z2];omega))only[Heap.aG,Heap.pZ];exact hr.log
 have A7:WF hA:=by rw[hAe];exact(((hr.wf.push _).as (AS.wr _ _ _ _)).as (AS.wr _ _ _ _))
 clear hAe
 have Bo:=(A1 q ko no).symm.trans go
 have hsl:ssL [f.s]=us f.s:=by simp[ssL]
 have ownA:Own lo2 hA 8 v ss.length (ssL ss):=own.keep (by omega) fun z hz hz2=>(A1 z hz2 (by omega)).symm
 clear go
 refine aK ?_;refine yL ?_;refine aa (au (by exact rfl) (by assumption) (by assumption) (by assumption)) ?_
 refine aa (nv (AY hfs (by exact rfl)) (show bR (aU 8 (Value.int IntKind.u64 0))=8 from rfl)) ?_
 refine Dc (lo:=lo2) (c1:=us f.s) (ownA.ext ((Ext.refl hA).push _)) hm (by omega) (by omega) (by exact rfl) (by exact rfl) (qu (cs:=us f.s) (by(simp(disch:=first|omega|(simp only[z1,z2];omega))only[z3,z4,z5,z6,z7,z1,z2,gl,A3,A2,Bo];exact rfl)) k9 (by rw[aJ,hfs.len])) (by rw[aJ,hfs.len]) (dH _) ?_
 intro h3 own3 n3 l3 w3 o3
 have own3:Own (H.next+2) h3 8 (.slice (some ⟨H.next+2,0,none⟩) (ss.length+1) UNK) (ss.length+1) (ssL ss++us f.s):=by
  have e:(hA.push (.cells (us f.s) true 8)).next=H.next+2:=by show hA.next+1=_;omega
  rw[←e];exact own3
 have n3:h3.next=H.next+3:=by rw[n3];show hA.next+1+1=_;omega
 have l3:∀z∈h3.log,lo2≤z:=fun z hz=>(l3 z hz).elim id fun e=>by
  have e:z∈hA.log:=e
  rw[A6]at e;cases e
 have o3:∀z,z<H.next+1→(∀m c,v≠ .slice (some ⟨z,0,none⟩) m c)→h3.get z=hA.get z:=fun z hz hne=>(o3 z (by show z<hA.next+1;omega) hne).trans (z4 (by omega))
 have W3:WF h3:=w3 (A7.push _)
 have e5:∀o,(hA.push o).next=H.next+2:=fun o=>by show hA.next+1=_;omega
 rw[e5]
 have Co:=(o3 q (by omega) hvq).trans Bo
 have Cl:=(o3 l (by omega) hvl).trans A2
 have hce:ssL (ss++[f.s])=ssL ss++us f.s:=by rw[rO,hsl]
 have hcl:(ss++[f.s]).length=ss.length+1:=by simp
 clear Bo A3 A2
 refine yS ?_;refine eD ?_;refine y1 ?_;refine fI ?_
 refine⟨rfl,⟨_,by(simp(disch:=first|omega|(simp only[z1,z2];omega))only[z3,z4,z5,z6,z7,z1,z2,gl,Co,Cl];exact rfl),rfl⟩,fun z hz=> ?_,oN (by omega),⟨_,_,_,Heap.bC Co,rfl⟩,H.next+2,(z5 no).trans (Heap.bC Co),by omega,?_,fun z hz h1 h2=> ?_,?_,?_,?_⟩
 ·rcases ew hz with rfl|hz
  ·exact hlo
  ·exact Nat.le_trans hlo2 (l3 z hz)
 ·rw[hce,hcl]
  exact Own.low (lo:=H.next+2) (Own.keep own3 (Nat.le_refl _) fun z hz _=>(z5 (by omega)).trans (z5 (by omega))) (by omega)
 ·by_cases hl:z=l
  ·subst hl
   rw[gl]
   exact Heap.bC ((z5 (Ne.symm no)).trans Cl)
  ·exact(z5 hl).trans ((z5 h1).trans ((o3 z (by omega) h2).trans (A1 z (by omega) hl).symm))
 ·exact(W3.as (AS.wr _ _ _ _)).as (AS.wr _ _ _ _)
 ·show H.next≤h3.next
  omega
 ·show H.next+2<h3.next
  omega
end Go.A.Pk
end
section
set_option maxRecDepth 100000
namespace Go.A.Pk
variable {T:Nat→Option ak}
theorem wo{a b:List Nat}{f:Fi}(h:f∈dK a b):IsS f.s∧∃t x y z,f.s=gV (dR b t) (dy (dR b t)).1 x y z:=by
 unfold dK at h
 split at h
 ·cases h
 ·obtain⟨t,_,h⟩:=List.mem_flatMap.1 h
  unfold jG xS nA kQ mC at h
  obtain⟨z,_,h⟩:=List.mem_flatMap.1 h
  obtain⟨y,_,h⟩:=List.mem_flatMap.1 h
  obtain⟨x,_,h⟩:=List.mem_flatMap.1 h
  split at h
  ·rw[List.mem_singleton.1 h]
   exact⟨jy (lS b t) _ _ _ _,t,x,y,z,rfl⟩
  ·cases h
structure PPl (l q:Nat) (H0:Heap) (L:bJ) (done:List Fi) (H:Heap):Prop where
 old:∀z,z<l→z≠q→H.get z=H0.get z
 loop:H.get l=some L
 nx:l<H.next
 val:∃v,H.get q=some (.cells [v] true 1)∧Own (l+1) H 8 v (done.map (·.s)).length (ssL (done.map (·.s)))
 few:done.length≤100000
def wPl(q:Nat)(H:Heap)(z:Nat):Prop:=z=q∨∃m c,H.get q=some (.cells [.slice (some ⟨z,0,none⟩) m c] true 1)
theorem PPl.eW{l q:Nat}{H0:Heap}{L:bJ}(hq:q<l)(done:List Fi)(H H':Heap)(p:PPl l q H0 L done H)(hn:H.next≤H'.next)(h:∀x,x<H.next→H'.get x=H.get x):PPl l q H0 L done H':=by
 obtain⟨p1,p2,p3,⟨v,p4,p5⟩,p6⟩:=p
 exact⟨fun z hz hne=>(h z (by omega)).trans (p1 z hz hne),(h l p3).trans p2,by omega,⟨v,(h q (by omega)).trans p4,p5.keep hn fun z _ hz=>h z hz⟩,p6⟩
theorem Gv{lo sz n:Nat}{h:Heap}{p m c:Nat}{cs:List Value}(s:Own lo h sz (.slice (some ⟨p,0,none⟩) m c) n cs):lo≤p∧p<h.next:=by
 cases s with
 |full h1 h2=>exact⟨h1,h2⟩
theorem Bv(hf:T 189=some (.jI (mP 168 190))){k:Nat}(hk:k=168∨k=190){lo:Nat}{h:Heap}{v:Value}{l:List (List Nat)}(s:OwS lo h v l)(hok:∀x∈l,IsS x)(hl:l.length<1000000):
 Gs T 189 [v, .func (.func k) #[] #[]] h (vB v) (fun _ h'=>OwS lo h' v (eG l)):=by
 have hlen:=je l
 have e0:B0 168 190 (.func (.func k) #[] #[])=true:=by
  rcases hk with rfl|rfl<;>rfl
 rcases s with⟨rfl,rfl⟩|⟨b,c,tl,h1,h2,h3,rfl,h4,h5⟩
 ·have e:eG []=[]:=List.length_eq_zero_iff.1 hlen
  rw[e]
  refine⟨.ret (.tuple #[]),h,⟨1,fun n hn=> ?_⟩,⟨Nat.le_refl _,fun z hz=> .inl hz,fun _ _ _=>rfl,id⟩, .tuple #[],rfl, .inl ⟨rfl,rfl⟩⟩
  obtain⟨k',rfl⟩:∃k,n=k+1:=⟨n-1,by omega⟩
  simp only[iz,hf,mP,e0,cond_true]
 ·have e2:(B0 168 190 (.func (.func k) #[] #[])&&(Nat.beq 0 0&&Nat.blt l.length 1000000))=true:=by rw[e0,gz hl];rfl
  have e3:=xK (t:=tl) hok
  have e4:bX (l.length*8) (ssL l++tl)=tl:=by rw[cA,←fF hok,List.drop_left]
  refine⟨.ret (.tuple #[]),h.wr h.next b (.cells (ssL (eG l)++tl) true 8),⟨1,fun n hn=> ?_⟩,?_, .tuple #[],rfl, .inr ⟨b,c,tl,h1,h2,?_,by rw[hlen],by omega,fun q=>h5 fun q2=>q (by rw[q2];exact List.length_eq_zero_iff.1 (je []))⟩⟩
  ·obtain⟨k',rfl⟩:∃k,n=k+1:=⟨n-1,by omega⟩
   simp only[iz,hf,mP,h3,e2,cond_true,e3,e4]
  ·refine⟨Nat.le_refl _,fun z hz=> ?_,fun z hz hnz=> ?_,fun w=>w.as (AS.wr h.next _ _ _)⟩
   ·rcases ew hz with rfl|hz
    ·exact .inr ⟨_,_,rfl⟩
    ·exact .inl hz
   ·exact z5 (fun e=>hnz (by rw[e];exact⟨_,_,rfl⟩))
  ·show(h.wr h.next b (.cells (ssL (eG l)++tl) true 8)).get b=_
   rw[z6,h3];rfl
structure Gu (T:Nat→Option ak):Prop where
 fi:Be T
 f72:T 72=some f72
 f167:T 167=some f167
 f189:T 189=some (.jI (mP 168 190))
 f192:T 192=some f192
theorem BU(F:Gu T){h:Heap}(hr:Rdy h){lo:Nat}(hlo:h.next≥lo){v:Value}{l:List (List Nat)}(s:OwS lo h v l)(hok:∀x∈l,IsS x)(hl:l.length<1000000):
 Gs T 167 [v, .func (.func 168) #[] #[]] h (vB v) (fun v h'=>OwS lo h' v (ddS (eG l))):=by
 have hp:=F.fi.ft.li.p
 refine .of hp F.f167 (fun v h1 h2 hv hn2 hag hq=>OwS.flat hv hq) ?_
 have C1:=Bv F.f189 (.inl rfl) (h:={h with log:=[]}) (s.log []) hok hl
 refine y4 ?_;refine yM ?_;refine y3 ?_;refine y4 ?_;refine yM ?_;refine yM ?_
 refine yC ?_
 refine FW.gs C1 (fun v h' m q=>q.log m) ?_
 rintro _ H1 x1 q1
 clear C1
 have hok2:∀x∈eG l,IsS x:=fun x hx=>hok x (gL.1 hx)
 have C2:=tf hp F.f192 (h:={H1 with log:=[]}) (.of (x1.wf hr.wf)) (q1.log []) hok2 (by rw[je];exact hl)
 refine y3 ?_;refine y4 ?_;refine yM ?_
 refine yC ?_
 refine FW.gs C2 (fun v h' m q=>q.log m) ?_
 rintro v2 H2 x2 q2
 clear C2
 have lg1:∀z∈H1.log,vB v z:=fun z hz=>(x1.log z hz).elim (fun q=>by rw[hr.log]at q;cases q) id
 have lg2:∀z∈H2.log,vB v z:=fun z hz=>(x2.log z hz).elim (fun q=>lg1 z q) id
 refine yM ?_;refine y3 ?_;refine aP ?_
 exact lP lg2 rfl q2
def oy(a b:List Nat):List (List Nat):=if b=s0 then []else ddS (eG ((dK a b).map (·.s)))
theorem rN{a b s:List Nat}(h:s∈oy a b):IsS s:=by
 unfold oy at h
 split at h
 ·cases h
 ·obtain⟨f,hf,rfl⟩:=List.mem_map.1 (gL.1 (mF h))
  exact(wo hf).1
theorem Jf(lo:Int)(n:Nat):(zrN lo n).length=n:=by unfold zrN;simp
theorem p9{α β:Type}{f:α→List β}{k:Nat}:∀{l:List α},(∀x∈l,(f x).length≤k)→(l.flatMap f).length≤l.length*k
 |[],_=>by simp
 |x::l,h=>by
  have h1:=h x List.mem_cons_self
  have h2:=p9 fun y hy=>h y (List.mem_cons_of_mem x hy)
  rw[List.flatMap_cons,List.length_append,List.length_cons,Nat.add_mul];omega
theorem u9(a b:List Nat):(dK a b).length≤98304:=by
 have hz:∀{lo hi:Int}, -7≤lo→hi≤7→(zr lo hi).length≤16:=fun {lo hi} h1 h2=>by
  unfold zr;rw[Jf];omega
 have ra:=jR a
 unfold dK
 split
 ·simp
 ·refine Nat.le_trans (p9 (k:=4096) fun t _=> ?_) (by simp)
  have bp:=jR (dR b t)
  obtain⟨⟨⟨r1,r2⟩,⟨r3,r4⟩,⟨r5,r6⟩⟩,⟨⟨r7,r8⟩,⟨r9,r10⟩,⟨r11,r12⟩⟩⟩:=ra
  obtain⟨⟨⟨b1,b2⟩,⟨b3,b4⟩,⟨b5,b6⟩⟩,⟨⟨b7,b8⟩,⟨b9,b10⟩,⟨b11,b12⟩⟩⟩:=bp
  unfold jG xS
  refine Nat.le_trans (p9 (k:=256) fun z _=> ?_) (by have:=hz (lo:=(dy a).1.lo.z-(dy (dR b t)).1.lo.z) (hi:=(dy a).1.hi.z-(dy (dR b t)).1.hi.z) (by omega) (by omega);omega)
  unfold nA
  refine Nat.le_trans (p9 (k:=16) fun y _=> ?_) (by have:=hz (lo:=(dy a).1.lo.y-(dy (dR b t)).1.lo.y) (hi:=(dy a).1.hi.y-(dy (dR b t)).1.hi.y) (by omega) (by omega);omega)
  unfold kQ
  refine Nat.le_trans (p9 (k:=1) fun x _=> ?_) (by have:=hz (lo:=(dy a).1.lo.x-(dy (dR b t)).1.lo.x) (hi:=(dy a).1.hi.x-(dy (dR b t)).1.hi.x) (by omega) (by omega);omega)
  unfold mC
  split<;>simp
theorem x8(a b:List Nat):(oy a b).length≤98304:=by
 unfold oy
 split
 ·simp
 ·refine Nat.le_trans (vR _) ?_
  rw[je,List.length_map];exact u9 a b
def HS(b:List Nat):Int:=if b=s0 then 1 else 0
set_option maxHeartbeats 16000000 in
theorem Gi(F:Gu T){h:Heap}(hr:Rdy h)(hg:Tab h)(h2:2<h.next){a b:List Nat}(ha:IsS a)(hb:IsS b):
 Al T 72 [sv a,sv b] h fun v h'=>∃u,v= .tuple #[u, .int .i64 (HS b)]∧OwS h.next h' u (oy a b):=by
 have hp:=F.fi.ft.li.p
 refine .of hp F.f72 hr ?_ ?_
 ·rintro v h1 hv ⟨u,rfl,q⟩
  have hu:cw u=true:=by
   have e:cw (.tuple #[u, .int .i64 (HS b)])=iK [u, .int .i64 (HS b)]:=rfl
   rw[e]at hv
   simp only[iK,cond_eq_ite,Bool.if_false_right,Bool.and_eq_true]at hv
   have hf:flat u=true:=of_decide_eq_true hv.1
   unfold cw
   split
   ·rename_i cs
    rcases q with⟨h1,_⟩|⟨_,_,_,_,_,_,h1,_⟩<;>cases h1
   ·exact hf
  exact⟨u,rfl,OwS.flat hu q⟩
 have ka8:=aV ha.len
 have ka9:=bE ha.len
 have kb8:=aV hb.len
 have kb9:=bE hb.len
 have x0:Ext h ((h.push (.cells (cellsOf (sv a)) true 1)).push (.cells (cellsOf (sv b)) true 1)):=((Ext.refl h).push _).push _
 have gA:((h.push (.cells (cellsOf (sv a)) true 1)).push (.cells (cellsOf (sv b)) true 1)).get h.next=some (.cells (us a) true 1):=by(simp(disch:=first|omega|(simp only[z1,z2];omega))only[z3,z4,z5,z6,z7,z1,z2];exact rfl)
 have gB:((h.push (.cells (cellsOf (sv a)) true 1)).push (.cells (cellsOf (sv b)) true 1)).get (h.next+1)=some (.cells (us b) true 1):=by(simp(disch:=first|omega|(simp only[z1,z2];omega)|(simp only[z1,z2];done)|fail)only[z8,z4,z5,z9,z7,z1,z2,gA];exact rfl)
 have n0:((h.push (.cells (cellsOf (sv a)) true 1)).push (.cells (cellsOf (sv b)) true 1)).next=h.next+2:=rfl
 refine y4 ?_;refine yB ?_;refine yB ?_;refine yM ?_;refine yM ?_;refine y3 ?_
 generalize((h.push (.cells (cellsOf (sv a)) true 1)).push (.cells (cellsOf (sv b)) true 1))=H at*
 have W:=x0.wf hr.wf
 have hL:=x0.log.trans hr.log
 have hfl:=u9 a b
 unfold oy HS
 by_cases he:b=s0
 ·rw[if_pos he,if_pos he]
  refine aq ?_;refine y4 ?_;refine aa (au (by exact rfl) (by assumption) (by assumption) (by assumption)) ?_;refine aa (dN (by exact rfl)) ?_
  refine aa (j8 (b:=s0) (by exact rfl) (by exact rfl) hb.len rfl) ?_
  rw[decide_eq_true he]
  refine y3 ?_;refine yY ?_;refine y4 ?_;refine yM ?_;refine yM ?_;refine y3 ?_;refine aP ?_;refine eO ?_
  exact eY hL rfl ⟨_,rfl, .inl ⟨rfl,rfl⟩⟩
 rw[if_neg he,if_neg he]
 refine aq ?_;refine y4 ?_;refine aa (au (by exact rfl) (by assumption) (by assumption) (by assumption)) ?_;refine aa (dN (by exact rfl)) ?_
 refine aa (j8 (b:=s0) (by exact rfl) (by exact rfl) hb.len rfl) ?_
 rw[decide_eq_false he]
 have x1:Ext H (H.push (.cells [.slice none 0 0] true 1)):=(Ext.refl H).push _
 have q6:(H.push (.cells [.slice none 0 0] true 1)).get H.next=some (.cells [.slice none 0 0] true 1):=z3 _ _
 have n1:(H.push (.cells [.slice none 0 0] true 1)).next=H.next+1:=rfl
 refine y3 ?_;refine yX ?_;refine aM ?_;refine br ?_;refine y4 ?_;refine aa (di) ?_;refine y3 ?_
 generalize(H.push (.cells [.slice none 0 0] true 1))=H1 at*
 have ey1':=x0.trans x1
 have W1:=ey1'.wf hr.wf
 have hL1:=ey1'.log.trans hr.log
 have gA1:=(x1.old _ (by omega)).trans gA
 have gB1:=(x1.old _ (by omega)).trans gB
 have C:=AH F.fi (h:={H1 with log:=[]}) (.of W1) ha hb
 clear gA gB
 refine aq ?_;refine y4 ?_;refine aa (au (by exact rfl) (by assumption) (by assumption) (by assumption)) ?_;refine aa (au (by exact rfl) (by assumption) (by assumption) (by assumption)) ?_
 refine yC ?_
 refine FW.al C (fun v h' m q=>q) ?_
 rintro _ H2 x2 ⟨qa,qb,rfl,ga,gb,kqa,kqb,na,nb⟩
 clear C
 have na:H1.next≤qa:=na
 have nb:H1.next≤qb:=nb
 have ey2':=ey1'.trans x2
 have W2:=ey2'.wf hr.wf
 have hL2:=ey2'.log.trans hr.log
 have n2:=x2.next
 have p6:=(x2.old _ (by omega)).trans q6
 have hg2:Tab H2:=hg.ext ey2' h2
 clear gA1 gB1 q6
 refine y3 ?_;refine aI ?_
 refine BS (lo:=H.next) (P:=PPl H2.next H.next H2 (.loop [(6, .pointer (some ⟨H.next,0,none⟩)),(14,fnF qa qb)] [15,16] vt u0 0 .normal) (dK a b)) rfl (by rfl) (by rw[F.fi.ft.f209];rfl) (by omega) (by omega) hL2 W2 ?_ (fun H p=>⟨_,_,_,_,p.loop⟩) ?_
 ·have Y:BO T H.next (H2.next+1) H2.next H.next fiV (dK a b) (PPl H2.next H.next H2 (.loop [(6, .pointer (some ⟨H.next,0,none⟩)),(14,fnF qa qb)] [15,16] vt u0 0 .normal)) (wPl H.next):=by
   refine⟨by omega,fun done f Hh hx hlen hrH hN hP=> ?_,PPl.eW (by omega),fun done H' H'' p hn hs z hz=> ?_,fun done H' z p hz=> ?_⟩
   ·obtain⟨p1,p2,p3,⟨v,p4,p5⟩,p6⟩:=hP
    refine FW.mono' (y7 hp hrH (lo:=H.next) (lo2:=H2.next+1) (ss:=done.map (·.s)) (wo hx).1 (by rw[List.length_map];omega) (Nat.le_refl _) p2 p4 p5 (by omega) (by omega) (by omega) hN) ?_
    rintro r' H' ⟨r1,r2,r3,p,r4,r5,r6,r7,r8,r9,r10⟩
    have hvl:∀z,z<H2.next+1→∀m c,v≠ .slice (some ⟨z,0,none⟩) m c:=fun z hz m c e=>by
     rw[e]at p5
     have:=(Gv p5).1
     omega
    refine⟨r1,r2,r3,⟨_,_,_,r4,rfl⟩,⟨fun z hz hne=>(r7 z (by omega) hne (hvl z (by omega))).trans (p1 z hz hne),(r7 _ (by omega) (by omega) (hvl _ (by omega))).trans p2,by omega,⟨_,r4,by rw[List.map_append];exact r6⟩,by rw[List.length_append];show done.length+1≤_;omega⟩,fun z hz hn=>r7 z hz (fun e=>hn (.inl e)) fun m c e=>hn (.inr ⟨m,c,by rw[←e];exact p4⟩),fun z hz=> ?_⟩
    rcases hz with rfl|⟨m,c,hz⟩
    ·exact .inl (.inl rfl)
    ·rw[r4]at hz
     cases hz
     exact .inr r5
   ·obtain⟨p1,p2,p3,⟨v,p4,p5⟩,p6⟩:=p
    rcases hz with rfl|⟨m,c,hz⟩
    ·exact .inl rfl
    ·exact .inr ⟨m,c,by rw[←hs _ (by omega)];exact hz⟩
   ·obtain⟨p1,p2,p3,⟨v,p4,p5⟩,p6⟩:=p
    rcases hz with rfl|⟨m,c,hz⟩
    ·omega
    ·rw[p4]at hz
     cases hz
     exact(Gv p5).2
  exact DK F.fi.ft (.of (W2.push (.loop [(6, .pointer (some ⟨H.next,0,none⟩)),(14,fnF qa qb)] [15,16] vt u0 0 .normal))) (qa:=qa) (qb:=qb) (l:=H2.next) (N:=H2.next+1) (lo:=H.next) ha hb (Nat.le_refl _) (by show H.next≤H2.next+1;omega) (by omega) Y (fun d H' hP=>(hP.old _ kqa (by omega)).trans ga) (fun d H' hP=>(hP.old _ kqb (by omega)).trans gb) (fun d H' hP=>(hP.old 2 (by omega) (by omega)).trans hg2)
   ⟨fun z hz _=>z4 (by omega),z3 _ _,Nat.lt_succ_self _,⟨_,(z4 (by omega)).trans p6, .nil⟩,Nat.zero_le _⟩
 intro h4 h5 k1 k2 k3 k4 k5 k6 hP
 obtain⟨p1,p2,p3,⟨v,p4,p5⟩,p7⟩:=hP
 have D:=(k5 H.next (by omega)).trans p4
 have ow:=p5.keep (h':=h5) (by omega) fun z hz _=>k5 z (by omega)
 have hok:∀x∈(dK a b).map (·.s),IsS x:=fun x hx=>by
  obtain⟨f,hf,rfl⟩:=List.mem_map.1 hx
  exact(wo hf).1
 have hlen:((dK a b).map (·.s)).length<1000000:=by rw[List.length_map];omega
 generalize(dK a b).map (·.s)=l at*
 have os:=Pk.Own.owS ow (by omega)
 have C:=BU F (h:={h5 with log:=[]}) (.of k2) (lo:=H2.next+1) (by show H2.next+1≤h5.next;omega) (os.log []) hok hlen
 clear p4 p1 p2
 refine fI ?_;refine br ?_;refine y4 ?_;refine yL ?_
 refine yC ?_
 refine FW.gs0 C (fun v h' m q=>q.log m) (fun z hz=>by have:=(os.vb hz).1;omega) ?_
 rintro v6 H6 n6 l6 o6 w6 s6
 clear C
 refine yM ?_;refine yM ?_;refine y3 ?_;refine aP ?_
 exact eY (l6.trans k1) rfl ⟨_,rfl,s6.low (by omega)⟩
end Go.A.Pk
end
section
set_option maxRecDepth 100000
namespace Go.A.Pk
variable {T:Nat→Option ak}
structure BB (T:Nat→Option ak):Prop where
 pl:Gu T
 f35:T 35=some f35
 f92:T 92=some f92
 f121:T 121=some f121
 f124:T 124=some f124
 f193:T 193=some f193
 f194:T 194=some f194
 f195:T 195=some f195
 f196:T 196=some f196
 f197:T 197=some f197
 f257:T 257=some f257
def rF(r:List (List Nat))(x:List Nat):Bool:=r.any fun y=> !decide (y=x)&&sIn y x
def mK(w:List Nat×List Nat)(o:List Nat):List (List Nat):=ddS (eG ((oy w.2 o).map fun p=>eX p w.1))
def kF(w:List Nat×List Nat)(o:List Nat):List (List Nat):=(mK w o).filter fun x=> !rF (mK w o) x
theorem tW{w:List Nat×List Nat}(hw:IsW w){o s:List Nat}(h:s∈mK w o):IsS s:=by
 obtain⟨p,hp,rfl⟩:=List.mem_map.1 (gL.1 (mF h))
 exact(rN hp).less hw.a
theorem vl(w:List Nat×List Nat)(o:List Nat):(mK w o).length≤98304:=by
 refine Nat.le_trans (vR _) ?_
 rw[je,List.length_map];exact x8 _ _
theorem DJ(F:BB T){h:Heap}(hr:Rdy h){q:Nat}{x y:List Nat}(hx:IsS x)(hy:IsS y)(g:h.get q=some (.cells (us x) true 1)):Pu T 197 [sv y, .pointer (some ⟨q,0,none⟩)] h (.bool (!decide (y=x)&&sIn y x)):=by
 have hp:=F.pl.fi.ft.li.p
 refine .of hp F.f197 hr rfl ?_
 have kq:=hr.wf.iH g
 have kx8:=aV hx.len
 have kx9:=bE hx.len
 have ky8:=aV hy.len
 have ky9:=bE hy.len
 have x0:Ext h (h.push (.cells (cellsOf (sv y)) true 1)):=(Ext.refl h).push _
 have g0:(h.push (.cells (cellsOf (sv y)) true 1)).get h.next=some (.cells (us y) true 1):=by(simp(disch:=first|omega|(simp only[z1,z2];omega))only[z3,z4,z5,z6,z7,z1,z2,g];exact rfl)
 have n0:(h.push (.cells (cellsOf (sv y)) true 1)).next=h.next+1:=rfl
 refine y4 ?_;refine yB ?_;refine yM ?_;refine y3 ?_
 generalize(h.push (.cells (cellsOf (sv y)) true 1))=H at*
 have W:=x0.wf hr.wf
 have hL:=x0.log.trans hr.log
 have gx:=(x0.old _ kq).trans g
 have C:=vY hp F.f35 F.f121 (h:={H with log:=[]}) (.of W) hy hx
 by_cases he:y=x
 ·rw[decide_eq_true he]
  refine y4 ?_;refine aa (au (by exact rfl) (by assumption) (by assumption) (by assumption)) ?_;refine aa (au (by exact rfl) (by assumption) (by assumption) (by assumption)) ?_
  refine aa (j8 (b:=x) (by exact rfl) (by exact rfl) hy.len hx.len) ?_
  rw[decide_eq_true he]
  refine yM ?_;refine yP ?_;refine yP ?_;refine yP ?_;refine yU ?_;refine yM ?_;refine y3 ?_;refine aP ?_
  exact aH hL rfl rfl
 ·rw[decide_eq_false he]
  refine y4 ?_;refine aa (au (by exact rfl) (by assumption) (by assumption) (by assumption)) ?_;refine aa (au (by exact rfl) (by assumption) (by assumption) (by assumption)) ?_
  refine aa (j8 (b:=x) (by exact rfl) (by exact rfl) hy.len hx.len) ?_
  rw[decide_eq_false he]
  refine yM ?_;refine yO ?_;refine aa (au (by exact rfl) (by assumption) (by assumption) (by assumption)) ?_;refine yO ?_;refine aa (au (by exact rfl) (by assumption) (by assumption) (by assumption)) ?_;refine yO ?_
  refine yC ?_
  refine FW.pu C ?_
  clear C
  refine yT ?_;refine yM ?_;refine y3 ?_;refine aP ?_
  exact aH hL rfl rfl
theorem HM(F:BB T){h:Heap}(hr:Rdy h){q:Nat}{v:Value}{r:List (List Nat)}(s:SsQ h v r)(hn:r.length<1000000){x:List Nat}(hx:IsS x)(g:h.get q=some (.cells [v] true 1)):Pu T 195 [sv x, .pointer (some ⟨q,0,none⟩)] h (.bool (rF r x)):=by
 have hp:=F.pl.fi.ft.li.p
 refine .of hp F.f195 hr rfl ?_
 have kq:=hr.wf.iH g
 have x0:Ext h (h.push (.cells (cellsOf (sv x)) true 1)):=(Ext.refl h).push _
 have g0:(h.push (.cells (cellsOf (sv x)) true 1)).get h.next=some (.cells (us x) true 1):=by(simp(disch:=first|omega|(simp only[z1,z2];omega))only[z3,z4,z5,z6,z7,z1,z2,g];exact rfl)
 have n0:(h.push (.cells (cellsOf (sv x)) true 1)).next=h.next+1:=rfl
 refine y4 ?_;refine yB ?_;refine yM ?_;refine y3 ?_
 generalize(h.push (.cells (cellsOf (sv x)) true 1))=H at*
 have W:=x0.wf hr.wf
 have hL:=x0.log.trans hr.log
 have gx:=(x0.old _ kq).trans g
 obtain⟨a,c,rfl⟩:=s.sl.form
 have C:=xR hp F.f196 F.f257 (h:={H with log:=[]}) (.of W) ((s.ext x0).log []) hn (g:=197) (cap:=[.pointer (some ⟨h.next,0,none⟩)]) (fun y=> !decide (y=x)&&sIn y x) fun y hy=>DJ F (h:={H with log:=[]}) (.of W) hx (s.ok y hy) g0
 unfold rF
 refine y4 ?_;refine yL ?_;refine aa (gQ (by exact rfl) (by exact rfl)) ?_
 refine yC ?_
 refine FW.pu C ?_
 clear C
 refine yM ?_;refine y3 ?_;refine aP ?_
 exact aH hL rfl rfl
theorem uj{l:List (List Nat)}{i:Nat}{x:List Nat}(f:List Nat→List Nat)(hi:l[i]? =some x):((l.take i).map f++l.drop i).set i (f x)=(l.take (i+1)).map f++l.drop (i+1):=by
 obtain⟨hlt,hx⟩:=List.getElem?_eq_some_iff.1 hi
 have hl:((l.take i).map f).length=i:=by rw[List.length_map,List.length_take];omega
 rw[List.drop_eq_getElem_cons hlt,List.set_append_right _ _ (Nat.le_of_eq hl),hl,Nat.sub_self,List.set_cons_zero,jg hi,List.map_append,List.append_assoc]
 rfl
theorem xw{l:List (List Nat)}{i:Nat}{x:List Nat}(f:List Nat→List Nat)(hi:l[i]? =some x):((l.take i).map f++l.drop i)[i]? =some x:=by
 have hlt:=(List.getElem?_eq_some_iff.1 hi).1
 rw[List.getElem?_append_right (by simp;omega),List.getElem?_drop,List.length_map,List.length_take,Nat.min_eq_left (by omega),Nat.sub_self,Nat.add_zero,hi]
theorem OwS.wr{lo base p:Nat}{h:Heap}{v:Value}{l:List (List Nat)}{ob:bJ}(q:OwS lo h v l)(hz:∀z,vB v z→z≠p):OwS lo (h.wr base p ob) v l:=by
 rcases q with q|⟨b,c,t,h1,h2,h3,rfl,h4⟩
 ·exact .inl q
 ·exact .inr ⟨b,c,t,h1,h2,(z5 (hz b ⟨_,_,rfl⟩)).trans h3,rfl,h4⟩
theorem OwS.ne{lo p:Nat}{h:Heap}{v:Value}{l:List (List Nat)}{vs:List Value}{own:Bool}(q:OwS lo h v l)(g:h.get p=some (.cells vs own 1)):∀z,vB v z→z≠p:=by
 rintro z ⟨m,c,hv⟩ rfl
 rcases q with⟨rfl,_⟩|⟨b,c',t,h1,h2,h3,rfl,h4⟩
 ·cases hv
 ·cases hv
  rw[g]at h3
  cases h3
set_option maxHeartbeats 16000000 in
theorem Iw(F:BB T){h:Heap}(hr:Rdy h)(hg:Tab h)(h2:2<h.next){w:List Nat×List Nat}(hw:IsW w){o:List Nat}(ho:IsS o):Al T 92 [wV w,sv o] h fun v h'=>OwS h.next h' v (kF w o):=by
 have hp:=F.pl.fi.ft.li.p
 refine .of hp F.f92 hr (fun v h1 hv q=>OwS.flat hv q) ?_
 have hwc:cellsOf (wV w)=wL w:=by show(wL w).toArray.toList=_;simp
 have g0:((h.push (.cells (cellsOf (wV w)) true 1)).push (.cells (cellsOf (sv o)) true 1)).get h.next=some (.cells (wL w) true 1):=by rw[hwc];exact(z4 (Nat.lt_succ_self _)).trans (z3 h _)
 have g1:((h.push (.cells (cellsOf (wV w)) true 1)).push (.cells (cellsOf (sv o)) true 1)).get (h.next+1)=some (.cells (us o) true 1):=z3 _ _
 have n0:((h.push (.cells (cellsOf (wV w)) true 1)).push (.cells (cellsOf (sv o)) true 1)).next=h.next+2:=rfl
 have x0:Ext h ((h.push (.cells (cellsOf (wV w)) true 1)).push (.cells (cellsOf (sv o)) true 1)):=((Ext.refl h).push _).push _
 refine y4 ?_;refine yB ?_;refine yB ?_;refine yM ?_;refine y3 ?_
 generalize((h.push (.cells (cellsOf (wV w)) true 1)).push (.cells (cellsOf (sv o)) true 1))=H at*
 have W:=x0.wf hr.wf
 have hL:=x0.log.trans hr.log
 have wk:=vP hw
 have wkl:=rX hw
 have wa:=zi hw
 have wb:=wY hw
 have wka:=aV hw.a.len
 have wkb:=aV hw.b.len
 have k8:=aV ho.len
 have k9:=bE ho.len
 have C1:=Gi F.pl (h:={H with log:=[]}) (.of W) (show Tab H from hg.ext x0 h2) (by show 2<H.next;omega) hw.b ho
 have hok0:∀x∈oy w.2 o,IsS x:=fun x hx=>rN hx
 have hlen0:=x8 w.2 o
 have hA:mK w o=ddS (eG ((oy w.2 o).map fun p=>eX p w.1)):=rfl
 have hAl:=vl w o
 have hAok:∀x∈mK w o,IsS x:=fun x hx=>tW hw hx
 unfold kF
 generalize mK w o=r at*
 generalize oy w.2 o=l at*
 refine y4 ?_;refine yF ?_;refine aa (au (by exact rfl) (by assumption) (by assumption) (by assumption)) ?_;refine aa (au (by exact rfl) (by assumption) (by assumption) (by assumption)) ?_
 refine yC ?_
 refine FW.al C1 (fun v h' m q=>q) ?_
 rintro _ H1 x1 ⟨u,rfl,q1⟩
 have q1:OwS H.next H1 u l:=q1
 clear C1
 have ey1:=x0.trans x1
 have n1:=x1.next
 have g01:=(x1.old _ (by omega)).trans g0
 have x2:=iu (h:=H1) (base:=h.next) (by omega) (.cells [.slice none 0 0] true 1) (.cells [u] true 1)
 have g5:=jh (h:=H1) (base:=h.next) [.slice none 0 0] [u]
 have n2:((H1.push (.cells [.slice none 0 0] true 1)).wr h.next H1.next (.cells [u] true 1)).next=H1.next+1:=rfl
 obtain⟨a,c,rfl⟩:=q1.form
 clear g0 g1
 refine yM ?_;refine yE ?_;refine yE ?_;refine aa (di) ?_
 refine yS ?_;refine yM ?_;refine y3 ?_
 refine WE.Cs ?_
 intro H2 hH2
 have e2:H2=((H1.push (.cells [.slice none 0 0] true 1)).wr h.next H1.next (.cells [.slice a l.length c] true 1)):=hH2
 rw[←e2]at x2 g5 n2
 clear hH2 e2
 have ey2:=ey1.trans x2
 have W2:=ey2.wf hr.wf
 have hL2:=ey2.log.trans hr.log
 have g02:=(x2.old _ (by omega)).trans g01
 have q2:=q1.ext x2
 refine ff (E0:=[(2, .pointer (some ⟨h.next,0,none⟩)),(5, .pointer (some ⟨H1.next,0,none⟩)),(16, .int .i64 (l.length:Nat)),(17, .int .i64 (l.length:Nat)),(18, .bool false)]) (P:=fun h'=>WF h'∧h'.log=[]∧H2.next≤h'.next∧(∀z,z<H.next→h'.get z=H2.get z)∧h'.get H1.next=some (.cells [.slice a l.length c] true 1)∧OwS H.next h' (.slice a l.length c) (l.map fun p=>eX p w.1)) ?_ ?_
 ·rcases q2 with⟨hv,rfl⟩|⟨b,c',tl,hb1,hb2,hb3,hv,hcl,hcu⟩
  ·cases hv
   refine y4 ?_;refine yL ?_;refine yD ?_;refine yM ?_;refine y3 ?_;refine aI ?_
   refine dh (fun mm e ds h'=>0=mm∧e=[(2, .pointer (some ⟨h.next,0,none⟩)),(5, .pointer (some ⟨H1.next,0,none⟩)),(16, .int .i64 0),(17, .int .i64 0)]∧ds=[]∧H2=h') ⟨rfl,rfl,rfl,rfl⟩ ?_
   rintro mm e ds _ ⟨rfl,rfl,rfl,rfl⟩
   refine y4 ?_;refine yf ?_;refine y3 ?_;refine aq ?_;refine yX ?_;refine cU ?_;refine dU ?_;refine dU ?_;refine iw ?_
   exact⟨rfl,rfl,rfl,W2,hL2,Nat.le_refl _,fun _ _=>rfl,g5, .inl ⟨rfl,rfl⟩⟩
  ·cases hv
   have hb0:b<H1.next:=(q1.vb ⟨_,_,rfl⟩).2
   refine y4 ?_;refine yL ?_;refine yD ?_;refine yM ?_;refine y3 ?_;refine aI ?_
   refine dh (fun mm e ds h'=>∃i:Nat,i≤l.length∧l.length-i=mm∧e=[(2, .pointer (some ⟨h.next,0,none⟩)),(5, .pointer (some ⟨H1.next,0,none⟩)),(16, .int .i64 (l.length:Nat)),(17, .int .i64 (i:Nat))]∧ds=[]∧WF h'∧h'.log=[]∧H2.next=h'.next∧(∀z,z≠b→h'.get z=H2.get z)∧h'.get b=some (.cells (ssL ((l.take i).map (fun p=>eX p w.1)++l.drop i)++tl) true 8))
    ⟨0,Nat.zero_le _,rfl,rfl,rfl,W2,hL2,rfl,fun _ _=>rfl,hb3⟩ ?_
   rintro mm e ds H3 ⟨i,hi,rfl,rfl,rfl,w3,l3,n3,o3,gb⟩
   have g53:=(o3 H1.next (by omega)).trans g5
   have g03:=(o3 h.next (by omega)).trans g02
   by_cases hlt:i<l.length
   ·obtain⟨x,hx⟩:∃x,l[i]? =some x:=⟨l[i],List.getElem?_eq_getElem hlt⟩
    have hxs:=hok0 x (List.mem_of_getElem? hx)
    have hokm:∀y∈(l.take i).map (fun p=>eX p w.1)++l.drop i,IsS y:=fun y hy=>by
     rcases List.mem_append.1 hy with hy|hy
     ·obtain⟨p,hp,rfl⟩:=List.mem_map.1 hy
      exact(hok0 p (List.mem_of_mem_take hp)).less hw.a
     ·exact hok0 y (List.mem_of_mem_drop hy)
    have hml:((l.take i).map (fun p=>eX p w.1)++l.drop i).length=l.length:=by
     rw[List.length_append,List.length_map,List.length_take,List.length_drop];omega
    have rx:=n9 (t:=tl) hokm (xw _ hx)
    have hset:=uj (fun p=>eX p w.1) hx
    have hls:=hxs.less hw.a
    have C:=HC hp F.f124 (h:={H3 with log:=[]}) (.of w3) hxs hw.a
    have kc:=vU (t:=tl) hokm hls (i:=i) (by omega)
    have kw:cD (ssL ((l.take i).map (fun p=>eX p w.1)++l.drop i)++tl) (0+i*8) (cellsOf (sv (eX x w.1)))=ssL ((l.take (i+1)).map (fun p=>eX p w.1)++l.drop (i+1))++tl:=by
     have e:cellsOf (sv (eX x w.1))=us (eX x w.1):=by show(us (eX x w.1)).toArray.toList=_;simp
     rw[e,vW hokm hls (by omega),hset]
    have kx:=aV hxs.len
    have mlt:aC .lss (.int .i64 (i:Nat)) (.int .i64 (l.length:Nat))=some (.bool true):=j7 (by omega)
    generalize eX x w.1=lx at*
    generalize(l.take i).map (fun p=>eX p w.1)++l.drop i=m at*
    obtain rfl:=hcu (fun q=>by rw[q]at hlt;simp at hlt)
    refine y4 ?_;refine aa (aF (by exact rfl) (by exact rfl) (by with_reducible assumption)) ?_;refine y3 ?_;refine aq ?_;refine yY ?_;refine aM ?_;refine br ?_;refine aq ?_;refine aI ?_
    refine y4 ?_;refine yM ?_;refine yM ?_;refine y3 ?_;refine cK ?_
    refine qL ?_;refine qM ?_;refine qL ?_
    refine qM ?_;refine an rfl rfl rfl (by exact rfl) (by exact rfl) (by exact rfl) (cM (by exact rfl) (by exact rfl) (by omega)) ?_;refine an rfl rfl rfl (by exact rfl) (by exact rfl) (by exact rfl) (au (by exact rfl) (by assumption) (by assumption) (by assumption)) ?_
    refine qF ?_;refine an rfl rfl rfl (by exact rfl) (by exact rfl) (by exact rfl) (au (by exact rfl) (by assumption) (by assumption) (by assumption)) ?_
    refine qC ?_
    refine FW.puD C (by apply af rfl;apply af rfl;apply af rfl;apply af rfl;apply af rfl;apply af rfl;apply bB rfl (aO rfl (pJ (by exact rfl)) (by exact iF _ _)) rfl;apply bB rfl (aO rfl (dz (by exact rfl) (by assumption) (by exact rfl)) (by exact Ex _ _ _)) rfl;exact cI) ?_
    clear C
    refine an rfl rfl rfl (by exact rfl) (by exact rfl) (by exact rfl) (cM (by exact rfl) (by exact rfl) (by omega)) ?_
    refine iJ rfl rfl rfl (by exact rfl) (by exact rfl) (by exact rfl) gb kc kw (by omega) (by apply af rfl;apply af rfl;apply af rfl;exact cI) ?_
    refine dF ?_;refine y1 ?_;refine fI ?_;refine br ?_;refine aK ?_;refine iI ?_;refine yM ?_;refine y3 ?_
    exact⟨l.length-(i+1),by omega,i+1,by omega,rfl,rfl,rfl,w3.as (AS.wr h.next _ _ _),(Heap.aG (by omega)).trans l3,n3,fun z hz=>(z5 hz).trans (o3 z hz),by rw[z6,gb];rfl⟩
   ·obtain rfl:i=l.length:=by omega
    have mlt:aC .lss (.int .i64 (l.length:Nat)) (.int .i64 (l.length:Nat))=some (.bool false):=kT (by omega)
    rw[List.take_length,List.drop_length,List.append_nil]at gb
    refine y4 ?_;refine aa (aF (by exact rfl) (by exact rfl) (by with_reducible assumption)) ?_;refine y3 ?_;refine aq ?_;refine yX ?_;refine cU ?_;refine dU ?_;refine dU ?_;refine iw ?_
    refine⟨rfl,rfl,rfl,w3,l3,by omega,fun z hz=>o3 z (by omega),g53, .inr ⟨b,c,tl,hb1,by omega,gb,by rw[List.length_map],by rw[List.length_map];exact hcl,fun q=>hcu fun q2=>q (by rw[q2];rfl)⟩⟩
 have hvb:∀z,vB (.slice a l.length c) z→H.next≤z∧z<H1.next:=fun z hz=>q1.vb hz
 rintro H3 ⟨w3,l3,n3,o3,g53,q3⟩
 clear q2 q1 g5 g01
 have g03:=(o3 _ (by omega)).trans g02
 have hokm:∀y∈l.map (fun p=>eX p w.1),IsS y:=fun y hy=>by
  obtain⟨p,hp,rfl⟩:=List.mem_map.1 hy
  exact(hok0 p hp).less hw.a
 have hlm:(l.map fun p=>eX p w.1).length=l.length:=List.length_map _
 generalize hll:l.map (fun p=>eX p w.1)=lm at*
 have hlm2:lm.length<1000000:=by omega
 have C2:=Bv F.pl.f189 (.inr rfl) (h:={H3 with log:=[]}) (q3.log []) hokm hlm2
 refine y4 ?_;refine yL ?_
 refine yC ?_
 refine FW.gs0 C2 (fun v h' m q=>q.log m) (fun z hz=>by have:=(q3.vb hz).1;omega) ?_
 rintro v4 H4 n4 l4 o4 w4 q4
 clear C2
 have W4:=w4 w3
 have g54:=(o4 H1.next (by omega) (fun q=>by have:=(hvb _ q).2;omega)).trans g53
 have hok4:∀x∈eG lm,IsS x:=fun x hx=>hokm x (gL.1 hx)
 have C3:=tf hp F.pl.f192 (h:={H4 with log:=[]}) (.of W4) (q4.log []) hok4 (by rw[je];exact hlm2)
 rw[←hA]at C3
 refine y3 ?_;refine y4 ?_;refine yL ?_
 refine yC ?_
 refine FW.gs0 C3 (fun v h' m q=>q.log m) (fun z hz=>by have:=(q4.vb hz).1;omega) ?_
 rintro v5 H5 n5 l5 o5 w5 q5
 clear C3
 have W5:=w5 W4
 have hL5:=l5.trans (l4.trans l3)
 have g55:=(o5 H1.next (by omega) (fun q=>by have:=(hvb _ q).2;omega)).trans g54
 have ne5:=q5.ne g55
 obtain⟨a5,c5,rfl⟩:=q5.form
 have hn1:H1.next<H5.next:=by omega
 have q6:=q5.wr (base:=h.next) (ob:= .cells [.slice a5 r.length c5] true 1) ne5
 have g56:(H5.wr h.next H1.next (.cells [.slice a5 r.length c5] true 1)).get H1.next=some (.cells [.slice a5 r.length c5] true 1):=by rw[z6,g55];rfl
 have W6:WF (H5.wr h.next H1.next (.cells [.slice a5 r.length c5] true 1)):=W5.as (AS.wr h.next _ _ _)
 have hL6:(H5.wr h.next H1.next (.cells [.slice a5 r.length c5] true 1)).log=[]:=(Heap.aG (by omega)).trans hL5
 have n6:(H5.wr h.next H1.next (.cells [.slice a5 r.length c5] true 1)).next=H5.next:=rfl
 clear q5 q4 q3 g54 g53
 refine yS ?_;refine y3 ?_
 clear g55
 refine WE.Cs ?_
 intro H6 hH6
 have e6:H6=H5.wr h.next H1.next (.cells [.slice a5 r.length c5] true 1):=hH6
 rw[←e6]at q6 g56 W6 hL6 n6
 clear hH6 e6
 have hrl:r.length<1000000:=by omega
 have C4:=FT hp F.f194 (h:={H6 with log:=[]}) (.of W6) ((q6.ss hAok).log []) hrl
 refine y4 ?_;refine yL ?_
 refine yC ?_
 refine FW.al C4 (fun v h' m q=>q.log m) ?_
 rintro v7 H7 x7 q7
 have q7:OwS H6.next H7 v7 r:=q7
 clear C4
 have W7:=x7.wf W6
 have hL7:=x7.log.trans hL6
 have n7:=x7.next
 have C5:=BX hp F.f193 F.f257 (h:={H7 with log:=[]}) (.of W7) (lo:=H6.next) (q7.log []) hAok hrl (g:=195) (cap:=[.pointer (some ⟨H1.next,0,none⟩)]) (rF r) fun h' w hnn hold x hx=>
  HM F (h:={h' with log:=[]}) (.of w) (q:=H1.next) (v:= .slice a5 r.length c5) ((OwS.ss (q6.keep (h':=h') (by have:H7.next≤h'.next:=hnn;omega) fun z _ hz=>(hold z hz).trans (x7.old z hz)) hAok).log []) hrl hx ((hold _ (by omega)).trans ((x7.old _ (by omega)).trans g56))
 refine aa (gQ (by exact rfl) (by exact rfl)) ?_
 refine yC ?_
 refine FW.gs0 C5 (fun v h' m q=>q.log m) (fun z hz=>by have:=(q7.vb hz).1;omega) ?_
 rintro v8 H8 n8 l8 o8 w8 q8
 clear C5
 refine yM ?_;refine y3 ?_;refine aP ?_
 exact eY (l8.trans hL7) rfl (q8.low (by omega))
end Go.A.Pk
end
section
namespace Go.Proofs
open Go.Shelf
def Tryz.pe:Go.Shelf.Ren:=⟨fun|6=>189|15=>241|14=>255|28=>290|29=>291|20=>307|21=>308|22=>309|23=>310|24=>311|25=>312|26=>313|27=>314|46=>344|47=>325|48=>326|49=>345|50=>346|57=>362|n=>n,fun|22=>29|24=>24|25=>215|3=>3|39=>90|0=>0|53=>338|55=>22|4=>4|46=>331|45=>330|50=>196|5=>5|9=>9|66=>372|70=>376|76=>403|77=>404|n=>n,fun|n=>n⟩
theorem Tryz.nG:Go.Proofs.SlLaysF0.n6 Tryz.prog Tryz.pe:={
 mixed:=by kernel_rfl
 f6:=⟨Tryz.f189.name,by decide,Tryz.func189.trans (congrArg some (by kernel_rfl))⟩
 f14:=⟨Tryz.f255.name,by decide,Tryz.func255.trans (congrArg some (by kernel_rfl))⟩
 f15:=Tryz.func241.trans (congrArg some (by kernel_rfl))
 f20:=⟨Tryz.f307.name,by decide,Tryz.func307.trans (congrArg some (by kernel_rfl))⟩
 f21:=⟨Tryz.f308.name,by decide,Tryz.func308.trans (congrArg some (by kernel_rfl))⟩
 f22:=⟨Tryz.f309.name,by decide,Tryz.func309.trans (congrArg some (by kernel_rfl))⟩
 f23:=⟨Tryz.f310.name,by decide,Tryz.func310.trans (congrArg some (by kernel_rfl))⟩
 f24:=⟨Tryz.f311.name,by decide,Tryz.func311.trans (congrArg some (by kernel_rfl))⟩
 f25:=⟨Tryz.f312.name,by decide,Tryz.func312.trans (congrArg some (by kernel_rfl))⟩
 f26:=⟨Tryz.f313.name,by decide,Tryz.func313.trans (congrArg some (by kernel_rfl))⟩
 f27:=⟨Tryz.f314.name,by decide,Tryz.func314.trans (congrArg some (by kernel_rfl))⟩
 f28:=Tryz.func290.trans (congrArg some (by kernel_rfl))
 f29:=Tryz.func291.trans (congrArg some (by kernel_rfl))
 f46:=⟨Tryz.f344.name,by decide,Tryz.func344.trans (congrArg some (by kernel_rfl))⟩
 f47:=Tryz.func325.trans (congrArg some (by kernel_rfl))
 f48:=Tryz.func326.trans (congrArg some (by kernel_rfl))
 f49:=⟨Tryz.f345.name,by decide,Tryz.func345.trans (congrArg some (by kernel_rfl))⟩
 f50:=⟨Tryz.f346.name,by decide,Tryz.func346.trans (congrArg some (by kernel_rfl))⟩
 f57:=⟨Tryz.f362.name,by decide,Tryz.func362.trans (congrArg some (by kernel_rfl))⟩
 t0:=Tryz.underlying0
 a0:=Tryz.isAgg0
 z0:=Tryz.sizeOf0
 v0:=Tryz.zeroValue0
 t3:=Tryz.underlying3
 a3:=Tryz.isAgg3
 z3:=Tryz.sizeOf3
 v3:=Tryz.zeroValue3
 t4:=Tryz.underlying4
 a4:=Tryz.isAgg4
 z4:=Tryz.sizeOf4
 v4:=Tryz.zeroValue4
 t5:=Tryz.underlying5
 a5:=Tryz.isAgg5
 z5:=Tryz.sizeOf5
 v5:=Tryz.zeroValue5
 t9:=Tryz.underlying9
 a9:=Tryz.isAgg9
 z9:=Tryz.sizeOf9
 v9:=Tryz.zeroValue9
 t22:=Tryz.underlying29
 a22:=Tryz.isAgg29
 z22:=Tryz.sizeOf29
 v22:=Tryz.zeroValue29
 t25:=Tryz.underlying215
 a25:=Tryz.isAgg215
 z25:=Tryz.sizeOf215
 v25:=Tryz.zeroValue215
 t39:=Tryz.underlying90
 a39:=Tryz.isAgg90
 z39:=Tryz.sizeOf90
 v39:=Tryz.zeroValue90
 t45:=Tryz.underlying330
 a45:=Tryz.isAgg330
 z45:=Tryz.sizeOf330
 v45:=Tryz.zeroValue330
 t46:=Tryz.underlying331
 a46:=Tryz.isAgg331
 z46:=Tryz.sizeOf331
 v46:=Tryz.zeroValue331
 t50:=Tryz.underlying196
 a50:=Tryz.isAgg196
 z50:=Tryz.sizeOf196
 v50:=Tryz.zeroValue196
 t53:=Tryz.underlying338
 a53:=Tryz.isAgg338
 z53:=Tryz.sizeOf338
 v53:=Tryz.zeroValue338
 t55:=Tryz.underlying22
 a55:=Tryz.isAgg22
 z55:=Tryz.sizeOf22
 v55:=Tryz.zeroValue22
 t66:=Tryz.underlying372
 a66:=Tryz.isAgg372
 z66:=Tryz.sizeOf372
 v66:=Tryz.zeroValue372
 t70:=Tryz.underlying376
 a70:=Tryz.isAgg376
 z70:=Tryz.sizeOf376
 v70:=Tryz.zeroValue376
 t76:=Tryz.underlying403
 a76:=Tryz.isAgg403
 z76:=Tryz.sizeOf403
 v76:=Tryz.zeroValue403
 t77:=Tryz.underlying404
 a77:=Tryz.isAgg404
 z77:=Tryz.sizeOf404
 v77:=Tryz.zeroValue404}
open Go.RowKit Go.Lib Go.Sort in
theorem Tryz.slices_SortFunc_none(p:Option Addr)(cap:Nat)(fv:Value)(w:World):
 Calls Tryz.prog 189 #[.slice p 0 cap,fv] w fun e w'=>e= .returned (.tuple #[])∧w'=w:=AnyF.slices_SortFunc_none Tryz.nG p cap fv w
end Go.Proofs
end
section
set_option maxRecDepth 100000
namespace Go.A.Pk
open Go Go.Proofs Go.Sort
theorem jj:∀{a b:List Nat},a.length=b.length→cmpL b a= -cmpL a b
 |[],[],_=>rfl
 |[],_::_,h=>by cases h
 |_::_,[],h=>by cases h
 |x::a,y::b,h=>by
  unfold cmpL
  by_cases h1:x<y
  ·rw[if_neg (by omega),if_pos h1,if_pos h1];rfl
  ·by_cases h2:y<x
   ·rw[if_pos h2,if_neg h1,if_pos h2]
   ·rw[if_neg h2,if_neg h1,if_neg h1,if_neg h2];exact jj (by simpa using h)
theorem jX:∀{a b:List Nat},a.length=b.length→cmpL a b=0→a=b
 |[],[],_,_=>rfl
 |[],_::_,h,_=>by cases h
 |_::_,[],h,_=>by cases h
 |x::a,y::b,h,h0=>by
  unfold cmpL at h0
  by_cases h1:x<y
  ·rw[if_pos h1]at h0;cases h0
  ·by_cases h2:y<x
   ·rw[if_neg h1,if_pos h2]at h0;cases h0
   ·rw[if_neg h1,if_neg h2]at h0
    rw[show x=y by omega,jX (by simpa using h) h0]
theorem oL:∀{a b c:List Nat},a.length=b.length→b.length=c.length→cmpL a b<0→cmpL b c<0→cmpL a c<0
 |[],[],_,_,_,h,_=>by unfold cmpL at h;omega
 |[],_::_,_,h,_,_,_=>by cases h
 |_::_,[],_,h,_,_,_=>by cases h
 |_::_,_::_,[],_,h,_,_=>by cases h
 |x::a,y::b,z::c,h1,h2,q1,q2=>by
  unfold cmpL at q1 q2⊢
  by_cases a1:x<y
  ·by_cases b1:y<z
   ·rw[if_pos (show x<z by omega)];omega
   ·rw[if_neg b1]at q2
    by_cases b2:z<y
    ·rw[if_pos b2]at q2;omega
    ·rw[if_pos (show x<z by omega)];omega
  ·rw[if_neg a1]at q1
   by_cases a2:y<x
   ·rw[if_pos a2]at q1;omega
   ·rw[if_neg a2]at q1
    by_cases b1:y<z
    ·rw[if_pos (show x<z by omega)];omega
    ·rw[if_neg b1]at q2
     by_cases b2:z<y
     ·rw[if_pos b2]at q2;omega
     ·rw[if_neg b2]at q2
      rw[if_neg (show¬x<z by omega),if_neg (show¬z<x by omega)]
      exact oL (by simpa using h1) (by simpa using h2) q1 q2
abbrev Sol:={l:List Nat // IsS l}
instance:Inhabited Sol:=⟨⟨s0,tO⟩⟩
def sF(x:Sol):List Value:=us x.1
def cfS(x y:Sol):Int:=cmpL x.1 y.1
theorem iX(x y:Sol):x.1.length=y.1.length:=x.2.len.trans y.2.len.symm
theorem Bn:SWO (ltOf cfS):=by
 refine⟨fun x=> ?_,fun x y z h1 h2=> ?_,fun x y z h1 h2=> ?_⟩
 ·unfold ltOf cfS;rw[nQ];rfl
 ·unfold ltOf cfS at*
  rw[decide_eq_true_eq]at*
  exact oL (iX x y) (iX y z) h1 h2
 ·unfold ltOf cfS at*
  rw[decide_eq_false_iff_not]at*
  have a1:=jj (iX x y)
  have a2:=jj (iX y z)
  have a3:=jj (iX x z)
  rcases Int.lt_or_eq_of_le (show cmpL y.1 x.1≤0 by omega)with q|q
  ·rcases Int.lt_or_eq_of_le (show cmpL z.1 y.1≤0 by omega)with p|p
   ·have:=oL (iX z y) (iX y x) p q
    omega
   ·have e:=jX (iX z y) p
    rw[e];omega
  ·have e:=jX (iX y x) q
   rw[←e];omega
theorem Hi(x y:Sol)(h1:ltOf cfS x y=false)(h2:ltOf cfS y x=false):x=y:=by
 unfold ltOf cfS at*
 rw[decide_eq_false_iff_not]at*
 have a1:=jj (iX x y)
 exact Subtype.ext (jX (iX x y) (by omega))
theorem xm(x:Sol):(sF x).length=8:=by unfold sF;rw[aJ,x.2.len]
theorem Bb(d:Array Sol):flatK sF 8 d=(ssL (d.toList.map (·.1))).toArray:=by
 have hok:∀s∈d.toList.map (·.1),IsS s:=fun s hs=>by
  obtain⟨x,_,rfl⟩:=List.mem_map.1 hs
  exact x.2
 have hl:(ssL (d.toList.map (·.1))).length=d.size*8:=by rw[fF hok];simp
 apply ext_get! ((size_flatK sF 8 d).trans hl.symm)
 intro t ht
 have ht':t<d.size*8:=by simpa using ht
 rw[get_flatK _ _ _ t ht']
 have hd:t / 8<d.size:=by omega
 have hx:(d.toList.map (·.1))[t / 8]? =some (d[t / 8]!).1:=by
  rw[List.getElem?_map,Array.getElem?_toList,Array.getElem?_eq_getElem hd,getElem!_pos d (t / 8) hd];rfl
 have h8:=Bi hok hx
 have e:((ssL (d.toList.map (·.1))).drop (t / 8*8))[t % 8]? =(us (d[t / 8]!).1)[t % 8]? :=by
  rw[←h8,List.getElem?_take_of_lt (by omega)]
 rw[List.getElem?_drop,show t / 8*8+t % 8=t by omega]at e
 have e1:(us (d[t / 8]!).1).length=8:=xm _
 rw[List.getElem?_eq_getElem (by omega),List.getElem?_eq_getElem (by omega),Option.some.injEq]at e
 show(us (d[t / 8]!).1)[t % 8]! =(ssL (d.toList.map (·.1))).toArray[t]!
 rw[getElem!_pos _ (t % 8) (by omega),getElem!_pos _ t (show t<(ssL (d.toList.map (·.1))).length by rw[hl];exact ht'),←e];rfl
theorem yj:Rdy (⟨[],1000,[]⟩:Heap):=⟨⟨by simp,by intro b hb;simp at hb⟩,rfl⟩
theorem LR.flat{μ:Mu}:∀{l:List Value},(∀a∈l,cw a=true)→LR μ l l
 |[],_=> .nil
 |a::l,h=> .cons (VR.cw (h a List.mem_cons_self)).1 (LR.flat fun x hx=>h x (List.mem_cons_of_mem _ hx))
theorem rG{P:Program}{T:Nat→Option ak}(S:ef P T)(hg:P.globals.size≤1000){f:Nat}{args:List Value}{v:Value}(hnc:fT (T f)=false)(H:Pu T f args ⟨[],1000,[]⟩ v)(ha:∀a∈args,cw a=true)(hv:cw v=true)(w:World):
 Calls P f args.toArray w fun e w'=>e= .returned v∧∃q os',w'=Sort.grow (w.drewN q) os':=by
 obtain⟨r',h',⟨m,hm⟩,rfl,rfl⟩:=H
 have hrun:=hm m (Nat.le_refl _)
 refine(kI S hrun rfl hnc (R.none (P:=P) (w:=w) hg) (LR.flat ha)).mono fun e w' hq=> ?_
 obtain⟨μ',q1,q2,q3⟩:=hq
 cases e with
 |returned v'=>
  have hv':VR μ' v v':=q1
  rw[(VR.cw hv).2 _ hv']
  have hk:∀r,r<w.heap.size→w'.heap[r]? =w.heap[r]? :=fun r hr=>q3.keep r hr fun⟨b,o,k,g,_⟩=>by cases g
  refine⟨rfl,w'.drawn-w.drawn,w'.heap.extract w.heap.size w'.heap.size,?_⟩
  have hle:=q3.le
  have hh:w'.heap=w.heap++w'.heap.extract w.heap.size w'.heap.size:=by
   apply Array.ext_getElem?
   intro i
   by_cases hi:i<w.heap.size
   ·rw[hk i hi,Array.getElem?_append_left hi]
   ·rw[Array.getElem?_append_right (by omega),Array.getElem?_extract]
    by_cases h2:i<w'.heap.size
    ·rw[if_pos (by omega)];congr 1;omega
    ·rw[if_neg (by omega),Array.getElem?_eq_none (by omega)]
  obtain⟨s1,s2,s3,s4⟩:=q3.same
  cases w with
  |mk a1 a2 a3 a4 a5=>
   cases w' with
   |mk b1 b2 b3 b4 b5=>
    dsimp only at s1 s2 s3 s4 hh
    subst s1;subst s2;subst s3
    show World.mk b1 _ b3 _ _=World.mk (a1++_) _ (a3+(b3-a3)) _ _
    rw[show a3+(b3-a3)=b3 by omega]
    congr 1
 |panicked _=>exact q1.elim
 |outgrown=>exact q1.elim
theorem Om:aL Tryz.prog Tryz.f168 [[2,3],[4]]=some f168:=by kernel_rfl
theorem N3:aL Tryz.prog Tryz.f190 [[2,3],[4]]=some f190:=by kernel_rfl
theorem N2:aL Tryz.prog Tryz.f191 [[0,1],[0,1,9,10,11],[0,1,9,10,11,12],[0,1,5,6,9,10,11],[0,1,5,6,9,10,11,19],[4],[0,1,6,7,9,10,11],[0,1,8,9,10,11],[0,1,8,9,10,11,28],[4],[0,1,9,10,11],[35],[4],[4]]=some f191:=by kernel_rfl
theorem Of:aL Tryz.prog Tryz.f256 [[0,1],[0,1,5],[0,1,5,6],[0,1,6,11],[12],[4],[4],[0,1,13],[4],[0,1,16],[4],[19],[4],[4]]=some f256:=by kernel_rfl
theorem N7:aL Tryz.prog Tryz.f315 [[0],[2]]=some f315:=by kernel_rfl
def Gx:Tr:=(.node (.node (.node .nil 168 f168 .nil) 190 f190 .nil) 191 f191 (.node (.node .nil 256 f256 .nil) 315 f315 .nil))
def TC:Nat→Option ak:=Gx.get
theorem OB:Gx.all (Entry Tryz.prog):=by
 unfold Gx
 exact(Tr.ah (Tr.ah (Tr.ah Tr.all_nil (.of Tryz.func168 Om) Tr.all_nil) (.of Tryz.func190 N3) Tr.all_nil) (.of Tryz.func191 N2) (Tr.ah (Tr.ah Tr.all_nil (.of Tryz.func256 Of) Tr.all_nil) (.of Tryz.func315 N7) Tr.all_nil))
theorem As:ef Tryz.prog TC:=nT (by kernel_rfl) OB
theorem LS:uY TC:={p:=As.bA,f191:=by kernel_rfl,f256:=by kernel_rfl,f315:=by kernel_rfl}
theorem BN(k:Nat)(hk:k=168∨k=190)(x y:Sol)(w:World):Calls Tryz.prog k #[.agg (sF x).toArray, .agg (sF y).toArray] w fun e w'=>e= .returned (.int .i64 (cfS x y))∧∃q os',w'=Sort.grow (w.drewN q) os':=by
 have hn:∀a∈[sv x.1,sv y.1],cw a=true:=fun a ha=>by
  rcases List.mem_cons.1 ha with rfl|ha
  ·exact fO _
  ·rw[List.mem_singleton.1 ha];exact fO _
 rcases hk with rfl|rfl
 ·exact rG As lR (by kernel_rfl) (Il LS (by kernel_rfl) yj x.2 y.2) hn rfl w
 ·exact rG As lR (by kernel_rfl) (Io LS (by kernel_rfl) yj x.2 y.2) hn rfl w
theorem AV(l:List (List Nat))(h:∀s∈l,IsS s):∃d:List Sol,d.map (·.1)=l:=⟨l.attach.map fun x=>⟨x.1,h _ x.2⟩,by simp⟩
theorem yd(d:List Sol):(d.mergeSort fun x y=> !(ltOf cfS) y x).map (·.1)=eG (d.map (·.1)):=by
 unfold eG
 exact List.map_mergeSort fun a _ b _=>rfl
theorem Ad(k:Nat)(hk:k=168∨k=190):∀args w,(callFunc k args).run Tryz.prog w= .ok (.enter k args) w:=by
 rcases hk with rfl|rfl
 ·exact enters_of Tryz.func168 (by kernel_rfl) rfl
 ·exact enters_of Tryz.func190 (by kernel_rfl) rfl
theorem NA:Entry Tryz.prog 189 (.jI (mP 168 190)):=by
 refine .jI (CG Tryz.func189 (of_decide_eq_true (by kernel_rfl)) (by kernel_rfl) (fun k p cap w=>Tryz.slices_SortFunc_none p cap _ w) ?_)
 intro k hk blk off cap l w hok hH hblk hl
 obtain⟨d,hd⟩:=AV l hok
 have hfl:flatK sF 8 d.toArray=(ssL l).toArray:=by rw[Bb];simp[hd]
 have hdl:d.length=l.length:=by rw[←hd];simp
 have h:=AnyQ.slices_SortFunc_total Tryz.nG 8 (Tryz.isAgg24) (Tryz.sizeOf24) sF xm (fun x v hv=>by
  obtain⟨n,_,rfl⟩:=List.mem_map.1 hv
  rfl) cfS Bn k #[] blk off cap d.toArray w (Ad k hk) (fun m os dk hs x y=>by
   have:=BN k hk x y (sortWorldK sF 8 w blk off m dk os)
   simpa using this) (by
   show Holds id w blk off (flatK sF 8 d.toArray)
   rw[hfl];exact hH) hblk (by simpa[hdl]using hl) Hi
 have hs:d.toArray.size=l.length:=by simpa using hdl
 rw[hs]at h
 refine h.mono fun e w' ⟨he,n,os,hw⟩=>⟨he,n,os,?_⟩
 rw[hw]
 show Sort.grow (putRow id (Sort.ahead w n) blk off (flatK sF 8 _)) os=_
 rw[Bb]
 congr 2
 have:=yd d
 rw[hd]at this
 simpa using congrArg ssL this
end Go.A.Pk
end
section
set_option maxRecDepth 100000
namespace Go.A.Pk
open Go.Sort Go.Proofs
def SLt(a b:List Nat):Prop:=cmpL a b<0
theorem HH{l:List (List Nat)}(h:∀s∈l,IsS s):(eG l).Pairwise fun a b=>¬cmpL b a<0:=by
 obtain⟨d,rfl⟩:=AV l h
 rw[←yd]
 have hs:=Bn
 have hp:=List.pairwise_mergeSort (le:=fun x y:Sol=> !(ltOf cfS) y x) (fun a b c h1 h2=>by
  rw[Bool.not_eq_true']at*
  exact hs.ntrans _ _ _ h2 h1) (fun a b=>by
  rw[Bool.or_eq_true,Bool.not_eq_true',Bool.not_eq_true']
  cases hab:ltOf cfS b a with
  |false=>exact .inl rfl
  |true=>
   right
   cases hba:ltOf cfS a b with
   |false=>rfl
   |true=>
    have:=hs.trans _ _ _ hab hba
    rw[hs.irrefl]at this;cases this) d
 rw[List.pairwise_map]
 refine hp.imp fun {a b} q=> ?_
 rw[Bool.not_eq_true']at q
 unfold ltOf cfS at q
 exact of_decide_eq_false q
theorem Jm:∀{l:List (List Nat)},(∀s∈l,IsS s)→(l.Pairwise fun a b=>¬cmpL b a<0)→(ddS l).Pairwise SLt
 |[],_,_=>List.Pairwise.nil
 |[a],_,_=>List.pairwise_singleton _ _
 |a::b::l,h,hp=>by
  obtain⟨h1,h2⟩:=List.pairwise_cons.1 hp
  have ih:=Jm (fun s hs=>h s (List.mem_cons_of_mem _ hs)) h2
  unfold ddS
  by_cases e:a=b
  ·rw[if_pos e];exact ih
  ·rw[if_neg e]
   refine List.pairwise_cons.2 ⟨fun x hx=> ?_,ih⟩
   have hx':=mF hx
   have ha:=h a List.mem_cons_self
   have hb:=h b (List.mem_cons_of_mem _ List.mem_cons_self)
   have hxs:=h x (List.mem_cons_of_mem _ hx')
   have la:a.length=x.length:=ha.len.trans hxs.len.symm
   have q1:=h1 x hx'
   have a1:=jj la
   rcases Int.lt_or_eq_of_le (show cmpL a x≤0 by omega)with q|q
   ·exact q
   ·have hax:=jX la q
    have q2:=h1 b List.mem_cons_self
    have a2:=jj (ha.len.trans hb.len.symm)
    have q3:¬cmpL a b<0:=by
     rcases List.mem_cons.1 hx' with rfl|hx'
     ·exact absurd hax e
     ·have:=(List.pairwise_cons.1 h2).1 x hx'
      rw[←hax]at this
      exact this
    exact absurd (jX (ha.len.trans hb.len.symm) (by omega)) e
theorem zR(a:List Nat):¬SLt a a:=by unfold SLt;rw[nQ];omega
theorem Eo{w:List Nat×List Nat}(hw:IsW w)(o:List Nat):(mK w o).Pairwise SLt:=by
 unfold mK
 have h:∀s∈(oy w.2 o).map fun p=>eX p w.1,IsS s:=fun s hs=>by
  obtain⟨p,hp,rfl⟩:=List.mem_map.1 hs
  exact(rN hp).less hw.a
 exact Jm (fun s hs=>h s (gL.1 hs)) (HH h)
theorem uM{w:List Nat×List Nat}{o q:List Nat}:q∈mK w o↔ ∃p∈oy w.2 o,eX p w.1=q:=by
 unfold mK
 constructor
 ·intro h;exact List.mem_map.1 (gL.1 (mF h))
 ·intro h;exact pW (gL.2 (List.mem_map.2 h))
theorem DL{a b p:List Nat}(hb:¬b=s0):p∈oy a b↔ ∃f∈dK a b,f.s=p:=by
 unfold oy
 rw[if_neg hb]
 constructor
 ·intro h;exact List.mem_map.1 (gL.1 (mF h))
 ·intro h;exact pW (gL.2 (List.mem_map.2 h))
theorem xG{α:Type}[DecidableEq α]:∀{l k:List α},l.Nodup→(∀x∈l,x∈k)→l.length≤k.length
 |[],_,_,_=>Nat.zero_le _
 |a::l,k,hn,h=>by
  obtain⟨h1,h2⟩:=List.nodup_cons.1 hn
  have ha:=h a List.mem_cons_self
  have ih:=xG (k:=k.erase a) h2 fun x hx=>(List.mem_erase_of_ne (fun(e:x=a)=>h1 (by rw[←e];exact hx))).2 (h x (List.mem_cons_of_mem _ hx))
  rw[List.length_erase_of_mem ha]at ih
  have:=List.length_pos_of_mem ha
  rw[List.length_cons];omega
theorem Ia{n m:Nat}(h:ceN n=ceN m):n=m:=by
 unfold ceN at h
 injection h with h1 h2 h3
 omega
theorem yb(s:List Nat)(n:Nat):(bn s n).Nodup:=by
 unfold bn
 refine List.Pairwise.filter _ ?_
 rw[List.pairwise_map]
 exact List.nodup_range.imp fun {a b} h e=>h (Ia e)
theorem uD{f:Ce→Ce}{s:List Nat}(hin:∀c∈bn s 512,inG (f c)=true)(hf:∀c d,f c=f d→c=d):dL s≤dL (mL f s):=by
 unfold dL
 rw[←List.length_map (f:=f)]
 refine xG ?_ fun x hx=> ?_
 ·unfold List.Nodup
  rw[List.pairwise_map]
  exact(yb s 512).imp fun {a b} h e=>h (hf a b e)
 ·obtain⟨c,hc,rfl⟩:=List.mem_map.1 hx
  exact dW.2 ((pP hin _).2 ⟨c,dW.1 hc,rfl⟩)
theorem Gy(k:Nat)(c d:Ce)(h:gh k c=gh k d):c=d:=by
 obtain⟨c1,c2,c3⟩:=c
 obtain⟨d1,d2,d3⟩:=d
 unfold gh at h
 split at h<;>(injection h with h1 h2 h3;(try dsimp only at h1 h2 h3);congr 1<;>omega)
theorem xL:∀(n:Nat) (c d:Ce),pN n c=pN n d→c=d
 |0,_,_,h=>h
 |n+1,c,d,h=>by
  refine xL n c d ?_
  unfold pN E8 at h
  injection h with h1 h2 h3
  generalize pN n c=x at*
  generalize pN n d=y at*
  obtain⟨x1,x2,x3⟩:=x
  obtain⟨q1,q2,q3⟩:=y
  dsimp only at h1 h2 h3
  congr 1;omega
theorem Fq(t:Nat)(c d:Ce)(h:jM t c=jM t d):c=d:=Gy _ _ _ (xL _ _ _ h)
theorem JG(x y z:Int)(c d:Ce)(h:shC x y z c=shC x y z d):c=d:=by
 obtain⟨c1,c2,c3⟩:=c
 obtain⟨d1,d2,d3⟩:=d
 unfold shC at h
 injection h with h1 h2 h3
 dsimp only at h1 h2 h3
 congr 1<;>omega
theorem wS{b:List Nat}{t:Nat}{x y z:Int}(r:Rng (dy (dR b t)).1 x y z):dL b≤dL (mL (shC x y z) (dR b t)):=
 Nat.le_trans (uD (fun c hc=>rY c (lC hc)) (Fq t)) (uD (fun c hc=>r.all (dW.1 hc)) (JG x y z))
def LC(a b p:List Nat):Prop:=∃t,t<24∧∃x y z,Rng (dy (dR b t)).1 x y z∧mL (shC x y z) (dR b t)=p∧sIn p a=true
theorem vX{a b:List Nat}(ha:IsS a)(hb:IsS b)(h0:¬b=s0){p:List Nat}:(∃f∈dK a b,f.s=p)↔LC a b p:=by
 have hsp:=fun t=>lS b t
 constructor
 ·rintro⟨f,hf,rfl⟩
  unfold dK at hf
  split at hf
  ·cases hf
  ·obtain⟨t,ht,hf⟩:=List.mem_flatMap.1 hf
   have bi:=jR (dR b t)
   have bia:=jR a
   unfold jG xS nA kQ mC at hf
   obtain⟨z,hz,hf⟩:=List.mem_flatMap.1 hf
   obtain⟨y,hy,hf⟩:=List.mem_flatMap.1 hf
   obtain⟨x,hx,hf⟩:=List.mem_flatMap.1 hf
   rw[wQ]at hx hy hz
   obtain⟨⟨bl1,bl2,bl3⟩,⟨bh1,bh2,bh3⟩⟩:=bia
   have r:Rng (dy (dR b t)).1 x y z:=⟨by omega,by omega,by omega⟩
   split at hf
   ·rename_i hin
    rw[List.mem_singleton.1 hf]
    refine⟨t,List.mem_range.1 ht,x,y,z,r,?_,hin⟩
    exact(Bg (hsp t) r).symm
   ·cases hf
 ·rintro⟨t,ht,x,y,z,r,rfl,hin⟩
  have hsub:=(ig (tU r) ha).1 hin
  have hcell:∀c,dP (dR b t) c=true→dP a (shC x y z c)=true:=fun c hc=>hsub _ ((pP (fun d hd=>r.all (dW.1 hd)) _).2 ⟨c,hc,rfl⟩)
  have hall:∀x∈bn b 512,inG (jM t x)=true:=fun c hc=>rY c (lC hc)
  have hs0:¬dR b t=s0:=by
   intro q
   obtain⟨c,hc⟩:=uL hb h0
   have:=(pP hall (jM t c)).2 ⟨c,hc,rfl⟩
   rw[show mL (jM t) b=s0 from q,nR]at this;cases this
  obtain⟨c1,hc1⟩:=uL (hsp t) hs0
  have k1:=qf (hcell c1 hc1)
  obtain⟨k2x,k2y,k2z⟩:=mD.1 (Dh hc1)
  unfold shC at k1
  dsimp only at k1
  have lo:=KZ hs0 (x:=(dy a).1.lo.x-x) (y:=(dy a).1.lo.y-y) (z:=(dy a).1.lo.z-z) (by omega) (by omega) (by omega) fun c hc=>by
   have:=qf (hcell c hc)
   unfold shC at this
   dsimp only at this
   omega
  have hi:=KA hs0 (x:=(dy a).1.hi.x-x) (y:=(dy a).1.hi.y-y) (z:=(dy a).1.hi.z-z) (by omega) (by omega) (by omega) fun c hc=>by
   have:=qf (hcell c hc)
   unfold shC at this
   dsimp only at this
   omega
  have hcnt:¬dL a<dL b:=by
   have h1:=wS r
   have h2:=Sub.cnt hsub
   omega
  have h0a:¬a=s0:=by
   intro q
   have:=hcell c1 hc1
   rw[q,nR]at this;cases this
  have hle:=Bg (hsp t) r
  refine⟨⟨t,x,y,z,gV (dR b t) (dy (dR b t)).1 x y z⟩,?_,hle⟩
  unfold dK
  rw[if_neg (fun q=>q.elim h0a hcnt)]
  refine List.mem_flatMap.2 ⟨t,List.mem_range.2 ht,?_⟩
  unfold jG xS nA kQ mC
  refine List.mem_flatMap.2 ⟨z,wQ.2 (by omega),List.mem_flatMap.2 ⟨y,wQ.2 (by omega),List.mem_flatMap.2 ⟨x,wQ.2 (by omega),?_⟩⟩⟩
  rw[if_pos (by rw[hle];exact hin)]
  exact List.mem_singleton.2 rfl
theorem Bd{a b p:List Nat}(ha:IsS a)(hb:IsS b)(h0:¬b=s0):p∈oy a b↔LC a b p:=by
 rw[DL h0,vX ha hb h0]
theorem Bq{a b:List Nat}(ha:IsS a)(hb:IsS b)(h0:¬b=s0):ic a b=true↔ ∃p,LC a b p:=by
 rw[AQ h0]
 constructor
 ·intro h
  cases hl:dK a b with
  |nil=>rw[hl]at h;cases h
  |cons f r=>exact⟨f.s,(vX ha hb h0).1 ⟨f,by rw[hl];exact List.mem_cons_self,rfl⟩⟩
 ·rintro⟨p,hp⟩
  obtain⟨f,hf,_⟩:=(vX ha hb h0).2 hp
  cases hl:dK a b with
  |nil=>rw[hl]at hf;cases hf
  |cons f r=>rfl
end Go.A.Pk
end
section
set_option maxRecDepth 100000
namespace Go.A.Pk
variable {T:Nat→Option ak}
def sw(w:List Nat×List Nat):Bool:=decide (64<((dL w.2:Nat):Int)-((dL w.1:Nat):Int))
def tV(w:List Nat×List Nat)(o:List Nat):List (List Nat)×Int:=
 if sIn w.1 w.2=false∨o=s0 then([],1)else if sw w=true then([],82)else(kF w o,0)
theorem DW(s:List Nat):dL s≤512:=kn s 512
structure Bk (T:Nat→Option ak):Prop where
 nd:BB T
 f22:T 22=some f22
 f89:T 89=some f89
 f90:T 90=some f90
 f91:T 91=some f91
theorem JO(F:Bk T){h:Heap}(hr:Rdy h){w:List Nat×List Nat}(hw:IsW w):Pu T 89 [wV w] h (.bool (sIn w.1 w.2)):=by
 have hp:=F.nd.pl.fi.ft.li.p
 refine .of hp F.f89 hr rfl ?_
 have hwc:cellsOf (wV w)=wL w:=by show(wL w).toArray.toList=_;simp
 have g0:(h.push (.cells (cellsOf (wV w)) true 1)).get h.next=some (.cells (wL w) true 1):=by rw[hwc];exact z3 h _
 have W:WF (h.push (.cells (cellsOf (wV w)) true 1)):=hr.wf.push _
 have hL:(h.push (.cells (cellsOf (wV w)) true 1)).log=[]:=hr.log
 refine y4 ?_;refine yB ?_;refine yM ?_;refine y3 ?_
 generalize(h.push (.cells (cellsOf (wV w)) true 1))=H at*
 have C:=vY hp F.nd.f35 F.nd.f121 (h:={H with log:=[]}) (.of W) hw.a hw.b
 have wa:=zi hw
 have wb:=wY hw
 have wka:=aV hw.a.len
 have wkb:=aV hw.b.len
 refine y4 ?_;refine yF ?_;refine aa (au (by exact rfl) (by assumption) (by assumption) (by assumption)) ?_;refine yF ?_;refine aa (au (by exact rfl) (by assumption) (by assumption) (by assumption)) ?_
 refine yC ?_
 refine FW.pu C ?_
 refine yM ?_;refine y3 ?_;refine aP ?_
 exact aH hL rfl rfl
theorem JZ(F:Bk T){h:Heap}(hr:Rdy h){w:List Nat×List Nat}(hw:IsW w):Pu T 91 [wV w] h (.bool (sw w)):=by
 have hp:=F.nd.pl.fi.ft.li.p
 refine .of hp F.f91 hr rfl ?_
 have hwc:cellsOf (wV w)=wL w:=by show(wL w).toArray.toList=_;simp
 have g0:(h.push (.cells (cellsOf (wV w)) true 1)).get h.next=some (.cells (wL w) true 1):=by rw[hwc];exact z3 h _
 have W:WF (h.push (.cells (cellsOf (wV w)) true 1)):=hr.wf.push _
 have hL:(h.push (.cells (cellsOf (wV w)) true 1)).log=[]:=hr.log
 refine y4 ?_;refine yB ?_;refine yM ?_;refine y3 ?_
 generalize(h.push (.cells (cellsOf (wV w)) true 1))=H at*
 have C1:=lK F.nd.pl.fi.ft.co (h:={H with log:=[]}) (.of W) hw.b
 have C2:=lK F.nd.pl.fi.ft.co (h:={H with log:=[]}) (.of W) hw.a
 have wa:=zi hw
 have wb:=wY hw
 have wka:=aV hw.a.len
 have wkb:=aV hw.b.len
 have b1:=DW w.1
 have b2:=DW w.2
 have m1:aC .sub (.int .i64 ((dL w.2:Nat):Int)) (.int .i64 ((dL w.1:Nat):Int))=some (.int .i64 (((dL w.2:Nat):Int)-((dL w.1:Nat):Int))):=jB (bL (by omega) (by omega))
 have m2:aC .gtr (.int .i64 (((dL w.2:Nat):Int)-((dL w.1:Nat):Int))) (.int .i64 64)=some (.bool (sw w)):=by
  unfold sw
  by_cases q:64<((dL w.2:Nat):Int)-((dL w.1:Nat):Int)
  ·rw[decide_eq_true q];exact oI q
  ·rw[decide_eq_false q];exact nh (by omega)
 generalize((dL w.2:Nat):Int)-((dL w.1:Nat):Int)=d at*
 refine aq ?_;refine cK ?_;refine qF ?_;refine an rfl rfl rfl (by exact rfl) (by exact rfl) (by exact rfl) (au (by exact rfl) (by assumption) (by assumption) (by assumption)) ?_;refine qF ?_
 refine an rfl rfl rfl (by exact rfl) (by exact rfl) (by exact rfl) (au (by exact rfl) (by assumption) (by assumption) (by assumption)) ?_
 refine qC ?_
 refine FW.puD C1 (by apply bB rfl (aO rfl (au (by exact rfl) (by assumption) (by assumption) (by assumption)) (by exact tL _)) rfl;apply bB rfl (aO rfl (dg (by exact rfl)) (by exact dB _)) rfl;apply af rfl;apply af rfl;exact cI) ?_
 clear C1
 skip
 refine qC ?_
 refine FW.puD C2 (by apply af rfl;apply af rfl;exact cI) ?_
 clear C2
 refine an rfl rfl rfl (by exact rfl) (by exact rfl) (by exact rfl) (aF (by exact rfl) (by exact rfl) (by with_reducible assumption)) ?_;refine an rfl rfl rfl (by exact rfl) (by exact rfl) (by exact rfl) (aF (by exact rfl) (by exact rfl) (by with_reducible assumption)) ?_;refine qM ?_
 refine dF ?_;refine y1 ?_;refine br ?_;refine aP ?_
 exact aH hL rfl rfl
set_option maxHeartbeats 4000000 in
theorem IQ(F:Bk T){h:Heap}(hr:Rdy h)(hg:Tab h)(h2:2<h.next){w:List Nat×List Nat}(hw:IsW w){o:List Nat}(ho:IsS o):Al T 22 [wV w,sv o] h fun v h'=>∃u,v= .tuple #[u, .int .i64 (tV w o).2]∧OwS h.next h' u (tV w o).1:=by
 have hp:=F.nd.pl.fi.ft.li.p
 refine .of hp F.f22 hr ?_ ?_
 ·rintro v h1 hv ⟨u,rfl,q⟩
  have hu:cw u=true:=by
   have e:cw (.tuple #[u, .int .i64 (tV w o).2])=iK [u, .int .i64 (tV w o).2]:=rfl
   rw[e]at hv
   simp only[iK,cond_eq_ite,Bool.if_false_right,Bool.and_eq_true]at hv
   have hf:flat u=true:=of_decide_eq_true hv.1
   unfold cw
   split
   ·rename_i cs
    rcases q with⟨h1,_⟩|⟨_,_,_,_,_,_,h1,_⟩<;>cases h1
   ·exact hf
  exact⟨u,rfl,OwS.flat hu q⟩
 have hwc:cellsOf (wV w)=wL w:=by show(wL w).toArray.toList=_;simp
 have g0:((h.push (.cells (cellsOf (wV w)) true 1)).push (.cells (cellsOf (sv o)) true 1)).get h.next=some (.cells (wL w) true 1):=by rw[hwc];exact(z4 (Nat.lt_succ_self _)).trans (z3 h _)
 have g1:((h.push (.cells (cellsOf (wV w)) true 1)).push (.cells (cellsOf (sv o)) true 1)).get (h.next+1)=some (.cells (us o) true 1):=z3 _ _
 have n0:((h.push (.cells (cellsOf (wV w)) true 1)).push (.cells (cellsOf (sv o)) true 1)).next=h.next+2:=rfl
 have x0:Ext h ((h.push (.cells (cellsOf (wV w)) true 1)).push (.cells (cellsOf (sv o)) true 1)):=((Ext.refl h).push _).push _
 refine y4 ?_;refine yB ?_;refine yB ?_;refine yM ?_;refine yM ?_;refine y3 ?_
 generalize((h.push (.cells (cellsOf (wV w)) true 1)).push (.cells (cellsOf (sv o)) true 1))=H at*
 have W:=x0.wf hr.wf
 have hL:=x0.log.trans hr.log
 have wk:=vP hw
 have wkl:=rX hw
 have k8:=aV ho.len
 have k9:=bE ho.len
 have C1:=JO F (h:={H with log:=[]}) (.of W) hw
 have C2:=BF hp F.f90 (h:={H with log:=[]}) (.of W) ho
 have C3:=JZ F (h:={H with log:=[]}) (.of W) hw
 have C4:=Iw F.nd (h:={H with log:=[]}) (.of W) (show Tab H from hg.ext x0 h2) (by show 2<H.next;omega) hw ho
 unfold tV
 cases hin:sIn w.1 w.2 with
 |false=>
  rw[hin]at C1
  rw[if_pos (.inl rfl)]
  refine aq ?_;refine y4 ?_;refine aa (au (by exact rfl) (by assumption) (by assumption) (by assumption)) ?_
  refine yC ?_
  refine FW.pu C1 ?_
  refine yA ?_;refine yM ?_;refine yP ?_;refine yP ?_;refine yT ?_;refine y3 ?_
  refine yY ?_;refine y4 ?_;refine yM ?_;refine yM ?_;refine y3 ?_;refine aP ?_;refine eO ?_
  exact eY hL rfl ⟨_,rfl, .inl ⟨rfl,rfl⟩⟩
 |true=>
  rw[hin]at C1
  by_cases hz:o=s0
  ·rw[if_pos (.inr hz)]
   rw[decide_eq_true hz]at C2
   refine aq ?_;refine y4 ?_;refine aa (au (by exact rfl) (by assumption) (by assumption) (by assumption)) ?_
   refine yC ?_
   refine FW.pu C1 ?_
   refine yA ?_;refine yM ?_;refine yO ?_;refine aa (au (by exact rfl) (by assumption) (by assumption) (by assumption)) ?_;refine yO ?_
   refine yC ?_
   refine FW.pu C2 ?_
   refine yU ?_;refine y3 ?_;refine yY ?_;refine y4 ?_;refine yM ?_;refine yM ?_;refine y3 ?_;refine aP ?_;refine eO ?_
   exact eY hL rfl ⟨_,rfl, .inl ⟨rfl,rfl⟩⟩
  ·rw[if_neg (fun q=>q.elim (by simp) hz)]
   rw[decide_eq_false hz]at C2
   cases hm:sw w with
   |true=>
    rw[hm]at C3
    rw[if_pos rfl]
    refine aq ?_;refine y4 ?_;refine aa (au (by exact rfl) (by assumption) (by assumption) (by assumption)) ?_
    refine yC ?_
    refine FW.pu C1 ?_
    refine yA ?_;refine yM ?_;refine yO ?_;refine aa (au (by exact rfl) (by assumption) (by assumption) (by assumption)) ?_;refine yO ?_
    refine yC ?_
    refine FW.pu C2 ?_
    refine yU ?_;refine y3 ?_;refine yX ?_;refine aM ?_;refine br ?_;refine aq ?_;refine y4 ?_
    refine aa (au (by exact rfl) (by assumption) (by assumption) (by assumption)) ?_
    refine yC ?_
    refine FW.pu C3 ?_
    refine y3 ?_;refine yY ?_;refine y4 ?_;refine yM ?_;refine yM ?_;refine y3 ?_;refine aP ?_;refine eO ?_
    exact eY hL rfl ⟨_,rfl, .inl ⟨rfl,rfl⟩⟩
   |false=>
    rw[hm]at C3
    rw[if_neg (by simp)]
    refine aq ?_;refine y4 ?_;refine aa (au (by exact rfl) (by assumption) (by assumption) (by assumption)) ?_
    refine yC ?_
    refine FW.pu C1 ?_
    refine yA ?_;refine yM ?_;refine yO ?_;refine aa (au (by exact rfl) (by assumption) (by assumption) (by assumption)) ?_;refine yO ?_
    refine yC ?_
    refine FW.pu C2 ?_
    refine yU ?_;refine y3 ?_;refine yX ?_;refine aM ?_;refine br ?_;refine aq ?_;refine y4 ?_
    refine aa (au (by exact rfl) (by assumption) (by assumption) (by assumption)) ?_
    refine yC ?_
    refine FW.pu C3 ?_
    clear C1 C2 C3
    refine y3 ?_;refine yX ?_;refine aM ?_;refine br ?_;refine y4 ?_;refine aa (au (by exact rfl) (by assumption) (by assumption) (by assumption)) ?_
    refine aa (au (by exact rfl) (by assumption) (by assumption) (by assumption)) ?_
    refine yC ?_
    refine FW.al C4 (fun v h' m q=>q.log m) ?_
    rintro v H1 x1 q1
    have q1:OwS H.next H1 v (kF w o):=q1
    refine yM ?_;refine yM ?_;refine y3 ?_;refine aP ?_
    exact eY (x1.log.trans hL) rfl ⟨_,rfl,q1.low (by omega)⟩
structure Jk (T:Nat→Option ak):Prop where
 cr:BA T
 f20:T 20=some f20
 f84:T 84=some f84
def jL(s:List Nat):Bool:= !(decide (0<dL s∧dL s<40)||decide (60<dL s))
def zH(w:List Nat×List Nat)(l:List (List Nat)):Bool:=if dL w.2≤60 then decide (l.length≤8)else l.all jL&&decide (l.length≤8)
set_option maxHeartbeats 4000000 in
theorem I1(F:Jk T){h:Heap}(hr:Rdy h){w:List Nat×List Nat}(hw:IsW w){a:Option Addr}{n c:Nat}{l:List (List Nat)}(s:SsQ h (.slice a n c) l)(hn:n<1000000):Pu T 20 [wV w, .slice a n c] h (.bool (zH w l)):=by
 have hp:=F.cr.hr.p
 refine .of hp F.f20 hr rfl ?_
 obtain rfl:n=l.length:=by
  rcases eS.inv s.sl with⟨_,hv,h0,_⟩|⟨b,o,cap,hv,s1,hc⟩
  ·cases hv;exact h0.symm
  ·cases hv;rfl
 have hwc:cellsOf (wV w)=wL w:=by show(wL w).toArray.toList=_;simp
 have x0:Ext h (h.push (.cells (cellsOf (wV w)) true 1)):=(Ext.refl h).push _
 have g0:(h.push (.cells (cellsOf (wV w)) true 1)).get h.next=some (.cells (wL w) true 1):=by rw[hwc];exact z3 h _
 refine y4 ?_;refine yB ?_;refine yM ?_;refine y3 ?_
 generalize(h.push (.cells (cellsOf (wV w)) true 1))=H at*
 have W:=x0.wf hr.wf
 have hL:=x0.log.trans hr.log
 have wb:=wY hw
 have wkb:=aV hw.b.len
 have C:=Bw F.cr F.f84 (h:={H with log:=[]}) (.of W) hw.b
 have m8:aC .leq (.int .i64 (l.length:Nat)) (.int .i64 8)=some (.bool (decide (l.length≤8))):=by
  by_cases q:l.length≤8
  ·rw[decide_eq_true q];exact kZ (by omega)
  ·rw[decide_eq_false q];exact kX (by omega)
 have s1:=s.ext x0
 unfold zH
 by_cases h60:dL w.2≤60
 ·rw[if_pos h60]
  have m6:aC .leq (.int .i64 ((dL w.2:Nat):Int)) (.int .i64 60)=some (.bool true):=kZ (by omega)
  refine aq ?_;refine y4 ?_;refine yF ?_;refine aa (au (by exact rfl) (by assumption) (by assumption) (by assumption)) ?_
  refine yC ?_
  refine FW.pu C ?_
  refine aa (aF (by exact rfl) (by exact rfl) (by with_reducible assumption)) ?_;refine y3 ?_;refine yY ?_;refine y4 ?_;refine yM ?_;refine yD ?_
  refine aa (aF (by exact rfl) (by exact rfl) (by with_reducible assumption)) ?_;refine yM ?_;refine y3 ?_;refine aP ?_;refine eO ?_
  exact aH hL rfl rfl
 rw[if_neg h60]
 have m6:aC .leq (.int .i64 ((dL w.2:Nat):Int)) (.int .i64 60)=some (.bool false):=kX (by omega)
 refine aq ?_;refine y4 ?_;refine yF ?_;refine aa (au (by exact rfl) (by assumption) (by assumption) (by assumption)) ?_
 refine yC ?_
 refine FW.pu C ?_
 clear C m6
 refine yf ?_;refine y3 ?_;refine yX ?_;refine aM ?_;refine br ?_;refine aq ?_;refine y4 ?_;refine yM ?_
 refine y3 ?_;refine aI ?_
 refine dh (fun m e ds h'=>∃j:Nat,j≤l.length∧l.length-j=m∧e=[(1, .slice a l.length c),(5, .int .i64 (j:Nat))]∧ds=[]∧H=h'∧(l.take j).all jL=true)
  ⟨0,Nat.zero_le _,rfl,rfl,rfl,rfl,rfl⟩ ?_
 rintro m e ds _ ⟨j,hj,rfl,rfl,rfl,rfl,hall⟩
 by_cases hlt:j<l.length
 ·obtain⟨x,hx⟩:∃x,l[j]? =some x:=⟨l[j]'hlt,List.getElem?_eq_getElem _⟩
  have hxm:=List.mem_of_getElem? hx
  have hxs:=s.ok x hxm
  obtain⟨b,o,c2,vs,own,tt,hv,gl,hbl,el⟩:=s1.elem hx
  cases hv
  have k8:=aV hxs.len
  have C:=Bw F.cr F.f84 (h:={H with log:=[]}) (.of W) hxs
  have mlt:aC .lss (.int .i64 (j:Nat)) (.int .i64 (l.length:Nat))=some (.bool true):=j7 (by omega)
  have hnot:jL x=false→l.all jL=false:=fun q=>by
   rw[List.all_eq_false];exact⟨x,hxm,by rw[q];simp⟩
  by_cases p0:0<dL x
  ·have m1:aC .gtr (.int .i64 ((dL x:Nat):Int)) (.int .i64 0)=some (.bool true):=oI (by omega)
   by_cases p4:dL x<40
   ·have m2:aC .lss (.int .i64 ((dL x:Nat):Int)) (.int .i64 40)=some (.bool true):=j7 (by omega)
    have e:jL x=false:=by unfold jL;rw[decide_eq_true ⟨p0,p4⟩];rfl
    rw[hnot e]
    refine aq ?_;refine y4 ?_;refine yM ?_;refine yM ?_;refine yD ?_;refine aa (aF (by exact rfl) (by exact rfl) (by with_reducible assumption)) ?_;refine y3 ?_
    refine yY ?_;refine aM ?_;refine br ?_;refine aq ?_;refine aI ?_;refine y4 ?_;refine yM ?_;refine yM ?_;refine aa (cM (by exact rfl) (by exact rfl) (by omega)) ?_;refine aa (au (by exact rfl) (by assumption) (by assumption) (by assumption)) ?_
    refine yC ?_
    refine FW.pu C ?_
    refine yM ?_;refine y3 ?_;refine y4 ?_;refine yM ?_;refine aa (aF (by exact rfl) (by exact rfl) (by with_reducible assumption)) ?_;refine yM ?_
    refine yO ?_;refine yM ?_;refine yO ?_;refine aa (aF (by exact rfl) (by exact rfl) (by with_reducible assumption)) ?_;refine yT ?_;refine yM ?_;refine yP ?_;refine yP ?_
    refine yT ?_;refine y3 ?_;refine yY ?_;refine y4 ?_;refine yM ?_;refine y3 ?_;refine aP ?_;refine kH ?_;refine eO ?_;refine eO ?_;refine kH ?_;refine eO ?_
    exact aH hL rfl rfl
   ·have m2:aC .lss (.int .i64 ((dL x:Nat):Int)) (.int .i64 40)=some (.bool false):=kT (by omega)
    by_cases p6:60<dL x
    ·have m3:aC .gtr (.int .i64 ((dL x:Nat):Int)) (.int .i64 60)=some (.bool true):=oI (by omega)
     have e:jL x=false:=by unfold jL;rw[decide_eq_true p6];simp
     rw[hnot e]
     refine aq ?_;refine y4 ?_;refine yM ?_;refine yM ?_;refine yD ?_;refine aa (aF (by exact rfl) (by exact rfl) (by with_reducible assumption)) ?_;refine y3 ?_
     refine yY ?_;refine aM ?_;refine br ?_;refine aq ?_;refine aI ?_;refine y4 ?_;refine yM ?_;refine yM ?_;refine aa (cM (by exact rfl) (by exact rfl) (by omega)) ?_;refine aa (au (by exact rfl) (by assumption) (by assumption) (by assumption)) ?_
     refine yC ?_
     refine FW.pu C ?_
     refine yM ?_;refine y3 ?_;refine y4 ?_;refine yM ?_;refine aa (aF (by exact rfl) (by exact rfl) (by with_reducible assumption)) ?_;refine yM ?_
     refine yO ?_;refine yM ?_;refine yO ?_;refine aa (aF (by exact rfl) (by exact rfl) (by with_reducible assumption)) ?_;refine yT ?_;refine yM ?_;refine yO ?_;refine yM ?_;refine yO ?_
     refine aa (aF (by exact rfl) (by exact rfl) (by with_reducible assumption)) ?_;refine yU ?_;refine y3 ?_;refine yY ?_;refine y4 ?_;refine yM ?_
     refine y3 ?_;refine aP ?_;refine kH ?_;refine eO ?_;refine eO ?_;refine kH ?_;refine eO ?_
     exact aH hL rfl rfl
    ·have m3:aC .gtr (.int .i64 ((dL x:Nat):Int)) (.int .i64 60)=some (.bool false):=nh (by omega)
     have e:jL x=true:=by unfold jL;rw[decide_eq_false p6,decide_eq_false (fun q=>p4 q.2)];rfl
     refine aq ?_;refine y4 ?_;refine yM ?_;refine yM ?_;refine yD ?_;refine aa (aF (by exact rfl) (by exact rfl) (by with_reducible assumption)) ?_;refine y3 ?_
     refine yY ?_;refine aM ?_;refine br ?_;refine aq ?_;refine aI ?_;refine y4 ?_;refine yM ?_;refine yM ?_;refine aa (cM (by exact rfl) (by exact rfl) (by omega)) ?_;refine aa (au (by exact rfl) (by assumption) (by assumption) (by assumption)) ?_
     refine yC ?_
     refine FW.pu C ?_
     refine yM ?_;refine y3 ?_;refine y4 ?_;refine yM ?_;refine aa (aF (by exact rfl) (by exact rfl) (by with_reducible assumption)) ?_;refine yM ?_
     refine yO ?_;refine yM ?_;refine yO ?_;refine aa (aF (by exact rfl) (by exact rfl) (by with_reducible assumption)) ?_;refine yT ?_;refine yM ?_;refine yO ?_;refine yM ?_;refine yO ?_
     refine aa (aF (by exact rfl) (by exact rfl) (by with_reducible assumption)) ?_;refine yU ?_;refine y3 ?_;refine yX ?_;refine aM ?_;refine fI ?_;refine br ?_;refine aK ?_
     refine yM ?_;refine iI ?_;refine yM ?_;refine y3 ?_
     refine⟨l.length-(j+1),by omega,j+1,by omega,rfl,rfl,rfl,rfl,?_⟩
     rw[jg hx,List.all_append,hall];simp[e]
  ·have m1:aC .gtr (.int .i64 ((dL x:Nat):Int)) (.int .i64 0)=some (.bool false):=nh (by omega)
   have m3:aC .gtr (.int .i64 ((dL x:Nat):Int)) (.int .i64 60)=some (.bool false):=nh (by omega)
   have e:jL x=true:=by unfold jL;rw[decide_eq_false (show¬60<dL x by omega),decide_eq_false (fun q=>p0 q.1)];rfl
   refine aq ?_;refine y4 ?_;refine yM ?_;refine yM ?_;refine yD ?_;refine aa (aF (by exact rfl) (by exact rfl) (by with_reducible assumption)) ?_;refine y3 ?_
   refine yY ?_;refine aM ?_;refine br ?_;refine aq ?_;refine aI ?_;refine y4 ?_;refine yM ?_;refine yM ?_;refine aa (cM (by exact rfl) (by exact rfl) (by omega)) ?_;refine aa (au (by exact rfl) (by assumption) (by assumption) (by assumption)) ?_
   refine yC ?_
   refine FW.pu C ?_
   refine yM ?_;refine y3 ?_;refine y4 ?_;refine yM ?_;refine aa (aF (by exact rfl) (by exact rfl) (by with_reducible assumption)) ?_;refine yM ?_
   refine yP ?_;refine yP ?_;refine yU ?_;refine yM ?_;refine yO ?_;refine yM ?_;refine yO ?_;refine aa (aF (by exact rfl) (by exact rfl) (by with_reducible assumption)) ?_
   refine yU ?_;refine y3 ?_;refine yX ?_;refine aM ?_;refine fI ?_;refine br ?_;refine aK ?_;refine yM ?_
   refine iI ?_;refine yM ?_;refine y3 ?_
   refine⟨l.length-(j+1),by omega,j+1,by omega,rfl,rfl,rfl,rfl,?_⟩
   rw[jg hx,List.all_append,hall];simp[e]
 ·obtain rfl:j=l.length:=by omega
  rw[List.take_length]at hall
  rw[hall,Bool.true_and]
  have mlt:aC .lss (.int .i64 (l.length:Nat)) (.int .i64 (l.length:Nat))=some (.bool false):=kT (by omega)
  refine aq ?_;refine y4 ?_;refine yM ?_;refine yM ?_;refine yD ?_;refine aa (aF (by exact rfl) (by exact rfl) (by with_reducible assumption)) ?_;refine y3 ?_
  refine yX ?_;refine cU ?_;refine dU ?_;refine dU ?_;refine iw ?_;refine br ?_;refine y4 ?_;refine yM ?_;refine yD ?_;refine aa (aF (by exact rfl) (by exact rfl) (by with_reducible assumption)) ?_;refine yM ?_;refine y3 ?_;refine aP ?_
  exact aH hL rfl rfl
theorem BR(hp:bA T)(hf:T 32=some f32)(hf1:T 118=some f118)(hf2:T 119=some f119){h:Heap}(hr:Rdy h){w:List Nat×List Nat}(hw:IsW w){s:List Nat}(hs:IsS s):Pu T 32 [wV w,sv s] h (sv (qZ w.1 (jO s w.2))):=by
 refine .of hp hf hr (fO _) ?_
 have hwc:cellsOf (wV w)=wL w:=by show(wL w).toArray.toList=_;simp
 have g0:(((h.push (.cells (cellsOf (wV w)) true 1)).push (.cells (cellsOf (sv s)) true 1)).push (.cells (aU 8 (.int .u64 0)) true 1)).get h.next=some (.cells (wL w) true 1):=by
  rw[hwc,z4 (by show h.next<h.next+2;omega),z4 (Nat.lt_succ_self _)];exact z3 h _
 have g1:(((h.push (.cells (cellsOf (wV w)) true 1)).push (.cells (cellsOf (sv s)) true 1)).push (.cells (aU 8 (.int .u64 0)) true 1)).get (h.next+1)=some (.cells (us s) true 1):=by(simp(disch:=first|omega|(simp only[z1,z2];omega)|(simp only[z1,z2];done)|fail)only[z8,z4,z5,z9,z7,z1,z2,g0];exact rfl)
 have g2:(((h.push (.cells (cellsOf (wV w)) true 1)).push (.cells (cellsOf (sv s)) true 1)).push (.cells (aU 8 (.int .u64 0)) true 1)).get (h.next+2)=some (.cells (us s0) true 1):=by(simp(disch:=first|omega|(simp only[z1,z2];omega)|(simp only[z1,z2];done)|fail)only[z8,z4,z5,z9,z7,z1,z2,g0,g1];exact rfl)
 have n0:(((h.push (.cells (cellsOf (wV w)) true 1)).push (.cells (cellsOf (sv s)) true 1)).push (.cells (aU 8 (.int .u64 0)) true 1)).next=h.next+3:=rfl
 have x0:Ext h (((h.push (.cells (cellsOf (wV w)) true 1)).push (.cells (cellsOf (sv s)) true 1)).push (.cells (aU 8 (.int .u64 0)) true 1)):=(((Ext.refl h).push _).push _).push _
 refine y4 ?_;refine yB ?_;refine yB ?_;refine aa (di) ?_;refine y3 ?_
 generalize(((h.push (.cells (cellsOf (wV w)) true 1)).push (.cells (cellsOf (sv s)) true 1)).push (.cells (aU 8 (.int .u64 0)) true 1))=H at*
 have W:=x0.wf hr.wf
 have hL:=x0.log.trans hr.log
 have wa:=zi hw
 have wb:=wY hw
 have wka:=aV hw.a.len
 have wkb:=aV hw.b.len
 have k8:=aV hs.len
 have k9:=bE hs.len
 have C1:=EL hp hf2 (h:={H with log:=[]}) (.of W) hs hw.b
 have hmt:=hs.meet hw.b
 have C2:=F0 hp hf1 (h:={H with log:=[]}) (.of W) hw.a hmt
 have hj:=hw.a.join hmt
 generalize jO s w.2=mt at*
 generalize qZ w.1 mt=jn at*
 have kj:=aV hj.len
 have kj9:=bE hj.len
 have kjl:=hj.len
 refine aq ?_;refine cK ?_;refine qF ?_;refine an rfl rfl rfl (by exact rfl) (by exact rfl) (by exact rfl) (au (by exact rfl) (by assumption) (by assumption) (by assumption)) ?_
 refine an rfl rfl rfl (by exact rfl) (by exact rfl) (by exact rfl) (au (by exact rfl) (by assumption) (by assumption) (by assumption)) ?_;refine qF ?_;refine an rfl rfl rfl (by exact rfl) (by exact rfl) (by exact rfl) (au (by exact rfl) (by assumption) (by assumption) (by assumption)) ?_
 refine qC ?_
 refine FW.puD C1 (by apply af rfl;apply af rfl;apply af rfl;apply bB rfl (aO rfl (au (by exact rfl) (by assumption) (by assumption) (by assumption)) (by exact tL _)) rfl;apply bB rfl (aO rfl (dg (by exact rfl)) (by exact dB _)) rfl;exact cI) ?_
 clear C1
 skip
 refine qC ?_
 refine FW.puD C2 (by apply af rfl;apply af rfl;exact cI) ?_
 clear C2
 refine yq rfl rfl rfl (by exact rfl) (by exact rfl) (by exact rfl) (by assumption) (by(simp only[aJ];assumption)) (by exact rfl) (by exact dH _) (by(simp only[z1,z2];omega)) (by(simp only[z1,z2];omega)) (by exact cI) ?_;refine dF ?_
 refine y1 ?_;refine br ?_;refine aP ?_
 refine aH ?_ (cV (own:=true) (s:=1) rfl ?_ kj9 kj rfl) rfl
 ·rw[Heap.aG (by show h.next≤h.next+2;omega)];exact hL
 ·(simp(disch:=first|omega|(simp only[z1,z2];omega))only[z3,z4,z5,z6,z7,z1,z2,g0,g1,g2];done)
end Go.A.Pk
end
section
set_option maxRecDepth 100000
namespace Go.A.Pk
variable {T:Nat→Option ak}
theorem Fj(w:List Nat×List Nat)(o:List Nat):(svR w o=(0,1))∨(sIn w.1 w.2=true∧o≠s0∧svR w o=(1,0)∧ic w.1 o=true)∨(sIn w.1 w.2=true∧o≠s0∧svR w o=(3,0)∧ic w.1 o=false∧ic w.2 o=true)∨(sIn w.1 w.2=true∧o≠s0∧svR w o=(2,0)∧ic w.1 o=false∧ic w.2 o=false):=by
 unfold svR
 by_cases h:sIn w.1 w.2=false∨o=s0
 ·left;rw[if_pos h]
 ·right
  rw[if_neg h]
  have h1:sIn w.1 w.2=true:=by
   cases hq:sIn w.1 w.2 with
   |true=>rfl
   |false=>exact absurd (.inl hq) h
  have h2:o≠s0:=fun q=>h (.inr q)
  cases hf:ic w.1 o with
  |true=>left;exact⟨h1,h2,if_pos rfl,rfl⟩
  |false=>
   right
   rw[if_neg (by simp)]
   cases hf2:ic w.2 o with
   |true=>left;exact⟨h1,h2,if_pos rfl,rfl,rfl⟩
   |false=>right;exact⟨h1,h2,if_neg (by simp),rfl,rfl⟩
end Go.A.Pk
end
