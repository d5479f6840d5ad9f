/- Walks of functions, plain laws, the table. -/
import Derived.Test.YteafdpbjocdbbaaGreatDoorQU0
import Derived.Test.YteafdpbjocdbbaaGreatDoorQD
import Derived.Test.YteafdpbjocdbbaaGreatDoorQF
import Derived.OpenShut
set_option linter.all false
section
set_option maxRecDepth 100000
namespace Go.A.Pk
variable {T:Nat→Option AFunc}
theorem a_idxA{base:Nat}{h:Heap}{e:Env}{len size i:Nat}{k:IntKind}{x y:Operand}{cs:Array Value}{v:Value}(hx:ev h e x=some (.agg cs))(hy:ev h e y=some (.int k (i:Nat)))(hi:i<len)(hv:lget cs.toList (i*size)=some v):aop h base e (.idxA len size none x y)=some (.val v h):=by
 have e0:(.int k (i:Nat):Value)= .int k (Int.ofNat i):=rfl
 rw[e0]at hy
 simp only[aop,hx,hy,nblt_of hi,cond_true,hv,bindV]
def leafAt(k:Kd)(i a b:Nat):List (Nat×Nat):=(if(a:Int)=k.w∧(b:Int)=k.h then [(1,i)]else [])++(if k.turn=true∧(a:Int)=k.h∧(b:Int)=k.w then [(2,i)]else [])
def leavesL(a b:Nat):List Kd→Nat→List (Nat×Nat)
 |[],_=>[]
 |k::l,i=>leafAt k i a b++leavesL a b l (i+1)
end Go.A.Pk
end
section
set_option maxRecDepth 100000
namespace Go.A.Pk
variable {T:Nat→Option AFunc}
theorem WF.get_lt{h:Heap}(w:WF h){x:Nat}{o:AObj}(hx:h.get x=some o):x<h.next:=by
 refine w.lt x (Classical.byContradiction fun hn=> ?_)
 have:=getO_none hn
 rw[show getO h.objs x=h.get x from rfl,hx]at this
 cases this
end Go.A.Pk
end
section
set_option maxRecDepth 100000
namespace Go.A.Pk
variable {T:Nat→Option AFunc}
def oneB(x:Nat×Nat)(a b:Nat):Int×Int:=if x.1=3 then(x.2,b)else(a,x.2)
def twoB(kerf:Int)(x:Nat×Nat)(a b:Nat):Int×Int:=if x.1=3 then((a:Int)-x.2-kerf,b)else(a,(b:Int)-x.2-kerf)
end Go.A.Pk
end
section
set_option maxRecDepth 100000
namespace Go.A.Pk
variable {T:Nat→Option AFunc}
abbrev Tab:=List ((Nat×Nat)×Int)
def ents(t:Tab):List (Value×Value):=t.map fun e=>(boardV e.1, .int .i64 e.2)
def isKey(x:Int×Int)(e:(Nat×Nat)×Int):Bool:=decide (x.1=e.1.1∧x.2=e.1.2)
def look:Tab→Int×Int→Int
 |[],_=>0
 |e::t,x=>if isKey x e then e.2 else look t x
def upd:Tab→Nat×Nat→Int→Tab
 |[],x,v=>[(x,v)]
 |e::t,x,v=>if isKey (x.1,x.2) e then(x,v)::t else e::upd t x v
def mx(a b:Int):Int:=if b>a then b else a
def L2:List Leaf:=[.i .i64, .i .i64]
theorem a_max{base:Nat}{h:Heap}{e:Env}{x y:Operand}{a b:Int}(hx:ev h e x=some (.int .i64 a))(hy:ev h e y=some (.int .i64 b)):aop h base e (.minmax true [x,y])=some (.val (.int .i64 (mx a b)) h):=by
 simp only[aop,evs,hx,hy,mmA,if_true,bindV,mx]
def ints(l:List Int):List Value:=l.map fun x=> .int .i64 x
theorem ints_get{l:List Int}{i:Nat}(hi:i<l.length):(ints l)[i]? =some (.int .i64 (l.getD i 0)):=by
 simp[ints,List.getD,List.getElem?_eq_getElem hi]
end Go.A.Pk
end
section
set_option maxRecDepth 100000
namespace Go.A.Pk
variable {T:Nat→Option AFunc}
def leafM(ws:List Int)(xs:List (Nat×Nat))(m:Int):Int:=xs.foldl (fun m x=>mx m (ws.getD x.2 0)) m
def cutM(kerf:Int)(t:Tab)(a b:Nat)(xs:List (Nat×Nat))(m:Int):Int:=xs.foldl (fun m x=>mx m (look t (oneB x a b)+look t (twoB kerf x a b))) m
def val(kerf:Int)(ws:List Int)(kl:List Kd)(t:Tab)(a b:Nat):Int:=cutM kerf t a b (cutsL a b) (leafM ws (leavesL a b kl 0) 0)
end Go.A.Pk
end
section
set_option maxRecDepth 100000
namespace Go.A.Pk
variable {T:Nat→Option AFunc}
inductive WslB (lo:Nat) (h:Heap):Value→List Int→Prop
 |nil:WslB lo h (.slice none 0 0) []
 |full {q xs}:lo≤q→q<h.next→h.get q=some (.cells (ints xs) true 1)→xs≠[]→WslB lo h (.slice (some ⟨q,0,none⟩) xs.length UNK) xs
theorem worth_succ{l:List Kd}{i:Nat}{x:Kd}(h:l[i]? =some x):(l.take (i+1)).map (·.worth)=(l.take i).map (·.worth)++[x.worth]:=by
 rw[List.take_add_one,h];simp
def StartQ(a:Option Addr)(n c:Nat)(kerf:Int)(l:List Kd)(er:Int)(v:Value)(h':Heap):Prop:=∃p,v= .tuple #[.pointer p, .int .i64 er]∧
 (er=0→∃bb wa wc,p=some ⟨bb,0,none⟩∧h'.get bb=some (.cells [.slice a n c, .int .i64 kerf, .slice wa n wc] true 1)∧SliceOf h' 1 (.slice wa n wc) n (ints (l.map (·.worth))))
theorem StartQ.gc{a:Option Addr}{n c:Nat}{kerf:Int}{l:List Kd}{er:Int}(h:Heap)(v:Value)(h1:Heap)(hv:noRef v=true)(q:StartQ a n c kerf l er v h1):StartQ a n c kerf l er v h:=by
 obtain⟨p,rfl,h2⟩:=q
 refine⟨p,rfl,fun he=> ?_⟩
 obtain⟨bb,wa,wc,rfl,_⟩:=h2 he
 simp[noRef,flatL,flat,scalL,scal,scal1]at hv
set_option maxHeartbeats 4000000 in
theorem startedB75(G:FnsE T){h:Heap}(hr:Rdy h){a:Option Addr}{n c:Nat}{l:List Kd}(hs:SliceOf h 5 (.slice a n c) n (kcs l))(kerf:Int)(hn:n<1000000){v:Value}{m:Nat}{bl:List Bool}(hb:SliceOf h 1 v m (bcs bl))(hm:m<1000000):
 Al T 75 [.agg #[.slice a n c, .int .i64 kerf],v] h (StartQ a n c kerf l (startE kerf l bl)):=by
 refine .of G.toFnsA.p G.f75 hr (StartQ.gc h) ?_
 have hx:Ext h (h.push (.cells [.slice a n c, .int .i64 kerf] true 1)):=(Ext.refl h).push _
 have hlen:l.length=n:=by have:=hs.len;rw[kcs_length]at this;omega
 refine y4 ?_;refine yB ?_;refine yM ?_;refine yM ?_;refine y3 ?_;refine wE_seq ?_;refine y4 ?_
 refine yN ?_
 refine yC ?_
 refine FW.pu (check66 G.toFnsA (.of (hx.wf hr.wf)) ((hs.ext hx).log []) kerf hn) ?_
 unfold startE
 by_cases hc:chk kerf l=0
 ·rw[if_pos hc,hc]
  refine yM ?_;refine y3 ?_;refine y4 ?_;refine yM ?_;refine yf ?_;refine y3 ?_;refine yX ?_;refine wE_skip ?_;refine kS_n ?_;refine wE_seq ?_;refine y4 ?_;refine yM ?_
  refine yC ?_
  refine FW.pu (contains122 G.toFnsC (.of (hx.wf hr.wf)) ((hb.ext hx).log []) hm) ?_
  cases hbl:bl.all id with
  |false=>
   refine y3 ?_;refine yY ?_;refine y4 ?_;refine yM ?_;refine yM ?_;refine y3 ?_;refine wE_ret ?_;refine kS_r ?_
   exact endA_ret (vs:=[.pointer none, .int .i64 1]) hr.log rfl ⟨_,rfl,fun e=>by cases e⟩
  |true=>
   refine y3 ?_;refine yX ?_;refine wE_skip ?_;refine kS_n ?_;refine y4 ?_
   refine yN ?_;refine wO_val (a_build (by exact rfl)) ?_;refine yB ?_
   refine yM ?_;refine y3 ?_;refine wE_seq ?_;refine y4 ?_;refine yF ?_
   refine yL ?_;refine yD ?_;refine yM ?_;refine y3 ?_;refine wE_block ?_
   refine wE_loop (fun k e ds h'=>∃(i:Nat) (w:Value) (xs:List Int),i≤n∧k=n-i∧e=[(7, .pointer (some ⟨h.next+1,0,none⟩)),(21, .slice a n c),(22, .int .i64 n),(23, .int .i64 i)]∧ds=[]∧Ext (h.push (.cells [.slice a n c, .int .i64 kerf] true 1)) h'∧
    h.next+1<h'.next∧h'.get (h.next+1)=some (.cells [.slice a n c, .int .i64 kerf,w] true 1)∧WslB (h.next+2) h' w xs∧Nonempty (PLift (xs=(l.take i).map (·.worth))))
    ⟨0, .slice none 0 0,[],Nat.zero_le _,rfl,rfl,rfl,(Ext.refl _).push _,Nat.lt_succ_self _,by(simp(disch:=first|omega|(simp only[z1,z2];omega)|(simp only[z1,z2];done)|fail)only[z8,z4,z5,z9,z7,z1,z2, *];exact rfl), .nil,⟨⟨rfl⟩⟩⟩ ?_
   rintro k e ds hi ⟨i,w,xs,hin,rfl,rfl,rfl,hx1,hnx,hW,hw,⟨⟨hxs⟩⟩⟩
   by_cases hlt:i<n
   ·obtain⟨x,hxl⟩:∃x,l[i]? =some x:=⟨l[i],List.getElem?_eq_getElem (by omega)⟩
    have hs':=hs.ext (((Ext.refl h).push _).trans hx1)
    rcases hs'.inv with⟨_,_,h0,_⟩|⟨b,o,cap',hv,s,hcap⟩
    ·omega
    ·cases hv
     obtain⟨vs,own,t,g1,g2⟩:=slice_elem s hxl
     have hx3:=(hx1.push (.cells [.int .i64 0, .int .i64 0, .int .i64 0, .int .i64 0, .bool false] true 1)).wr (base:=h.next) (x:=hi.next) (o:= .cells (kc x) true 1) hx1.next (by omega)
     have hx4:=hx3.push (.cells [.int .i64 x.worth] true 1)
     have hsu:=worth_succ hxl
     have hxl2:xs.length=i:=by rw[hxs];simp;omega
     have hsu2:(l.take (i+1)).map (·.worth)=xs++[x.worth]:=by rw[hsu,←hxs]
     have hid:PLift (xs.length=i∧(l.take (i+1)).map (·.worth)=xs++[x.worth]):=⟨hxl2,hsu2⟩
     clear hsu hxs hxl2 hsu2
     cases hw with
     |nil=>
      refine y4 ?_;refine yt ?_;refine y3 ?_;refine wE_seq ?_;refine yY ?_;refine wE_skip ?_;refine kS_n ?_;refine wE_seq ?_;refine wE_block ?_;refine y4 ?_
      refine wO_val (a_iaddrS (by exact rfl) (by exact rfl) hlt) ?_
      refine wO_val (a_loadN (by exact rfl) g1 g2 (by exact rfl)) ?_
      refine wO_val a_new ?_;refine yS ?_;refine y3 ?_;refine wE_draw ?_;refine qM ?_;refine qM ?_
      refine wD_quiet rfl rfl rfl (by exact rfl) (by exact rfl) (by exact rfl) (a_nilchk (by exact rfl)) ?_;refine qF ?_
      refine qL ?_
      refine qF ?_
      refine qL ?_
      refine wD_new rfl rfl rfl (by exact rfl) (by exact rfl) (by exact rfl) (a_bslice (by exact rfl) (by exact rfl)) (by refine rs_cons (rq_quiet rfl (a_load (by exact rfl) (by(simp(disch:=first|omega|(simp only[z1,z2];omega))only[z3,z4,z5,z6,z7,z1,z2, *];exact rfl)) (by exact rfl)) (by exact sv_int _ _)) ?_;refine rs_cons (rq_quiet rfl (a_faddr (by exact rfl)) (by exact sv_ptr _)) ?_;refine rs_cons (rq_quiet rfl (a_load (by exact rfl) (by(simp(disch:=first|omega|(simp only[z1,z2];omega))only[z3,z4,z5,z6,z7,z1,z2, *];exact rfl)) (by exact rfl)) (by exact sv_slice _ _ _)) ?_;refine rs_cons (rq_quiet rfl (a_faddr (by exact rfl)) (by exact sv_ptr _)) ?_;refine rs_cons (rq_quiet rfl (a_nilchk (by exact rfl)) (by exact sv_ptr _)) ?_;refine rs_cons (rq_quiet rfl (a_mov (by exact rfl)) (by exact sv_ptr _)) ?_;refine rs_cons (rq_quiet rfl (a_mov (by exact rfl)) (by exact sv_ptr _)) ?_;exact rs_nil) ?_
      refine wD_app_nil (n:=1) rfl rfl rfl (by exact rfl) (by exact rfl) (by exact rfl) (src_log (src_slice (cs:=[.int .i64 x.worth]) (by(simp(disch:=first|omega|(simp only[z1,z2];omega)|(simp only[z1,z2];done)|fail)only[z8,z4,z5,z9,z7,z1,z2, *];exact rfl)) rfl rfl)) (by omega) (by omega) (by apply ra_dropC rfl;apply ra_dropC rfl;apply ra_dropC rfl;apply ra_dropC rfl;apply ra_dropC rfl;apply ra_dropC rfl;apply ra_dropC rfl;apply ra_keepC rfl (rq_quiet rfl (a_mov (by exact rfl)) (by exact sv_ptr _)) rfl;exact ra_nil) ?_
      refine wD_quiet rfl rfl rfl (by exact rfl) (by exact rfl) (by exact rfl) (a_nilchk (by exact rfl)) ?_;refine qF ?_
      refine wD_store rfl rfl rfl (by exact rfl) (by exact rfl) (by exact rfl) (by(simp(disch:=first|omega|(simp only[z1,z2];omega))only[z3,z4,z5,z6,z7,z1,z2, *];exact rfl)) (by exact rfl) (by exact rfl) (by(simp only[z1,z2];omega)) (by omega) (by apply ra_dropC rfl;apply ra_dropC rfl;apply ra_dropC rfl;exact ra_nil) ?_
      refine wD_nil ?_;refine y1 ?_;refine kB_n ?_;refine kS_n ?_;refine wE_region ?_;refine yinc ?_;refine yM ?_;refine y3 ?_
      obtain⟨hxl2,hsu2⟩:=hid
      obtain rfl:i=0:=hxl2.symm
      refine⟨n-1,by omega,1, .slice (some ⟨hi.next+2,0,none⟩) 1 UNK,[x.worth],by omega,rfl,rfl,rfl,?_,?_,?_,?_,?_⟩
      ·exact(hx4.push (.cells [.int .i64 x.worth] true 1)).wr (Nat.le_refl _) (Nat.le_succ _)
      ·(simp only[z1,z2];omega)
      ·(simp(disch:=first|omega|(simp only[z1,z2];omega))only[z3,z4,z5,z6,z7,z1,z2, *];exact rfl)
      ·exact .full (xs:=[x.worth]) (by omega) (by(simp only[z1,z2];omega)) (by(simp(disch:=first|omega|(simp only[z1,z2];omega)|(simp only[z1,z2];done)|fail)only[z8,z4,z5,z9,z7,z1,z2, *];exact rfl)) (by simp)
      ·exact⟨⟨hsu2.symm⟩⟩
     | @full q _ h1 h2 h3 h5=>
       have h4:(ints xs).length=xs.length:=by simp[ints]
       have h7:xs.length<1000000:=by have:=hid.down.1;omega
       have h6:xs.length≠0:=by cases xs with|nil=>exact absurd rfl h5|cons _ _=>simp
       have hwr:lcat (ints xs) [.int .i64 x.worth]=ints (xs++[x.worth]):=by rw[lcat_eq];simp[ints]
       refine y4 ?_;refine yt ?_;refine y3 ?_;refine wE_seq ?_;refine yY ?_;refine wE_skip ?_;refine kS_n ?_;refine wE_seq ?_;refine wE_block ?_;refine y4 ?_
       refine wO_val (a_iaddrS (by exact rfl) (by exact rfl) hlt) ?_
       refine wO_val (a_loadN (by exact rfl) g1 g2 (by exact rfl)) ?_
       refine wO_val a_new ?_;refine yS ?_;refine y3 ?_;refine wE_draw ?_;refine qM ?_;refine qM ?_
       refine wD_quiet rfl rfl rfl (by exact rfl) (by exact rfl) (by exact rfl) (a_nilchk (by exact rfl)) ?_;refine qF ?_
       refine qL ?_
       refine qF ?_
       refine qL ?_
       refine wD_new rfl rfl rfl (by exact rfl) (by exact rfl) (by exact rfl) (a_bslice (by exact rfl) (by exact rfl)) (by refine rs_cons (rq_quiet rfl (a_load (by exact rfl) (by(simp(disch:=first|omega|(simp only[z1,z2];omega))only[z3,z4,z5,z6,z7,z1,z2, *];exact rfl)) (by exact rfl)) (by exact sv_int _ _)) ?_;refine rs_cons (rq_quiet rfl (a_faddr (by exact rfl)) (by exact sv_ptr _)) ?_;refine rs_cons (rq_quiet rfl (a_load (by exact rfl) (by(simp(disch:=first|omega|(simp only[z1,z2];omega))only[z3,z4,z5,z6,z7,z1,z2, *];exact rfl)) (by exact rfl)) (by exact sv_slice _ _ _)) ?_;refine rs_cons (rq_quiet rfl (a_faddr (by exact rfl)) (by exact sv_ptr _)) ?_;refine rs_cons (rq_quiet rfl (a_nilchk (by exact rfl)) (by exact sv_ptr _)) ?_;refine rs_cons (rq_quiet rfl (a_mov (by exact rfl)) (by exact sv_ptr _)) ?_;refine rs_cons (rq_quiet rfl (a_mov (by exact rfl)) (by exact sv_ptr _)) ?_;exact rs_nil) ?_
       refine wD_app_open (n:=1) (vs:=ints xs) (ws:=ints (xs++[x.worth])) rfl rfl rfl (by exact rfl) (by exact rfl) (by exact rfl) (src_log (src_slice (cs:=[.int .i64 x.worth]) (by(simp(disch:=first|omega|(simp only[z1,z2];omega)|(simp only[z1,z2];done)|fail)only[z8,z4,z5,z9,z7,z1,z2, *];exact rfl)) rfl rfl)) (by omega) (by(simp(disch:=first|omega|(simp only[z1,z2];omega))only[z3,z4,z5,z6,z7,z1,z2, *];done)) (by omega) (by omega) rfl (by omega) hwr (by(simp only[z1,z2];omega)) (by omega) (by apply ra_dropC rfl;apply ra_dropC rfl;apply ra_dropC rfl;apply ra_dropC rfl;apply ra_dropC rfl;apply ra_dropC rfl;apply ra_dropC rfl;apply ra_keepC rfl (rq_quiet rfl (a_mov (by exact rfl)) (by exact sv_ptr _)) rfl;exact ra_nil) ?_
       refine wD_quiet rfl rfl rfl (by exact rfl) (by exact rfl) (by exact rfl) (a_nilchk (by exact rfl)) ?_;refine qF ?_
       refine wD_store rfl rfl rfl (by exact rfl) (by exact rfl) (by exact rfl) (by(simp(disch:=first|omega|(simp only[z1,z2];omega))only[z3,z4,z5,z6,z7,z1,z2, *];exact rfl)) (by exact rfl) (by exact rfl) (by(simp only[z1,z2];omega)) (by omega) (by apply ra_dropC rfl;apply ra_dropC rfl;apply ra_dropC rfl;exact ra_nil) ?_
       refine wD_nil ?_;refine y1 ?_;refine kB_n ?_;refine kS_n ?_;refine wE_region ?_;refine yinc ?_;refine yM ?_;refine y3 ?_
       have hxi:=hid.down.1
       refine⟨n-(i+1),by omega,i+1, .slice (some ⟨hi.next+2,0,none⟩) (xs.length+1) UNK,xs++[x.worth],by omega,rfl,rfl,rfl,?_,?_,?_,?_,?_⟩
       ·exact((hx4.wr (x:=q) (base:=h.next) (o:= .dead) (show h.next+1≤q by omega) (by omega)).push (.cells (ints (xs++[x.worth])) true 1)).wr (Nat.le_refl _) (Nat.le_succ _)
       ·(simp only[z1,z2];omega)
       ·(simp(disch:=first|omega|(simp only[z1,z2];omega))only[z3,z4,z5,z6,z7,z1,z2, *];exact rfl)
       ·have:=WslB.full (lo:=h.next+2) (q:=hi.next+2) (xs:=xs++[x.worth]) (h:=(((((hi.push (.cells [.int .i64 0, .int .i64 0, .int .i64 0, .int .i64 0, .bool false] true 1)).wr h.next hi.next (.cells (kc x) true 1)).push (.cells [.int .i64 x.worth] true 1)).wr h.next q .dead).push (.cells (ints (xs++[x.worth])) true 1)).wr h.next (h.next+1) (.cells [.slice (some ⟨b,o,none⟩) n c, .int .i64 kerf, .slice (some ⟨hi.next+2,0,none⟩) (xs.length+1) UNK] true 1)) (by omega) (by(simp only[z1,z2];omega)) (by(simp(disch:=first|omega|(simp only[z1,z2];omega)|(simp only[z1,z2];done)|fail)only[z8,z4,z5,z9,z7,z1,z2, *];done)) (by simp)
        rw[List.length_append]at this
        exact this
       ·exact⟨⟨hid.down.2.symm⟩⟩
   ·obtain rfl:i=n:=by omega
    refine y4 ?_;refine yf ?_;refine y3 ?_;refine wE_seq ?_;refine yX ?_;refine wE_exit ?_;refine kS_e ?_;refine kS_e ?_;refine kB_e ?_;refine kS_n ?_
    refine y4 ?_;refine yM ?_;refine yM ?_;refine yM ?_;refine y3 ?_;refine wE_ret ?_
    refine endA_ret (vs:=[.pointer (some ⟨h.next+1,0,none⟩), .int .i64 0]) (hx1.log.trans hr.log) rfl ⟨_,rfl,fun _=> ?_⟩
    rw[List.take_of_length_le (by omega)]at hxs
    have hxn:xs.length=i:=by rw[hxs];simp;omega
    rw[←hxs]
    cases hw with
    |nil=>
     obtain rfl:i=0:=by simpa using hxn.symm
     exact⟨_,none,0,rfl,hW, .nil⟩
    | @full q _ h1 h2 h3 h5=>
      refine⟨_,some ⟨q,0,none⟩,UNK,rfl,by rw[hxn]at hW;exact hW, .mem ⟨h2,⟨_,_,_,h3,?_⟩,by simp[ints];omega⟩ (by unfold UNK;omega)⟩
      rw[ltake_eq,ldrop_eq,List.drop_zero,List.take_of_length_le (by simp[ints];omega)]
 ·rw[if_neg hc]
  refine yM ?_;refine y3 ?_;refine y4 ?_;refine yM ?_;refine yt ?_;refine y3 ?_;refine yY ?_;refine y4 ?_;refine yM ?_;refine yM ?_;refine yM ?_;refine y3 ?_;refine wE_ret ?_;refine kS_r ?_
  exact endA_ret (vs:=[.pointer none, .int .i64 (chk kerf l)]) hr.log rfl ⟨_,rfl,fun e=>(hc e).elim⟩
end Go.A.Pk
end
section
set_option maxRecDepth 100000
namespace Go.A.Pk
variable {T:Nat→Option AFunc}
def OnB(w ht:Int):Prop:=(1≤w∧w≤16)∧(1≤ht∧ht≤16)
instance(w ht:Int):Decidable (OnB w ht):=by unfold OnB;infer_instance
theorem StartQ.logs{a:Option Addr}{n c:Nat}{kerf:Int}{l:List Kd}{er:Int}(v:Value)(h':Heap)(m:List Nat)(q:StartQ a n c kerf l er v h'):StartQ a n c kerf l er v {h' with log:=m}:=by
 obtain⟨p,h1,h2⟩:=q
 refine⟨p,h1,fun e=> ?_⟩
 obtain⟨bb,wa,wc,q1,q2,q3⟩:=h2 e
 exact⟨bb,wa,wc,q1,q2,q3.log _⟩
end Go.A.Pk
end
section
namespace Go.A.Pk
def foldM{α:Type}(f:α→Int)(xs:List α)(m:Int):Int:=xs.foldl (fun m x=>mx m (f x)) m
def VF(kerf:Int)(ws:List Int)(kl:List Kd):Nat→Int×Int→Int
 |0,_=>0
 |n+1,p=>if 1≤p.1∧1≤p.2 then foldM (fun x=>VF kerf ws kl n (oneB x p.1.toNat p.2.toNat)+VF kerf ws kl n (twoB kerf x p.1.toNat p.2.toNat)) (cutsL p.1.toNat p.2.toNat) (leafM ws (leavesL p.1.toNat p.2.toNat kl 0) 0)else 0
def sz(p:Int×Int):Nat:=p.1.toNat+p.2.toNat
def V(kerf:Int)(ws:List Int)(kl:List Kd)(p:Int×Int):Int:=VF kerf ws kl (sz p) p
end Go.A.Pk
end
section
set_option maxRecDepth 100000
namespace Go.A.Pk
variable {T:Nat→Option AFunc}
theorem al_mono{f:Nat}{args:List Value}{h:Heap}{Q Q':Value→Heap→Prop}(H:Al T f args h Q)(hq:∀v h',Q v h'→Q' v h'):Al T f args h Q':=
 CW.mono H fun r h' ⟨hx,v,hv,q⟩=>⟨hx,v,hv,hq _ _ q⟩
end Go.A.Pk
end
section
set_option maxRecDepth 100000
namespace Go.A.Pk
variable {T:Nat→Option AFunc}
structure FnsK (T:Nat→Option AFunc):Prop where
 p:primAS T
 f121:T 121=some f121
 f148:T 148=some f148
 f175:T 175=some f175
theorem mul175(F:FnsK T){h:Heap}(hr:Rdy h){n:Nat}(hn:n<9):Pu T 175 [.int .u64 ((1:Nat):Int), .int .u64 n] h (.tuple #[.int .u64 ((0:Nat):Int), .int .u64 n]):=by
 refine .of F.p F.f175 hr rfl ?_
 have q1:Nat.land n 4294967295=n:=(show∀m,m<9→Nat.land m 4294967295=m by decide) n hn
 have q2:Nat.shiftRight n 32=0:=(show∀m,m<9→Nat.shiftRight m 32=0 by decide) n hn
 have e1:numOp .and (.int .u64 ((1:Nat):Int)) (.int .u64 4294967295)=some (.int .u64 ((1:Nat):Int)):=m_and (a:=1) (b:=4294967295) (by omega) (by omega)
 have e2:numOp .shr (.int .u64 ((1:Nat):Int)) (.int .u64 32)=some (.int .u64 ((0:Nat):Int)):=m_shr (a:=1) (n:=32) (by omega)
 have e3:numOp .and (.int .u64 n) (.int .u64 4294967295)=some (.int .u64 n):=by
  have:=m_and (a:=n) (b:=4294967295) (by omega) (by omega)
  rw[q1]at this;exact this
 have e4:numOp .shr (.int .u64 n) (.int .u64 32)=some (.int .u64 ((0:Nat):Int)):=by
  have:=m_shr (a:=n) (n:=32) (k:= .u64) (by omega)
  rw[q2]at this;exact this
 have e5:numOp .mul (.int .u64 ((1:Nat):Int)) (.int .u64 n)=some (.int .u64 n):=by
  have:=m_mulU (a:=1) (b:=n) (by omega)
  rw[Nat.one_mul]at this;exact this
 have e6:numOp .mul (.int .u64 ((0:Nat):Int)) (.int .u64 n)=some (.int .u64 ((0:Nat):Int)):=by
  have:=m_mulU (a:=0) (b:=n) (by omega)
  rw[Nat.zero_mul]at this;exact this
 have e7:numOp .add (.int .u64 ((0:Nat):Int)) (.int .u64 ((0:Nat):Int))=some (.int .u64 ((0:Nat):Int)):=m_addU (a:=0) (b:=0) (by omega)
 have e8:numOp .and (.int .u64 ((0:Nat):Int)) (.int .u64 4294967295)=some (.int .u64 ((0:Nat):Int)):=m_and (a:=0) (b:=4294967295) (by omega) (by omega)
 have e9:numOp .shr (.int .u64 ((0:Nat):Int)) (.int .u64 32)=some (.int .u64 ((0:Nat):Int)):=m_shr (a:=0) (n:=32) (by omega)
 have e10:numOp .mul (.int .u64 ((1:Nat):Int)) (.int .u64 ((0:Nat):Int))=some (.int .u64 ((0:Nat):Int)):=m_mulU (a:=1) (b:=0) (by omega)
 have e11:numOp .mul (.int .u64 ((0:Nat):Int)) (.int .u64 ((0:Nat):Int))=some (.int .u64 ((0:Nat):Int)):=m_mulU (a:=0) (b:=0) (by omega)
 have e12:numOp .shr (.int .u64 n) (.int .u64 32)=some (.int .u64 ((0:Nat):Int)):=e4
 refine y4 ?_;refine yM ?_;refine yM ?_;refine y3 ?_;refine y4 ?_;refine yM ?_
 refine wO_val (a_num (by exact rfl) (by exact rfl) (by with_reducible assumption)) ?_;refine yM ?_;refine y3 ?_;refine y4 ?_;refine yM ?_
 refine wO_val (a_num (by exact rfl) (by exact rfl) (by with_reducible assumption)) ?_;refine yM ?_;refine y3 ?_;refine y4 ?_;refine yM ?_
 refine wO_val (a_num (by exact rfl) (by exact rfl) (by with_reducible assumption)) ?_;refine yM ?_;refine y3 ?_;refine y4 ?_;refine yM ?_
 refine wO_val (a_num (by exact rfl) (by exact rfl) (by with_reducible assumption)) ?_;refine yM ?_;refine y3 ?_;refine y4 ?_;refine yM ?_;refine yM ?_
 refine wO_val (a_num (by exact rfl) (by exact rfl) (by with_reducible assumption)) ?_;refine yM ?_;refine y3 ?_;refine y4 ?_;refine yM ?_;refine yM ?_
 refine wO_val (a_num (by exact rfl) (by exact rfl) (by with_reducible assumption)) ?_;refine yM ?_;refine wO_val (a_num (by exact rfl) (by exact rfl) (by with_reducible assumption)) ?_;refine wO_val (a_num (by exact rfl) (by exact rfl) (by with_reducible assumption)) ?_;refine yM ?_;refine y3 ?_;refine y4 ?_;refine yM ?_;refine wO_val (a_num (by exact rfl) (by exact rfl) (by with_reducible assumption)) ?_;refine yM ?_;refine y3 ?_;refine y4 ?_;refine yM ?_;refine wO_val (a_num (by exact rfl) (by exact rfl) (by with_reducible assumption)) ?_;refine yM ?_;refine y3 ?_;refine y4 ?_;refine yM ?_;refine yM ?_;refine yM ?_;refine wO_val (a_num (by exact rfl) (by exact rfl) (by with_reducible assumption)) ?_
 refine wO_val (a_num (by exact rfl) (by exact rfl) (by with_reducible assumption)) ?_;refine yM ?_;refine y3 ?_;refine y4 ?_;refine yM ?_;refine yM ?_
 refine wO_val (a_num (by exact rfl) (by exact rfl) (by with_reducible assumption)) ?_;refine yM ?_;refine wO_val (a_num (by exact rfl) (by exact rfl) (by with_reducible assumption)) ?_;refine yM ?_;refine wO_val (a_num (by exact rfl) (by exact rfl) (by with_reducible assumption)) ?_
 refine wO_val (a_num (by exact rfl) (by exact rfl) (by with_reducible assumption)) ?_;refine yM ?_;refine y3 ?_;refine y4 ?_;refine yM ?_;refine yM ?_
 refine wO_val (a_num (by exact rfl) (by exact rfl) (by with_reducible assumption)) ?_;refine yM ?_;refine y3 ?_;refine wE_ret ?_
 exact endP_ret hr.log rfl rfl
theorem mul148(F:FnsK T){h:Heap}(hr:Rdy h){n:Nat}(hn:n<9):Pu T 148 [.int .u64 ((1:Nat):Int), .int .u64 n] h (.tuple #[.int .u64 ((0:Nat):Int), .int .u64 n]):=by
 refine .of F.p F.f148 hr rfl ?_
 refine y4 ?_;refine yM ?_;refine yM ?_;refine y3 ?_;refine wE_seq ?_;refine yX ?_;refine wE_skip ?_;refine kS_n ?_;refine y4 ?_
 refine yM ?_;refine yM ?_
 refine yC ?_
 refine FW.pu (mul175 F (.of hr.wf) hn) ?_
 refine yM ?_;refine yE ?_;refine yE ?_;refine yM ?_;refine yM ?_;refine y3 ?_;refine y4 ?_;refine yM ?_;refine yM ?_;refine yM ?_;refine yM ?_;refine y3 ?_;refine wE_ret ?_
 exact endP_ret hr.log rfl rfl
theorem lrow_len{α:Type}(z:List α):∀n,(lrow n z).length=n*z.length
 |0=>by simp[lrow]
 |n+1=>by rw[lrow,lcat_eq,List.length_append,lrow_len z n,Nat.add_mul,Nat.one_mul,Nat.add_comm]
theorem lrow_add{α:Type}(z:List α)(m:Nat):∀n,lrow (n+m) z=lrow n z++lrow m z
 |0=>by simp[lrow]
 |n+1=>by rw[Nat.succ_add,lrow,lrow,lcat_eq,lcat_eq,lrow_add z m n,List.append_assoc]
theorem ones_lrow{z:List Value}(hz:∀x∈z,∃k n,x=Value.int k n):∀n,ones (lrow n z)=true:=by
 have key:∀l:List Value,(∀x∈l,∃k n,x=Value.int k n)→ones l=true:=fun l=>by
  induction l with
  |nil=>intro _;rfl
  |cons x l ih=>
   intro hl
   obtain⟨k,n,rfl⟩:=hl x (List.mem_cons_self ..)
   have:=ih fun y hy=>hl y (List.mem_cons_of_mem _ hy)
   simp[ones,this]
 intro n
 refine key _ fun x hx=>hz x ?_
 induction n with
 |zero=>simp[lrow]at hx
 |succ n ih=>
  rw[lrow,lcat_eq,List.mem_append]at hx
  exact hx.elim id ih
theorem rep_put{k j m:Nat}{z o:List Value}(hl:z.length=2)(ho:o.length=2)(hm:m≤k)(hmj:m≤j):lputs (lrow k z++lrow j o) (0+k*2) (ltake (m*2) (lrow k z))=lrow (k+m) z++lrow (j-m) o:=by
 obtain⟨j,rfl⟩:∃j',j=m+j':=⟨j-m,by omega⟩
 obtain⟨k',rfl⟩:∃k',k=m+k':=⟨k-m,by omega⟩
 have h1:ltake (m*2) (lrow (m+k') z)=lrow m z:=by
  rw[ltake_eq,lrow_add z k' m,List.take_append_of_le_length (by rw[lrow_len,hl];omega),List.take_of_length_le (by rw[lrow_len,hl];omega)]
 rw[h1,lputs_mid (by rw[List.length_append,lrow_len,lrow_len,lrow_len,hl,ho];omega),Nat.zero_add,lrow_len,hl,List.take_append_of_le_length (by rw[lrow_len,hl];omega),List.take_of_length_le (by rw[lrow_len,hl];omega)]
 have h2:(m+k')*2+m*2=(lrow (m+k') z++lrow m o).length:=by rw[List.length_append,lrow_len,lrow_len,hl,ho]
 rw[lrow_add z m (m+k'),lrow_add o j m,←List.append_assoc (lrow (m+k') z),h2,List.drop_left,Nat.add_sub_cancel_left]
set_option maxHeartbeats 4000000 in
theorem repeat121(F:FnsK T){h:Heap}(hr:Rdy h){q n:Nat}{x y:Int}(gq:h.get q=some (.cells [Value.int .i64 x, .int .i64 y] true 2))(hn:1≤n∧n≤8):
 Al T 121 [.slice (some ⟨q,0,none⟩) 1 1, .int .i64 n] h fun v h'=>∃b,v= .slice (some ⟨b,0,none⟩) n n∧b<h'.next∧h'.get b=some (.cells (lrow n [Value.int .i64 x, .int .i64 y]) true 2):=by
 refine .of F.p F.f121 hr (fun v h1 hv q=> ?_) ?_
 ·obtain⟨b,rfl,_⟩:=q
  simp[noRef,flatL,flat,scalL,scal,scal1]at hv
 refine y4 ?_;refine yM ?_;refine y3 ?_;refine wE_seq ?_;refine y4 ?_;refine yM ?_;refine yf ?_
 refine y3 ?_;refine yX ?_;refine wE_skip ?_;refine kS_n ?_;refine y4 ?_;refine yM ?_;refine yD ?_;refine wO_val (a_conv (by exact rfl) (by exact wrapA_u64 (by omega))) ?_
 refine yM ?_;refine wO_val (a_conv (by exact rfl) (by exact wrapA_u64 (by omega))) ?_
 refine yC ?_
 refine FW.pu (mul148 F (.of hr.wf) (by omega)) ?_
 refine yM ?_;refine yE ?_;refine yE ?_;refine yM ?_;refine yM ?_;refine y3 ?_;refine wE_seq ?_
 refine y4 ?_;refine yM ?_;refine yf ?_;refine yM ?_;refine yO ?_;refine yM ?_;refine yO ?_;refine yf ?_
 refine yU ?_;refine y3 ?_;refine yX ?_;refine wE_skip ?_;refine kS_n ?_;refine y4 ?_;refine yM ?_
 refine wO_val (a_conv (by exact rfl) (by exact wrapA_i64 (by omega) (by omega))) ?_
 refine wO_val (a_mkSlice (by exact rfl) (by exact rfl) (Nat.le_refl _) (by omega) (by omega) (by exact rfl)) ?_
 have hx1:Ext h (h.push (.cells (lrow n [Value.int .i64 0, .int .i64 0]) true 2)):=(Ext.refl h).push _
 refine yM ?_;refine y3 ?_;refine y4 ?_;refine yM ?_;refine yM ?_
 have kq:=WF.get_lt hr.wf gq
 have hrl:(lrow n [Value.int .i64 0, .int .i64 0]).length=n*2:=lrow_len _ n
 have hput:lputs (lrow n [Value.int .i64 0, .int .i64 0]) 0 [Value.int .i64 x, .int .i64 y]=lrow 1 [Value.int .i64 x, .int .i64 y]++lrow (n-1) [Value.int .i64 0, .int .i64 0]:=by
  obtain⟨m,rfl⟩:∃m,n=m+1:=⟨n-1,by omega⟩
  rw[lrow,lcat_eq,Nat.add_sub_cancel];rfl
 refine wO_val (a_copy (s:=0) (k:=1) (m:=1) (l:=[Value.int .i64 x, .int .i64 y]) (by exact rfl) (by exact rfl) (src_slice (by(simp(disch:=first|omega|(simp only[z1,z2];omega))only[z3,z4,z5,z6,z7,z1,z2, *];exact rfl)) rfl rfl) (by(simp(disch:=first|omega|(simp only[z1,z2];omega))only[z3,z4,z5,z6,z7,z1,z2, *];exact rfl)) (show min 1 n=1 by omega) (by rw[hrl];omega) rfl hput) ?_
 refine yM ?_;refine y3 ?_;refine wE_seq ?_;refine wE_block ?_
 refine wE_loop (fun m e ds h'=>∃k:Nat,1≤k∧k≤n∧m=n-k∧e=[(7, .slice (some ⟨h.next,0,none⟩) n n),(8, .int .i64 k)]∧ds=[]∧Ext h h'∧h.next<h'.next∧h'.get h.next=some (.cells (lrow k [Value.int .i64 x, .int .i64 y]++lrow (n-k) [Value.int .i64 0, .int .i64 0]) true 2))
  ⟨1,Nat.le_refl _,hn.1,rfl,rfl,rfl,hx1.wr (Nat.le_refl _) (Nat.le_refl _),Nat.lt_succ_self _,by(simp(disch:=first|omega|(simp only[z1,z2];omega))only[z3,z4,z5,z6,z7,z1,z2, *];exact rfl)⟩ ?_
 rintro m e ds h' ⟨k,hk1,hkn,rfl,rfl,rfl,hx',hlt,gb⟩
 by_cases hkl:k<n
 ·refine wE_seq ?_;refine y4 ?_;refine yM ?_;refine yM ?_;refine yD ?_;refine yt ?_;refine y3 ?_
  refine yY ?_;refine wE_skip ?_;refine kS_n ?_;refine wE_block ?_;refine wE_draw ?_;refine qM ?_;refine qM ?_
  refine qM ?_
  refine wD_quiet rfl rfl rfl (by exact rfl) (by exact rfl) (by exact rfl) (a_sliceC (i:=k) (j:=n) (by exact rfl) (bnd_some (by exact rfl)) bnd_none (by omega) (by omega) hkl (by omega)) ?_
  refine qM ?_;refine qM ?_
  refine wD_quiet rfl rfl rfl (by exact rfl) (by exact rfl) (by exact rfl) (a_sliceC (i:=0) (j:=k) (by exact rfl) bnd_none (bnd_some (by exact rfl)) (by omega) (by omega) (by omega) (by omega)) ?_
  have hm1:Nat.min k n=min k n:=rfl
  have hlen:(lrow k [Value.int .i64 x, .int .i64 y]++lrow (n-k) [Value.int .i64 0, .int .i64 0]).length=n*2:=by
   rw[List.length_append,lrow_len,lrow_len];simp;omega
  have htk:ltake ((k-0)*2) (ldrop (0+0*2) (lrow k [Value.int .i64 x, .int .i64 y]++lrow (n-k) [Value.int .i64 0, .int .i64 0]))=lrow k [Value.int .i64 x, .int .i64 y]:=by
   rw[ltake_eq,ldrop_eq]
   simp only[Nat.zero_mul,Nat.add_zero,List.drop_zero,Nat.sub_zero]
   rw[List.take_append_of_le_length (by rw[lrow_len];simp),List.take_of_length_le (by rw[lrow_len];simp)]
  refine wD_copy (m:=k-0) (k:=min k (n-k)) (l:=lrow k [Value.int .i64 x, .int .i64 y]) rfl rfl rfl (by exact rfl) (by exact rfl) (by exact rfl) (src_log (src_slice gb htk (by rw[lrow_len];simp))) gb rfl ?_ ?_ (rep_put rfl rfl (by omega) (by omega)) hlt (by omega) (by apply ra_dropC rfl;apply ra_dropC rfl;apply ra_dropC rfl;apply ra_dropC rfl;apply ra_dropC rfl;apply ra_dropC rfl;apply ra_keepC rfl (rq_quiet rfl (a_mov (by exact rfl)) (by exact sv_int _ _)) rfl;exact ra_nil) ?_
  ·rw[hlen];omega
  ·rw[ltake_eq]
   have:(lrow k [Value.int .i64 x, .int .i64 y]).take (min k (n-k)*2)=lrow (min k (n-k)) [Value.int .i64 x, .int .i64 y]:=by
    obtain⟨k',hk'⟩:∃k',k=min k (n-k)+k':=⟨k-min k (n-k),by omega⟩
    generalize min k (n-k)=a at hk'⊢
    rw[hk',lrow_add,List.take_append_of_le_length (by rw[lrow_len];simp),List.take_of_length_le (by rw[lrow_len];simp)]
   rw[this]
   exact ones_lrow (by simp) _
  refine wD_quiet rfl rfl rfl (by exact rfl) (by exact rfl) (by exact rfl) (a_num (by exact rfl) (by exact rfl) (by exact m_add (wrapA_i64 (by omega) (by omega)))) ?_;refine qM ?_;refine wD_nil ?_;refine y1 ?_;refine kB_n ?_
  refine kS_n ?_
  refine⟨n-(k+min k (n-k)),by omega,k+min k (n-k),by omega,by omega,rfl,?_,rfl,hx'.wr (Nat.le_refl _) (Nat.le_refl _),hlt,?_⟩
  ·rw[Int.natCast_add]
  ·rw[show n-(k+min k (n-k))=n-k-min k (n-k)by omega]
   (simp(disch:=first|omega|(simp only[z1,z2];omega))only[z3,z4,z5,z6,z7,z1,z2, *];done)
 ·obtain rfl:k=n:=by omega
  refine wE_seq ?_;refine y4 ?_;refine yM ?_;refine yM ?_;refine yD ?_;refine yf ?_;refine y3 ?_
  refine yX ?_;refine wE_exit ?_;refine kS_e ?_;refine kS_e ?_;refine kB_e ?_;refine kS_n ?_;refine y4 ?_;refine yM ?_;refine yM ?_;refine y3 ?_;refine wE_ret ?_
  refine endA_ret (vs:=[.slice (some ⟨h.next,0,none⟩) k k]) (hx'.log.trans hr.log) rfl ⟨_,rfl,hlt,?_⟩
  rw[Nat.sub_self]at gb
  simpa[lrow]using gb
end Go.A.Pk
end
section
set_option maxRecDepth 100000
namespace Go.A.Pk
variable {T:Nat→Option AFunc}
structure FnsZ (T:Nat→Option AFunc):Prop extends FnsK T where
 f72:T 72=some f72
def us(pl:List Nat):List Value:=pl.map fun n=> .int .u64 (n:Nat)
theorem us_get{pl:List Nat}{i:Nat}(hi:i<pl.length):lget (us pl) (i*1)=some (.int .u64 ((pl.getD i 0:Nat):Int)):=by
 rw[lget_eq,Nat.mul_one,us,List.getElem?_map,List.getElem?_eq_getElem hi,List.getD_eq_getElem?_getD,List.getElem?_eq_getElem hi];rfl
def pst(pl:List Nat):Nat→Nat×Int×Int
 |0=>(0, -1, -1)
 |i+1=>if pl.getD i 0=0 then pst pl i else(Nat.lor (pst pl i).1 (pl.getD i 0),if(pst pl i).2.1<0 then(i:Int)else(pst pl i).2.1,i)
theorem pst_bd{pl:List Nat}(hp:∀x∈pl,x<18446744073709551616):∀i,(pst pl i).1<18446744073709551616∧(((pst pl i).2.1= -1∧(pst pl i).2.2= -1)∨(0≤(pst pl i).2.1∧(pst pl i).2.1≤(pst pl i).2.2∧(pst pl i).2.2<i))
 |0=>⟨by show 0<_;omega, .inl ⟨rfl,rfl⟩⟩
 |i+1=>by
  obtain⟨h1,h2⟩:=pst_bd hp i
  have hg:pl.getD i 0<18446744073709551616:=by
   rw[List.getD_eq_getElem?_getD]
   by_cases hi:i<pl.length
   ·rw[List.getElem?_eq_getElem hi];exact hp _ (List.getElem_mem hi)
   ·rw[List.getElem?_eq_none (by omega)];show 0<_;omega
  unfold pst
  split
  ·exact⟨h1,by omega⟩
  ·refine⟨Nat.or_lt_two_pow (n:=64) h1 hg, .inr ?_⟩
   dsimp only
   split<;>omega
def bst(all:Nat):Nat→(Int×Int)×(Int×Int)
 |0=>((8,8),(-1, -1))
 |i+1=>if Nat.land (Nat.shiftRight all i) 1=0 then bst all i else((mi (bst all i).1.1 (i % 8:Nat),mi (bst all i).1.2 (i / 8:Nat)),(mx (bst all i).2.1 (i % 8:Nat),mx (bst all i).2.2 (i / 8:Nat)))
theorem bst_bd(all:Nat):∀i,i≤64→((0≤(bst all i).1.1∧(bst all i).1.1≤8)∧(0≤(bst all i).1.2∧(bst all i).1.2≤8))∧((-1≤(bst all i).2.1∧(bst all i).2.1≤8)∧(-1≤(bst all i).2.2∧(bst all i).2.2≤8))
 |0,_=>by show((0≤(8:Int)∧(8:Int)≤8)∧(0≤(8:Int)∧(8:Int)≤8))∧((-1≤(-1:Int)∧(-1:Int)≤8)∧(-1≤(-1:Int)∧(-1:Int)≤8));omega
 |i+1,hi=>by
  have:=bst_bd all i (by omega)
  unfold bst
  split
  ·exact this
  ·dsimp only
   unfold mi mx
   refine⟨⟨?_,?_⟩,?_,?_⟩<;>split<;>omega
def boxN(pl:List Nat):Nat:=if(pst pl 8).2.1<0 then 0 else((pst pl 8).2.2-(pst pl 8).2.1+1).toNat
def boxD(pl:List Nat):Int×Int:=((bst (pst pl 8).1 64).2.1-(bst (pst pl 8).1 64).1.1+1,(bst (pst pl 8).1 64).2.2-(bst (pst pl 8).1 64).1.2+1)
def boxL(pl:List Nat):List Value:=lrow (boxN pl) [.int .i64 (boxD pl).1, .int .i64 (boxD pl).2]
theorem boxN_bd{pl:List Nat}(hp:∀x∈pl,x<18446744073709551616):boxN pl≤8:=by
 have:=(pst_bd hp 8).2
 unfold boxN
 split<;>omega
def BoxQ(pl:List Nat)(v:Value)(h:Heap):Prop:=∃a c,v= .slice a (boxN pl) c∧SliceOf h 2 (.slice a (boxN pl) c) (boxN pl) (boxL pl)
theorem BoxQ.log{pl:List Nat}(v:Value)(h':Heap)(m:List Nat)(q:BoxQ pl v h'):BoxQ pl v {h' with log:=m}:=by
 obtain⟨a,c,h1,h2⟩:=q
 exact⟨a,c,h1,h2.log m⟩
theorem BoxQ.gc{pl:List Nat}{h:Heap}(v:Value)(h1:Heap)(hv:noRef v=true)(q:BoxQ pl v h1):BoxQ pl v h:=by
 obtain⟨a,c,rfl,h2⟩:=q
 refine⟨a,c,rfl,?_⟩
 generalize boxN pl=n at*
 generalize boxL pl=cs at*
 cases h2 with
 |nil=>exact .nil
 |mem s _=>simp[noRef,flatL,flat,scalL,scal,scal1]at hv
set_option maxHeartbeats 8000000 in
theorem boxes72(F:FnsZ T){h:Heap}(hr:Rdy h){pl:List Nat}(hl:pl.length=8)(hp:∀x∈pl,x<18446744073709551616):Al T 72 [.agg (us pl).toArray] h (BoxQ pl):=by
 refine .of F.p F.f72 hr BoxQ.gc ?_
 have hu:(us pl).length=8:=by rw[us,List.length_map,hl]
 refine y4 ?_
 refine wO_val (a_box (vs:=us pl) (by exact rfl) (by show(us pl).toArray.toList=us pl;simp)) ?_
 have hx:Ext h (h.push (.cells (us pl) true 1)):=(Ext.refl h).push _
 refine yM ?_;refine y3 ?_;refine y4 ?_;refine yM ?_;refine y3 ?_
 refine y4 ?_;refine yM ?_;refine yM ?_;refine y3 ?_;refine wE_seq ?_;refine y4 ?_
 refine wO_val (a_loadN (l:=us pl) (by exact rfl) (by(simp(disch:=first|omega|(simp only[z1,z2];omega))only[z3,z4,z5,z6,z7,z1,z2, *];exact rfl)) (by rw[ltake_eq,ldrop_eq,List.drop_zero,List.take_of_length_le (by omega)]) (by rw[llen_eq,hu];rfl)) ?_
 refine yM ?_;refine y3 ?_;refine wE_block ?_
 refine wE_loop (fun m e ds h'=>∃(i A:Nat) (lo hh:Int),i≤8∧m=8-i∧pst pl i=(A,lo,hh)∧e=[(3, .int .u64 A),(4, .int .i64 lo),(5, .int .i64 hh),(13, .agg (us pl).toArray),(14, .int .i64 i)]∧ds=[]∧h'=h.push (.cells (us pl) true 1))
  ⟨0,0, -1, -1,Nat.zero_le _,rfl,rfl,rfl,rfl,rfl⟩ ?_
 rintro m e ds h' ⟨i,A,lo,hh,hi8,rfl,hst,rfl,rfl,rfl⟩
 have hbd:=pst_bd hp i
 rw[hst]at hbd
 dsimp only at hbd
 obtain⟨hA,hlh⟩:=hbd
 by_cases hlt:i<8
 ·have hg:pl.getD i 0<18446744073709551616:=by
   rw[List.getD_eq_getElem?_getD,List.getElem?_eq_getElem (by omega)];exact hp _ (List.getElem_mem _)
  have hnext:pst pl (i+1)=if pl.getD i 0=0 then(A,lo,hh)else(Nat.lor A (pl.getD i 0),if lo<0 then(i:Int)else lo,(i:Int)):=by
   rw[pst,hst]
  refine y4 ?_;refine yt ?_;refine y3 ?_;refine wE_seq ?_;refine yY ?_;refine wE_skip ?_;refine kS_n ?_;refine wE_seq ?_;refine wE_block ?_;refine y4 ?_;refine yM ?_
  refine wO_val (a_idxA (i:=i) (by exact rfl) (by exact rfl) hlt (by rw[List.toList_toArray];exact us_get (by omega))) ?_
  generalize pl.getD i 0=p at*
  by_cases hp0:p=0
  ·rw[if_pos hp0]at hnext
   refine yM ?_;refine yM ?_;refine y3 ?_;refine wE_seq ?_;refine y4 ?_;refine yM ?_;refine yt ?_
   refine y3 ?_;refine yY ?_;refine wE_exit ?_;refine kS_e ?_;refine kB_e ?_;refine kS_n ?_;refine wE_region ?_;refine yinc ?_;refine yM ?_;refine y3 ?_
   exact⟨8-(i+1),by omega,i+1,_,_,_,by omega,rfl,hnext,rfl,rfl,rfl⟩
  ·rw[if_neg hp0]at hnext
   have eo:=m_or hA hg
   by_cases hlo:lo<0
   ·rw[if_pos hlo]at hnext
    refine yM ?_;refine yM ?_;refine y3 ?_;refine wE_seq ?_;refine y4 ?_;refine yM ?_;refine yf ?_
    refine y3 ?_;refine yX ?_;refine wE_skip ?_;refine kS_n ?_;refine y4 ?_;refine yM ?_;refine yM ?_
    refine wO_val (a_num (by exact rfl) (by exact rfl) (by with_reducible assumption)) ?_;refine yM ?_;refine y3 ?_;refine y4 ?_;refine yM ?_;refine yM ?_;refine y3 ?_;refine y4 ?_;refine yM ?_;refine yt ?_;refine y3 ?_;refine yY ?_;refine wE_region ?_;refine yM ?_;refine yM ?_;refine wO_nil ?_;refine y1 ?_;refine kB_n ?_;refine kS_n ?_;refine wE_region ?_
    refine yinc ?_;refine yM ?_;refine y3 ?_
    exact⟨8-(i+1),by omega,i+1,_,_,_,by omega,rfl,hnext,rfl,rfl,rfl⟩
   ·rw[if_neg hlo]at hnext
    refine yM ?_;refine yM ?_;refine y3 ?_;refine wE_seq ?_;refine y4 ?_;refine yM ?_;refine yf ?_
    refine y3 ?_;refine yX ?_;refine wE_skip ?_;refine kS_n ?_;refine y4 ?_;refine yM ?_;refine yM ?_
    refine wO_val (a_num (by exact rfl) (by exact rfl) (by with_reducible assumption)) ?_;refine yM ?_;refine y3 ?_;refine y4 ?_;refine yM ?_;refine yM ?_;refine y3 ?_;refine y4 ?_;refine yM ?_;refine yf ?_;refine y3 ?_;refine yX ?_;refine wE_skip ?_;refine kB_n ?_;refine kS_n ?_;refine wE_region ?_;refine yinc ?_;refine yM ?_;refine y3 ?_
    exact⟨8-(i+1),by omega,i+1,_,_,_,by omega,rfl,hnext,rfl,rfl,rfl⟩
 ·obtain rfl:i=8:=by omega
  have hN:boxN pl=if lo<0 then 0 else(hh-lo+1).toNat:=by rw[boxN,hst]
  have hD:boxD pl=((bst A 64).2.1-(bst A 64).1.1+1,(bst A 64).2.2-(bst A 64).1.2+1):=by rw[boxD,hst]
  by_cases hlo:lo<0
  ·rw[if_pos hlo]at hN
   refine y4 ?_;refine yf ?_;refine y3 ?_;refine wE_seq ?_;refine yX ?_;refine wE_exit ?_;refine kS_e ?_;refine kS_e ?_;refine kB_e ?_;refine kS_n ?_
   refine wE_seq ?_;refine y4 ?_;refine yM ?_;refine yt ?_;refine y3 ?_;refine yY ?_;refine y4 ?_
   refine yM ?_;refine y3 ?_;refine wE_ret ?_;refine kS_r ?_
   refine endA_ret (vs:=[.slice none 0 0]) hr.log rfl ⟨none,0,?_,?_⟩
   ·rw[hN];rfl
   ·rw[boxL,hN];exact .nil
  ·rw[if_neg hlo]at hN
   clear hst hu
   refine y4 ?_;refine yf ?_;refine y3 ?_;refine wE_seq ?_;refine yX ?_;refine wE_exit ?_;refine kS_e ?_;refine kS_e ?_;refine kB_e ?_;refine kS_n ?_
   refine wE_seq ?_;refine y4 ?_;refine yM ?_;refine yf ?_;refine y3 ?_;refine yX ?_;refine wE_skip ?_;refine kS_n ?_
   refine y4 ?_;refine wO_val (a_build (by exact rfl)) ?_;refine wO_val (a_build (by exact rfl)) ?_;refine wO_val a_new ?_;refine wO_val a_new ?_
   refine yS ?_
   refine yS ?_;refine y3 ?_;refine wE_seq ?_;refine y4 ?_;refine yM ?_;refine y3 ?_;refine wE_block ?_
   refine wE_loop (fun m e ds h'=>∃(i:Nat) (f0 f1 t0 t1:Int),i≤64∧m=64-i∧bst A i=((f0,f1),(t0,t1))∧e=[(3, .int .u64 A),(4, .int .i64 lo),(5, .int .i64 hh),(8, .pointer (some ⟨h.next+1,0,none⟩)),(9, .pointer (some ⟨h.next+2,0,none⟩)),(32, .int .i64 i)]∧ds=[]∧Ext h h'∧h.next+2<h'.next∧
    h'.get (h.next+1)=some (.cells [.int .i64 f0, .int .i64 f1] true 1)∧h'.get (h.next+2)=some (.cells [.int .i64 t0, .int .i64 t1] true 1))
    ⟨0,8,8, -1, -1,Nat.zero_le _,rfl,rfl,rfl,rfl,(((hx.push _).push _).wr (by(simp only[z1,z2];omega)) (by(simp only[z1,z2];omega))).wr (by(simp only[z1,z2];omega)) (by(simp only[z1,z2];omega)),by(simp only[z1,z2];omega),by(simp(disch:=first|omega|(simp only[z1,z2];omega)|(simp only[z1,z2];done)|fail)only[z8,z4,z5,z9,z7,z1,z2, *];exact rfl),by(simp(disch:=first|omega|(simp only[z1,z2];omega)|(simp only[z1,z2];done)|fail)only[z8,z4,z5,z9,z7,z1,z2, *];exact rfl)⟩ ?_
   rintro m e ds h' ⟨i,f0,f1,t0,t1,hi64,rfl,hb,rfl,rfl,hx',hnx,g8,g9⟩
   have hbd:=bst_bd A i hi64
   rw[hb]at hbd
   dsimp only at hbd
   by_cases hlt:i<64
   ·have hnext:bst A (i+1)=if Nat.land (Nat.shiftRight A i) 1=0 then((f0,f1),(t0,t1))else((mi f0 (i % 8:Nat),mi f1 (i / 8:Nat)),(mx t0 (i % 8:Nat),mx t1 (i / 8:Nat))):=by
     rw[bst,hb]
    have e1:numOp .shr (.int .u64 A) (.int .i64 i)=some (.int .u64 ((Nat.shiftRight A i:Nat):Int)):=m_shr (by omega)
    have hsl:Nat.shiftRight A i<18446744073709551616:=Nat.lt_of_le_of_lt (Nat.shiftRight_le A i) hA
    have e2:numOp .and (.int .u64 ((Nat.shiftRight A i:Nat):Int)) (.int .u64 1)=some (.int .u64 ((Nat.land (Nat.shiftRight A i) 1:Nat):Int)):=m_and (b:=1) hsl (by omega)
    have e3:numOp .rem (.int .i64 i) (.int .i64 8)=some (.int .i64 ((i % 8:Nat):Int)):=m_rem8
    have e4:numOp .quo (.int .i64 i) (.int .i64 8)=some (.int .i64 ((i / 8:Nat):Int)):=m_quo8 (by omega)
    generalize Nat.shiftRight A i=sh at*
    generalize Nat.land sh 1=bt at*
    by_cases hbt:bt=0
    ·rw[if_pos hbt]at hnext
     refine y4 ?_;refine yt ?_;refine y3 ?_;refine wE_seq ?_;refine yY ?_;refine wE_skip ?_;refine kS_n ?_;refine wE_seq ?_;refine wE_block ?_;refine y4 ?_;refine yM ?_;refine yM ?_;refine y3 ?_;refine wE_seq ?_;refine y4 ?_;refine yM ?_;refine yM ?_
     refine wO_val (a_num (by exact rfl) (by exact rfl) (by with_reducible assumption)) ?_;refine wO_val (a_num (by exact rfl) (by exact rfl) (by with_reducible assumption)) ?_;refine yt ?_;refine y3 ?_
     refine yY ?_;refine wE_exit ?_;refine kS_e ?_;refine kB_e ?_;refine kS_n ?_;refine wE_region ?_;refine yinc ?_;refine yM ?_;refine y3 ?_
     exact⟨64-(i+1),by omega,i+1,_,_,_,_,by omega,rfl,hnext,rfl,rfl,hx',hnx,g8,g9⟩
    ·rw[if_neg hbt]at hnext
     generalize i % 8=c0 at*
     generalize i / 8=c1 at*
     refine y4 ?_;refine yt ?_;refine y3 ?_;refine wE_seq ?_;refine yY ?_;refine wE_skip ?_;refine kS_n ?_;refine wE_seq ?_;refine wE_block ?_;refine y4 ?_;refine yM ?_;refine yM ?_;refine y3 ?_;refine wE_seq ?_;refine y4 ?_;refine yM ?_;refine yM ?_
     refine wO_val (a_num (by exact rfl) (by exact rfl) (by with_reducible assumption)) ?_;refine wO_val (a_num (by exact rfl) (by exact rfl) (by with_reducible assumption)) ?_;refine yf ?_;refine y3 ?_
     refine yX ?_;refine wE_skip ?_;refine kS_n ?_;refine y4 ?_;refine yM ?_;refine wO_val (a_num (by exact rfl) (by exact rfl) (by with_reducible assumption)) ?_;refine yM ?_;refine wO_val (a_num (by exact rfl) (by exact rfl) (by with_reducible assumption)) ?_
     refine wO_val (a_build (by exact rfl)) ?_;refine yM ?_;refine y3 ?_;refine wE_block ?_
     refine wE_round ?_
     refine y4 ?_;refine yt ?_;refine y3 ?_;refine wE_seq ?_;refine yY ?_;refine wE_skip ?_;refine kS_n ?_;refine wE_seq ?_;refine wE_block ?_;refine y4 ?_;refine yM ?_;refine wO_val (a_idxA (i:=0) (by exact rfl) (by exact rfl) (by omega) (by exact rfl)) ?_;refine yM ?_;refine yM ?_;refine y3 ?_;refine wE_draw ?_
     refine qM ?_;refine qM ?_;refine qM ?_
     refine wD_quiet rfl rfl rfl (by exact rfl) (by exact rfl) (by exact rfl) (a_iaddrA (i:=0) (by exact rfl) (by exact rfl) (by omega)) ?_;refine qL ?_;refine qM ?_
     refine wD_quiet rfl rfl rfl (by exact rfl) (by exact rfl) (by exact rfl) (a_minI (by exact rfl) (by exact rfl)) ?_;refine qM ?_;refine wD_quiet rfl rfl rfl (by exact rfl) (by exact rfl) (by exact rfl) (a_iaddrA (i:=0) (by exact rfl) (by exact rfl) (by omega)) ?_
     refine qL ?_;refine qM ?_;refine wD_quiet rfl rfl rfl (by exact rfl) (by exact rfl) (by exact rfl) (a_max (by exact rfl) (by exact rfl)) ?_
     refine wD_quiet rfl rfl rfl (by exact rfl) (by exact rfl) (by exact rfl) (a_iaddrA (i:=0) (by exact rfl) (by exact rfl) (by omega)) ?_
     refine wD_store rfl rfl rfl (by exact rfl) (by exact rfl) (by exact rfl) (by assumption) (by exact rfl) (by exact rfl) (by omega) (by omega) (by apply ra_dropC rfl;apply ra_keepC rfl (rq_quiet rfl (a_max (by exact rfl) (by exact rfl)) (by exact sv_int _ _)) rfl;apply ra_keepC rfl (rq_quiet rfl (a_mov (by exact rfl)) (by exact sv_int _ _)) rfl;apply ra_keepC rfl (rq_quiet rfl (a_load (by exact rfl) (by(simp(disch:=first|omega|(simp only[z1,z2];omega))only[z3,z4,z5,z6,z7,z1,z2, *];exact rfl)) (by exact rfl)) (by exact sv_int _ _)) rfl;apply ra_keepC rfl (rq_quiet rfl (a_iaddrA (i:=0) (by exact rfl) (by exact rfl) (by omega)) (by exact sv_ptr _)) rfl;apply ra_keepC rfl (rq_quiet rfl (a_mov (by exact rfl)) (by exact sv_int _ _)) rfl;apply ra_dropC rfl;apply ra_dropC rfl;apply ra_dropC rfl;apply ra_dropC rfl;apply ra_dropC rfl;apply ra_keepC rfl (rq_quiet rfl (a_mov (by exact rfl)) (by exact sv_int _ _)) rfl;apply ra_dropC rfl;exact ra_nil) ?_
     refine wD_quiet rfl rfl rfl (by exact rfl) (by exact rfl) (by exact rfl) (a_iaddrA (i:=0) (by exact rfl) (by exact rfl) (by omega)) ?_
     refine wD_store rfl rfl rfl (by exact rfl) (by exact rfl) (by exact rfl) (by(simp(disch:=first|omega|(simp only[z1,z2];omega))only[z3,z4,z5,z6,z7,z1,z2, *];exact rfl)) (by exact rfl) (by exact rfl) (by(simp only[z1,z2];omega)) (by omega) (by apply ra_dropC rfl;apply ra_dropC rfl;apply ra_dropC rfl;apply ra_dropC rfl;apply ra_dropC rfl;apply ra_dropC rfl;apply ra_dropC rfl;exact ra_nil) ?_
     refine wD_nil ?_;refine y1 ?_;refine kB_n ?_;refine kS_n ?_;refine wE_region ?_;refine yadd ?_;refine yM ?_;refine y3 ?_
     refine wE_round ?_
     refine y4 ?_;refine yt ?_;refine y3 ?_;refine wE_seq ?_;refine yY ?_;refine wE_skip ?_;refine kS_n ?_;refine wE_seq ?_;refine wE_block ?_;refine y4 ?_;refine yM ?_;refine wO_val (a_idxA (i:=1) (by exact rfl) (by exact rfl) (by omega) (by exact rfl)) ?_;refine yM ?_;refine yM ?_;refine y3 ?_;refine wE_draw ?_
     refine qM ?_;refine qM ?_;refine qM ?_
     refine wD_quiet rfl rfl rfl (by exact rfl) (by exact rfl) (by exact rfl) (a_iaddrA (i:=1) (by exact rfl) (by exact rfl) (by omega)) ?_
     refine qL ?_
     refine qM ?_;refine wD_quiet rfl rfl rfl (by exact rfl) (by exact rfl) (by exact rfl) (a_minI (by exact rfl) (by exact rfl)) ?_;refine qM ?_
     refine wD_quiet rfl rfl rfl (by exact rfl) (by exact rfl) (by exact rfl) (a_iaddrA (i:=1) (by exact rfl) (by exact rfl) (by omega)) ?_
     refine qL ?_
     refine qM ?_;refine wD_quiet rfl rfl rfl (by exact rfl) (by exact rfl) (by exact rfl) (a_max (by exact rfl) (by exact rfl)) ?_;refine wD_quiet rfl rfl rfl (by exact rfl) (by exact rfl) (by exact rfl) (a_iaddrA (i:=1) (by exact rfl) (by exact rfl) (by omega)) ?_
     refine wD_store rfl rfl rfl (by exact rfl) (by exact rfl) (by exact rfl) (by(simp(disch:=first|omega|(simp only[z1,z2];omega))only[z3,z4,z5,z6,z7,z1,z2, *];exact rfl)) (by exact rfl) (by exact rfl) (by(simp only[z1,z2];omega)) (by omega) (by apply ra_dropC rfl;apply ra_keepC rfl (rq_quiet rfl (a_max (by exact rfl) (by exact rfl)) (by exact sv_int _ _)) rfl;apply ra_keepC rfl (rq_quiet rfl (a_mov (by exact rfl)) (by exact sv_int _ _)) rfl;apply ra_keepC rfl (rq_quiet rfl (a_load (by exact rfl) (by(simp(disch:=first|omega|(simp only[z1,z2];omega))only[z3,z4,z5,z6,z7,z1,z2, *];exact rfl)) (by exact rfl)) (by exact sv_int _ _)) rfl;apply ra_keepC rfl (rq_quiet rfl (a_iaddrA (i:=1) (by exact rfl) (by exact rfl) (by omega)) (by exact sv_ptr _)) rfl;apply ra_keepC rfl (rq_quiet rfl (a_mov (by exact rfl)) (by exact sv_int _ _)) rfl;apply ra_dropC rfl;apply ra_dropC rfl;apply ra_dropC rfl;apply ra_dropC rfl;apply ra_dropC rfl;apply ra_keepC rfl (rq_quiet rfl (a_mov (by exact rfl)) (by exact sv_int _ _)) rfl;apply ra_dropC rfl;exact ra_nil) ?_
     refine wD_quiet rfl rfl rfl (by exact rfl) (by exact rfl) (by exact rfl) (a_iaddrA (i:=1) (by exact rfl) (by exact rfl) (by omega)) ?_
     refine wD_store rfl rfl rfl (by exact rfl) (by exact rfl) (by exact rfl) (by(simp(disch:=first|omega|(simp only[z1,z2];omega))only[z3,z4,z5,z6,z7,z1,z2, *];exact rfl)) (by exact rfl) (by exact rfl) (by(simp only[z1,z2];omega)) (by omega) (by apply ra_dropC rfl;apply ra_dropC rfl;apply ra_dropC rfl;apply ra_dropC rfl;apply ra_dropC rfl;apply ra_dropC rfl;apply ra_dropC rfl;exact ra_nil) ?_
     refine wD_nil ?_;refine y1 ?_;refine kB_n ?_;refine kS_n ?_;refine wE_region ?_;refine yadd ?_;refine yM ?_;refine y3 ?_
     refine wE_round ?_
     refine y4 ?_;refine yf ?_;refine y3 ?_;refine wE_seq ?_;refine yX ?_;refine wE_exit ?_;refine kS_e ?_;refine kS_e ?_;refine kB_e ?_;refine kB_n ?_
     refine kS_n ?_;refine wE_region ?_;refine yinc ?_;refine yM ?_;refine y3 ?_
     refine⟨64-(i+1),by omega,i+1,_,_,_,_,by omega,rfl,hnext,rfl,rfl,(((hx'.wr (by omega) (by omega)).wr (by omega) (by omega)).wr (by omega) (by omega)).wr (by omega) (by omega),hnx,?_,?_⟩
     ·(simp(disch:=first|omega|(simp only[z1,z2];omega))only[z3,z4,z5,z6,z7,z1,z2, *];exact rfl)
     ·(simp(disch:=first|omega|(simp only[z1,z2];omega))only[z3,z4,z5,z6,z7,z1,z2, *];exact rfl)
   ·obtain rfl:i=64:=by omega
    rw[hb]at hD
    dsimp only at hD
    clear hb
    refine y4 ?_;refine yf ?_;refine y3 ?_;refine wE_seq ?_;refine yX ?_;refine wE_exit ?_;refine kS_e ?_;refine kS_e ?_;refine kB_e ?_;refine kS_n ?_
    refine y4 ?_;refine wO_val (a_iaddrA (i:=0) (by exact rfl) (by exact rfl) (by omega)) ?_;refine yL ?_;refine wO_val (a_iaddrA (i:=0) (by exact rfl) (by exact rfl) (by omega)) ?_;refine yL ?_
    refine ysub ?_;refine yadd ?_;refine wO_val (a_iaddrA (i:=1) (by exact rfl) (by exact rfl) (by omega)) ?_;refine yL ?_
    refine wO_val (a_iaddrA (i:=1) (by exact rfl) (by exact rfl) (by omega)) ?_;refine yL ?_;refine ysub ?_;refine yadd ?_
    refine wO_val (a_build (by exact rfl)) ?_;refine wO_val (a_bslice (by exact rfl) (by exact rfl)) ?_;refine yM ?_;refine yM ?_;refine ysub ?_;refine yadd ?_
    have hn:hh-lo+1=((boxN pl:Nat):Int):=by omega
    rw[hn]
    refine yC ?_
    have hx2:=hx'.push (.cells [.int .i64 (t0-f0+1), .int .i64 (t1-f1+1)] true 2)
    refine FW.al (repeat121 F.toFnsK (.of (hx2.wf hr.wf)) (z3 _ _) (n:=boxN pl) (by omega)) (fun _ _ _ q=>q) ?_
    rintro _ h3 hx3 ⟨b,rfl,hlb,gb⟩
    refine yM ?_;refine y3 ?_;refine wE_ret ?_
    refine endA_ret (vs:=[.slice (some ⟨b,0,none⟩) (boxN pl) (boxN pl)]) ((hx2.trans hx3).log.trans hr.log) rfl ⟨_,_,rfl, .mem ⟨hlb,⟨_,_,_,gb,?_⟩,?_⟩ (Nat.le_refl _)⟩
    ·rw[boxL,hD,ltake_eq,ldrop_eq,List.drop_zero,List.take_of_length_le (by rw[lrow_len];simp)]
    ·rw[boxL,lrow_len];rfl
end Go.A.Pk
end
section
set_option maxRecDepth 100000
namespace Go.A.Pk
open Go Go.Proofs Go.Joins Go.ChangeShapes Go.WideShapes Go.RowKit Go.Deep
section
variable {H:Type} {enc:TypeId×Value→H} {W:World} {base:Nat} {spare:Nat→Bool} {held:Bool}
theorem okWide_arr8{P:Program}{t e:TypeId}{n:Nat}{r:Reach}{v:Value}(ht:P.underlying t=some (.array n e))(h:Value.okWide P W r base t v):∃cs,v= .agg cs∧cs.size=P.cellsOf t:=by
 simp only[Value.okWide,ht]at h
 obtain⟨cs,h1,h2,_⟩:=h
 exact⟨cs,h1,h2⟩
theorem open_solid{v:Value}{d:DataW H}{p:List MemPlace}(hv:Value.okWide Tryz.prog W .any base 79 v)(h:DataW.Trod enc Tryz.prog W 0 spare held 79 v d p):∃pl:List Nat,pl.length=8∧(∀x∈pl,x<18446744073709551616)∧v= .agg (us pl).toArray:=by
 obtain⟨e,ht,he,hu⟩:∃e,Tryz.prog.underlying 79=some (.array 8 e)∧Tryz.prog.cellsOf e=1∧Tryz.prog.underlying e=some (.int .u64):=⟨_,Tryz.underlying79,by kernel_rfl,by kernel_rfl⟩
 obtain⟨cs,rfl,hcs⟩:=okWide_arr8 ht hv
 have h8:Tryz.prog.cellsOf 79=8:=by kernel_rfl
 rw[h8]at hcs
 obtain⟨fuel,hf⟩:=h
 obtain⟨xs,m,_,_,_,hxl,hg⟩:=DataW.trod_array ht hf
 have hl:cs.toList.length=8:=by simpa using hcs
 have key:∀i,i<8→∃n:Nat,n<18446744073709551616∧cs.toList[i]? =some (.int .u64 (n:Int)):=fun i hi=>by
  have hg:=hg i hi
  rw[he]at hg
  have hx:xs[i]? =some xs[i]:=List.getElem?_eq_getElem (by omega)
  rw[hx]at hg
  obtain⟨z,hz,_,hw⟩:=DataW.trod_int hu hg
  have hb:0≤z∧z≤18446744073709551615:=by
   simpa[Lit.wf,IntKind.min,IntKind.max,IntKind.signed,IntKind.bits]using hw
  obtain⟨n,rfl⟩:=Int.eq_ofNat_of_zero_le hb.1
  refine⟨n,by omega,?_⟩
  have hz2:(cs.toList.drop (i*1)).take 1=[Value.int .u64 (n:Int)]:=hz
  have hz':((cs.toList.drop (i*1)).take 1)[0]? =some (.int .u64 (n:Int)):=by rw[hz2];rfl
  rw[List.getElem?_take_of_lt (by omega),List.getElem?_drop]at hz'
  simpa using hz'
 let f:Value→Nat:=fun v=>match v with| .int _ n=>n.toNat|_=>0
 refine⟨cs.toList.map f,by simpa using hcs,fun x hx=> ?_,?_⟩
 ·obtain⟨y,hy,rfl⟩:=List.mem_map.1 hx
  obtain⟨i,hi,rfl⟩:=List.mem_iff_getElem.1 hy
  obtain⟨n,hn,hk⟩:=key i (by omega)
  rw[List.getElem?_eq_getElem hi,Option.some.injEq]at hk
  rw[hk];exact hn
 ·congr 1
  have:us (cs.toList.map f)=cs.toList:=by
   apply List.ext_getElem?
   intro i
   rw[us,List.getElem?_map,List.getElem?_map]
   by_cases hi:i<8
   ·obtain⟨n,_,hk⟩:=key i hi
    rw[hk];rfl
   ·rw[List.getElem?_eq_none (by omega)];rfl
  rw[this]
end
end Go.A.Pk
end
section
set_option maxRecDepth 100000
namespace Go.A.Pk
variable {T:Nat→Option AFunc}
structure FnsTi (T:Nat→Option AFunc):Prop extends FnsE T,FnsZ T where
 f69:T 69=some f69
 f120:T 120=some f120
def Large(k:Kd)(a b:Int):Prop:=(a≤k.w∧b≤k.h)∨(k.turn=true∧a≤k.h∧b≤k.w)
instance(k:Kd)(a b:Int):Decidable (Large k a b):=by unfold Large;infer_instance
set_option maxHeartbeats 4000000 in
theorem large120(F:FnsTi T){h:Heap}(hr:Rdy h)(k:Kd)(a b:Int):Pu T 120 [ka k, .agg #[.int .i64 a, .int .i64 b]] h (.bool (decide (Large k a b))):=by
 obtain⟨id,kw,kh,kwo,tu⟩:=k
 show Pu T 120 [.agg #[.int .i64 id, .int .i64 kw, .int .i64 kh, .int .i64 kwo, .bool tu], .agg #[.int .i64 a, .int .i64 b]] h _
 refine .of F.toFnsA.p F.f120 hr rfl ?_
 have dT:((a≤kw∧b≤kh)∨(tu=true∧a≤kh∧b≤kw))→decide (Large ⟨id,kw,kh,kwo,tu⟩ a b)=true:=fun q=>decide_eq_true q
 have dF:¬ ((a≤kw∧b≤kh)∨(tu=true∧a≤kh∧b≤kw))→decide (Large ⟨id,kw,kh,kwo,tu⟩ a b)=false:=fun q=>decide_eq_false q
 by_cases c1:a≤kw
 ·by_cases c2:b≤kh
  ·rw[dT (.inl ⟨c1,c2⟩)]
   refine y4 ?_;refine yB ?_;refine yB ?_;refine yM ?_;refine y3 ?_;refine y4 ?_
   refine yF ?_;refine yL ?_
   refine wO_val (a_iaddrA (i:=0) (by exact rfl) (by exact rfl) (by omega)) ?_
   refine yL ?_
   refine yt ?_;refine yM ?_;refine yO ?_;refine yF ?_;refine yO ?_
   refine yL ?_;refine yO ?_;refine wO_val (a_iaddrA (i:=1) (by exact rfl) (by exact rfl) (by omega)) ?_
   refine yO ?_;refine yL ?_
   refine yO ?_;refine yt ?_;refine yT ?_;refine yM ?_;refine yP ?_;refine yP ?_;refine yP ?_;refine wO_off2 (by exact rfl) ?_
   refine wO_off2 (by exact rfl) ?_;refine wO_off2 (by exact rfl) ?_;refine wO_off2 (by exact rfl) ?_;refine wO_off2 (by exact rfl) ?_;refine yP ?_;refine yP ?_;refine wO_off2 (by exact rfl) ?_;refine wO_off2 (by exact rfl) ?_;refine wO_off2 (by exact rfl) ?_;refine wO_off2 (by exact rfl) ?_;refine wO_off2 (by exact rfl) ?_
   refine yP ?_;refine yT ?_;refine yM ?_;refine y3 ?_;refine wE_ret ?_
   exact endP_ret (by exact hr.log) rfl rfl
  ·cases tu with
   |false=>
    rw[dF (by simp;omega)]
    refine y4 ?_;refine yB ?_;refine yB ?_;refine yM ?_;refine y3 ?_;refine y4 ?_
    refine yF ?_;refine yL ?_
    refine wO_val (a_iaddrA (i:=0) (by exact rfl) (by exact rfl) (by omega)) ?_
    refine yL ?_
    refine yt ?_;refine yM ?_;refine yO ?_;refine yF ?_;refine yO ?_
    refine yL ?_;refine yO ?_;refine wO_val (a_iaddrA (i:=1) (by exact rfl) (by exact rfl) (by omega)) ?_
    refine yO ?_;refine yL ?_
    refine yO ?_;refine yf ?_;refine yT ?_;refine yM ?_;refine yO ?_;refine yF ?_;refine yO ?_
    refine yL ?_;refine yO ?_;refine yM ?_
    refine yP ?_;refine yP ?_;refine yP ?_;refine yP ?_;refine yP ?_;refine yO ?_;refine yU ?_;refine yO ?_;refine yM ?_
    refine yP ?_;refine yP ?_;refine yP ?_;refine yP ?_;refine yP ?_;refine yO ?_;refine yU ?_;refine yU ?_
    refine yM ?_;refine y3 ?_;refine wE_ret ?_
    exact endP_ret (by exact hr.log) rfl rfl
   |true=>
    by_cases c3:a≤kh
    ·by_cases c4:b≤kw
     ·rw[dT (.inr ⟨rfl,c3,c4⟩)]
      refine y4 ?_;refine yB ?_;refine yB ?_;refine yM ?_;refine y3 ?_;refine y4 ?_
      refine yF ?_;refine yL ?_
      refine wO_val (a_iaddrA (i:=0) (by exact rfl) (by exact rfl) (by omega)) ?_
      refine yL ?_
      refine yt ?_;refine yM ?_;refine yO ?_;refine yF ?_;refine yO ?_
      refine yL ?_;refine yO ?_;refine wO_val (a_iaddrA (i:=1) (by exact rfl) (by exact rfl) (by omega)) ?_
      refine yO ?_;refine yL ?_
      refine yO ?_;refine yf ?_;refine yT ?_;refine yM ?_;refine yO ?_;refine yF ?_;refine yO ?_
      refine yL ?_;refine yO ?_;refine yM ?_;refine yO ?_
      refine yF ?_;refine yO ?_;refine yL ?_;refine yO ?_
      refine wO_val (a_iaddrA (i:=0) (by exact rfl) (by exact rfl) (by omega)) ?_;refine yO ?_
      refine yL ?_;refine yO ?_
      refine yt ?_;refine yO ?_;refine yT ?_;refine yO ?_;refine yM ?_;refine yO ?_;refine yF ?_;refine yO ?_
      refine yL ?_;refine yO ?_;refine wO_val (a_iaddrA (i:=1) (by exact rfl) (by exact rfl) (by omega)) ?_
      refine yO ?_;refine yL ?_
      refine yO ?_;refine yt ?_;refine yO ?_;refine yT ?_;refine yU ?_;refine yM ?_;refine y3 ?_;refine wE_ret ?_
      exact endP_ret (by exact hr.log) rfl rfl
     ·rw[dF (by simp;omega)]
      refine y4 ?_;refine yB ?_;refine yB ?_;refine yM ?_;refine y3 ?_;refine y4 ?_
      refine yF ?_;refine yL ?_
      refine wO_val (a_iaddrA (i:=0) (by exact rfl) (by exact rfl) (by omega)) ?_
      refine yL ?_
      refine yt ?_;refine yM ?_;refine yO ?_;refine yF ?_;refine yO ?_
      refine yL ?_;refine yO ?_;refine wO_val (a_iaddrA (i:=1) (by exact rfl) (by exact rfl) (by omega)) ?_
      refine yO ?_;refine yL ?_
      refine yO ?_;refine yf ?_;refine yT ?_;refine yM ?_;refine yO ?_;refine yF ?_;refine yO ?_
      refine yL ?_;refine yO ?_;refine yM ?_;refine yO ?_
      refine yF ?_;refine yO ?_;refine yL ?_;refine yO ?_
      refine wO_val (a_iaddrA (i:=0) (by exact rfl) (by exact rfl) (by omega)) ?_;refine yO ?_
      refine yL ?_;refine yO ?_
      refine yt ?_;refine yO ?_;refine yT ?_;refine yO ?_;refine yM ?_;refine yO ?_;refine yF ?_;refine yO ?_
      refine yL ?_;refine yO ?_;refine wO_val (a_iaddrA (i:=1) (by exact rfl) (by exact rfl) (by omega)) ?_
      refine yO ?_;refine yL ?_
      refine yO ?_;refine yf ?_;refine yO ?_;refine yT ?_;refine yU ?_;refine yM ?_;refine y3 ?_;refine wE_ret ?_
      exact endP_ret (by exact hr.log) rfl rfl
    ·rw[dF (by simp;omega)]
     refine y4 ?_;refine yB ?_;refine yB ?_;refine yM ?_;refine y3 ?_;refine y4 ?_
     refine yF ?_;refine yL ?_
     refine wO_val (a_iaddrA (i:=0) (by exact rfl) (by exact rfl) (by omega)) ?_
     refine yL ?_
     refine yt ?_;refine yM ?_;refine yO ?_;refine yF ?_;refine yO ?_
     refine yL ?_;refine yO ?_;refine wO_val (a_iaddrA (i:=1) (by exact rfl) (by exact rfl) (by omega)) ?_
     refine yO ?_;refine yL ?_
     refine yO ?_;refine yf ?_;refine yT ?_;refine yM ?_;refine yO ?_;refine yF ?_;refine yO ?_
     refine yL ?_;refine yO ?_;refine yM ?_;refine yO ?_
     refine yF ?_;refine yO ?_;refine yL ?_;refine yO ?_
     refine wO_val (a_iaddrA (i:=0) (by exact rfl) (by exact rfl) (by omega)) ?_;refine yO ?_
     refine yL ?_;refine yO ?_
     refine yf ?_;refine yO ?_;refine yT ?_;refine yO ?_;refine yM ?_;refine yP ?_;refine yP ?_;refine yP ?_
     refine yP ?_;refine yP ?_;refine yO ?_;refine yU ?_;refine yU ?_;refine yM ?_;refine y3 ?_;refine wE_ret ?_
     exact endP_ret (by exact hr.log) rfl rfl
 ·cases tu with
  |false=>
   rw[dF (by simp;omega)]
   refine y4 ?_;refine yB ?_;refine yB ?_;refine yM ?_;refine y3 ?_;refine y4 ?_
   refine yF ?_;refine yL ?_
   refine wO_val (a_iaddrA (i:=0) (by exact rfl) (by exact rfl) (by omega)) ?_
   refine yL ?_
   refine yf ?_;refine yM ?_;refine yP ?_;refine yP ?_;refine yP ?_;refine yP ?_;refine yP ?_
   refine yU ?_;refine yM ?_;refine yO ?_;refine yF ?_;refine yO ?_
   refine yL ?_;refine yO ?_;refine yM ?_
   refine yP ?_;refine yP ?_;refine yP ?_;refine yP ?_;refine yP ?_;refine yO ?_;refine yU ?_;refine yO ?_;refine yM ?_
   refine yP ?_;refine yP ?_;refine yP ?_;refine yP ?_;refine yP ?_;refine yO ?_;refine yU ?_;refine yU ?_
   refine yM ?_;refine y3 ?_;refine wE_ret ?_
   exact endP_ret (by exact hr.log) rfl rfl
  |true=>
   by_cases c3:a≤kh
   ·by_cases c4:b≤kw
    ·rw[dT (.inr ⟨rfl,c3,c4⟩)]
     refine y4 ?_;refine yB ?_;refine yB ?_;refine yM ?_;refine y3 ?_;refine y4 ?_
     refine yF ?_;refine yL ?_
     refine wO_val (a_iaddrA (i:=0) (by exact rfl) (by exact rfl) (by omega)) ?_
     refine yL ?_
     refine yf ?_;refine yM ?_;refine yP ?_;refine yP ?_;refine yP ?_;refine yP ?_;refine yP ?_
     refine yU ?_;refine yM ?_;refine yO ?_;refine yF ?_;refine yO ?_
     refine yL ?_;refine yO ?_;refine yM ?_;refine yO ?_
     refine yF ?_;refine yO ?_;refine yL ?_;refine yO ?_
     refine wO_val (a_iaddrA (i:=0) (by exact rfl) (by exact rfl) (by omega)) ?_;refine yO ?_
     refine yL ?_;refine yO ?_
     refine yt ?_;refine yO ?_;refine yT ?_;refine yO ?_;refine yM ?_;refine yO ?_;refine yF ?_;refine yO ?_
     refine yL ?_;refine yO ?_;refine wO_val (a_iaddrA (i:=1) (by exact rfl) (by exact rfl) (by omega)) ?_
     refine yO ?_;refine yL ?_
     refine yO ?_;refine yt ?_;refine yO ?_;refine yT ?_;refine yU ?_;refine yM ?_;refine y3 ?_;refine wE_ret ?_
     exact endP_ret (by exact hr.log) rfl rfl
    ·rw[dF (by simp;omega)]
     refine y4 ?_;refine yB ?_;refine yB ?_;refine yM ?_;refine y3 ?_;refine y4 ?_
     refine yF ?_;refine yL ?_
     refine wO_val (a_iaddrA (i:=0) (by exact rfl) (by exact rfl) (by omega)) ?_
     refine yL ?_
     refine yf ?_;refine yM ?_;refine yP ?_;refine yP ?_;refine yP ?_;refine yP ?_;refine yP ?_
     refine yU ?_;refine yM ?_;refine yO ?_;refine yF ?_;refine yO ?_
     refine yL ?_;refine yO ?_;refine yM ?_;refine yO ?_
     refine yF ?_;refine yO ?_;refine yL ?_;refine yO ?_
     refine wO_val (a_iaddrA (i:=0) (by exact rfl) (by exact rfl) (by omega)) ?_;refine yO ?_
     refine yL ?_;refine yO ?_
     refine yt ?_;refine yO ?_;refine yT ?_;refine yO ?_;refine yM ?_;refine yO ?_;refine yF ?_;refine yO ?_
     refine yL ?_;refine yO ?_;refine wO_val (a_iaddrA (i:=1) (by exact rfl) (by exact rfl) (by omega)) ?_
     refine yO ?_;refine yL ?_
     refine yO ?_;refine yf ?_;refine yO ?_;refine yT ?_;refine yU ?_;refine yM ?_;refine y3 ?_;refine wE_ret ?_
     exact endP_ret (by exact hr.log) rfl rfl
   ·rw[dF (by simp;omega)]
    refine y4 ?_;refine yB ?_;refine yB ?_;refine yM ?_;refine y3 ?_;refine y4 ?_
    refine yF ?_;refine yL ?_
    refine wO_val (a_iaddrA (i:=0) (by exact rfl) (by exact rfl) (by omega)) ?_
    refine yL ?_
    refine yf ?_;refine yM ?_;refine yP ?_;refine yP ?_;refine yP ?_;refine yP ?_;refine yP ?_
    refine yU ?_;refine yM ?_;refine yO ?_;refine yF ?_;refine yO ?_
    refine yL ?_;refine yO ?_;refine yM ?_;refine yO ?_
    refine yF ?_;refine yO ?_;refine yL ?_;refine yO ?_
    refine wO_val (a_iaddrA (i:=0) (by exact rfl) (by exact rfl) (by omega)) ?_;refine yO ?_
    refine yL ?_;refine yO ?_
    refine yf ?_;refine yO ?_;refine yT ?_;refine yO ?_;refine yM ?_;refine yP ?_;refine yP ?_;refine yP ?_
    refine yP ?_;refine yP ?_;refine yO ?_;refine yU ?_;refine yU ?_;refine yM ?_;refine y3 ?_;refine wE_ret ?_
    exact endP_ret (by exact hr.log) rfl rfl
def wAt(l:List Kd)(f:Int):Int:=match l[f.toNat]? with
 |some k=>k.worth
 |none=>0
def found(l:List Kd)(a b:Int):Nat→Int
 |0=> -1
 |i+1=>match l[i]? with
  |some k=>if Large k a b∧(found l a b i<0∨k.worth<wAt l (found l a b i))then(i:Int)else found l a b i
  |none=>found l a b i
theorem found_bd(l:List Kd)(a b:Int):∀i:Nat, -1≤found l a b i∧found l a b i<i
 |0=>by unfold found;omega
 |i+1=>by
  have:=found_bd l a b i
  unfold found
  split
  ·split<;>omega
  ·omega
theorem wAt_bd{kerf:Int}{l:List Kd}(hc:chk kerf l=0)(f:Int):0≤wAt l f∧wAt l f≤1000000:=by
 unfold wAt
 split
 ·rename_i k hk
  exact((chk_iff.1 hc).2.2.1 k (List.mem_of_getElem? hk)).2.2.2
 ·omega
def NZ(pl:List Nat):Prop:=¬pl.all (· ==0)=true
instance(pl:List Nat):Decidable (NZ pl):=by unfold NZ;infer_instance
theorem sv_us(pl:List Nat):sameV (.agg (us pl).toArray) (.agg (us pl).toArray)=true:=by
 refine sv_agg ?_
 rw[List.toList_toArray]
 induction pl with
 |nil=>rfl
 |cons p pl ih=>exact sl_cons (s1_int _ _) ih
theorem leaves_us:∀pl:List Nat,leavesEq (lrep pl.length (.i .u64)) (us pl) (lrep pl.length (.int .u64 0))=some (pl.all (· ==0))
 |[]=>rfl
 |p::pl=>by
  have ih:=leaves_us pl
  have e:leafEq (.i .u64) (.int .u64 (p:Int)) (.int .u64 0)=some (p==0):=by
   simp only[leafEq,if_true]
   congr 1
   by_cases hp:p=0
   ·subst hp;rfl
   ·rw[beq_eq_false_iff_ne.2 (by omega),beq_eq_false_iff_ne.2 hp]
  simp only[List.length_cons,lrep,us,List.map_cons,leavesEq,List.all_cons]at ih⊢
  rw[e]
  cases hp:p==0 with
  |true=>simpa using ih
  |false=>simp[us]at ih⊢;rw[ih]
def timB(l:List Kd)(pl:List Nat):Int:=found l (boxD pl).1 (boxD pl).2 l.length
def timF(l:List Kd)(pl:List Nat):Int:=if boxN pl≠0∧timB l pl<0 then 51 else 0
def timE(kerf:Int)(l:List Kd)(pl:List Nat):Int:=if asked kerf l (NZ pl)=0 then timF l pl else asked kerf l (NZ pl)
def timL(kerf:Int)(l:List Kd)(pl:List Nat):List Int:=if timE kerf l pl=0 then List.replicate (boxN pl) (timB l pl)else []
def timW(kerf:Int)(l:List Kd)(pl:List Nat):Int:=if timE kerf l pl=0 then boxN pl*wAt l (timB l pl)else 0
def TimQ(kerf:Int)(l:List Kd)(pl:List Nat)(v:Value)(h:Heap):Prop:=∃a c,v= .tuple #[.slice a (timL kerf l pl).length c, .int .i64 (timW kerf l pl), .int .i64 (timE kerf l pl)]∧SliceOf h 1 (.slice a (timL kerf l pl).length c) (timL kerf l pl).length (ints (timL kerf l pl))
theorem TimQ.log{kerf:Int}{l:List Kd}{pl:List Nat}(v:Value)(h':Heap)(m:List Nat)(q:TimQ kerf l pl v h'):TimQ kerf l pl v {h' with log:=m}:=by
 obtain⟨a,c,h1,h2⟩:=q
 exact⟨a,c,h1,h2.log m⟩
theorem TimQ.gc{kerf:Int}{l:List Kd}{pl:List Nat}{h:Heap}(v:Value)(h1:Heap)(hv:noRef v=true)(q:TimQ kerf l pl v h1):TimQ kerf l pl v h:=by
 obtain⟨a,c,rfl,h2⟩:=q
 refine⟨a,c,rfl,?_⟩
 generalize(timL kerf l pl).length=n at*
 generalize ints (timL kerf l pl)=cs at*
 cases h2 with
 |nil=>exact .nil
 |mem s _=>simp[noRef,flatL,flat,scalL,scal,scal1]at hv
theorem wD_app1{base:Nat}{e:Env}{h:Heap}{lo sz bytes n:Nat}{ops:List AOper}{bf:List Nat}{rs:List Rec}{Q:Env→Heap→Prop}{i mask:Nat}{is:List Nat}{dst:Option Nat}{g:Option (Nat×Bool)}{er:Env}{x y:Operand}{v u:Value}{cs c1:List Value}
 (s:Own lo h sz v n cs)(hn:n<1000000)(hsz:0<sz)(hb:bytes≤100000)(hlo:lo≤h.next)(hbase:base≤lo)
 (ho:lget ops i=some ⟨dst, .append sz bytes x y,g⟩)(hm:lget bf i=some mask)(he:keepE e (slotsA ⟨dst, .append sz bytes x y,g⟩)=er)(hwt:wantedA er g=some true)
 (hx:ev {h with log:=[]} er x=some v)(hy:ev {h with log:=[]} er y=some u)(hs:srcCells {h with log:=[]} sz u=some (c1,1))(hl1:c1.length=sz)(h1:ones c1=true)(h1':ones cs=true)
 (hK:∀v' h' lg,Own lo h' sz v' (n+1) (cs++c1)→Lx lo h h'→∃rs',recsAfter h' base lg mask rs=some rs'∧WD T base ops bf Q is rs' (dstE e dst v') h'):WD T base ops bf Q (i::is) rs e h:=by
 have hbd:(2*(n+1)+768)*bytes≤281474976710656:=by
  have:(2*(n+1)+768)*bytes≤2000768*100000:=Nat.mul_le_mul (by omega) hb
  omega
 cases s with
 |nil=>
  have:=Own.full (lo:=lo) (h:=h.push (.cells c1 true sz)) (sz:=sz) (q:=h.next) (n:=1) (cs:=c1) hlo (Nat.lt_succ_self _) (z3 _ _) (by omega) (by omega)
  obtain⟨rs',q1,q2⟩:=hK _ _ [] this ((Lx.refl lo h).push hlo _)
  exact wD_app_nil (n:=1) ho hm he hwt hx hy hs (by omega) (by simpa using hbd) q1 q2
 | @full q _ _ q1 q2 q3 q4 q5=>
   have hF:Own lo ((h.wr base q .dead).push (.cells (cs++c1) true sz)) sz (.slice (some ⟨h.next,0,none⟩) (n+1) UNK) (n+1) (cs++c1):= .full hlo (Nat.lt_succ_self _) (z3 _ _) (by rw[List.length_append,q4,hl1,Nat.add_mul,Nat.one_mul]) (by omega)
   obtain⟨rs',p1,p2⟩:=hK _ _ [q] hF (((Lx.refl lo h).wr q1 (by omega)).push hlo _)
   exact wD_app_open (n:=1) (vs:=cs) (ws:=cs++c1) ho hm he hwt hx hy hs (by omega) q3 q4 hsz h1 hbd (lcat_eq _ _) q2 (by omega) p1 p2
theorem ones_intsT:∀xs:List Int,ones (ints xs)=true
 |[]=>rfl
 |x::xs=>by
  have:=ones_intsT xs
  simp only[ints,List.map_cons,ones]at this⊢
  simpa using this
theorem ints_rep(n:Nat)(f:Int):ints (List.replicate (n+1) f)=ints (List.replicate n f)++[.int .i64 f]:=by
 rw[List.replicate_succ'];simp[ints]
theorem lrow_get{x y:Value}{n i:Nat}(hi:i<n):ltake 2 (ldrop (0+i*2) (lrow n [x,y]))=[x,y]:=by
 obtain⟨m,rfl⟩:∃m,n=i+(m+1):=⟨n-i-1,by omega⟩
 rw[Nat.zero_add,ldrop_eq,ltake_eq,lrow_add,List.drop_append_of_le_length (by rw[lrow_len];exact Nat.le_refl _),List.drop_of_length_le (by rw[lrow_len];exact Nat.le_refl _),List.nil_append,lrow,lcat_eq]
 rfl
theorem slice_box{h:Heap}{b o n:Nat}{x y:Value}(s:SliceAt h b o n 2 (lrow n [x,y])){i:Nat}(hi:i<n):∃vs own t,h.get b=some (.cells vs own t)∧ltake 2 (ldrop (o+i*2) vs)=[x,y]:=by
 obtain⟨vs,own,t,h1,h2⟩:=s.obj
 refine⟨vs,own,t,h1,?_⟩
 have h3:=lrow_get (x:=x) (y:=y) hi
 rw[←h2,ltake_eq,ldrop_eq,ltake_eq,ldrop_eq]at h3
 rw[ltake_eq,ldrop_eq,←h3,List.drop_take,List.drop_drop,List.take_take,Nat.min_eq_left (by omega),Nat.zero_add]
set_option maxHeartbeats 16000000 in
theorem timber69(F:FnsTi T){h:Heap}(hr:Rdy h){a:Option Addr}{n c:Nat}{l:List Kd}(hs:SliceOf h 5 (.slice a n c) n (kcs l))(kerf:Int)(hn:n<1000000){pl:List Nat}(hl:pl.length=8)(hp:∀x∈pl,x<18446744073709551616):
 Al T 69 [.agg #[.slice a n c, .int .i64 kerf], .agg (us pl).toArray] h (TimQ kerf l pl):=by
 refine .of F.toFnsA.p F.f69 hr TimQ.gc ?_
 have hu:(us pl).length=8:=by rw[us,List.length_map,hl]
 have hx:Ext h (h.push (.cells [.slice a n c, .int .i64 kerf] true 1)):=(Ext.refl h).push _
 obtain rfl:n=l.length:=by have:=hs.len;rw[kcs_length]at this;omega
 have hx1:=hx.push (.cells (us pl) true 1)
 refine y4 ?_
 refine yB ?_
 refine wO_val (a_box (vs:=us pl) (by exact rfl) (by show(us pl).toArray.toList=us pl;simp)) ?_
 refine yM ?_;refine yM ?_;refine yM ?_;refine y3 ?_;refine wE_seq ?_;refine wE_draw ?_
 refine qN ?_
 refine wD_quiet rfl rfl rfl (by exact rfl) (by exact rfl) (by exact rfl) (a_loadN (l:=us pl) (by exact rfl) (by(simp(disch:=first|omega|(simp only[z1,z2];omega)|(simp only[z1,z2];done)|fail)only[z8,z4,z5,z9,z7,z1,z2, *];exact rfl)) (by rw[ltake_eq,ldrop_eq,List.drop_zero,List.take_of_length_le (by omega)]) (by rw[llen_eq,hu];rfl)) ?_
 refine wD_quiet rfl rfl rfl (by exact rfl) (by exact rfl) (by exact rfl) (a_build (by exact rfl)) ?_
 have hlv:leavesEq (lrep 8 (.i .u64)) (us pl).toArray.toList (lrep 8 (.int .u64 0))=some (pl.all (· ==0)):=by
  have:=leaves_us pl
  rw[hl]at this
  rw[List.toList_toArray];exact this
 have hl1':ltake 8 (ldrop 0 (us pl))=us pl:=by rw[ltake_eq,ldrop_eq,List.drop_zero,List.take_of_length_le (by omega)]
 have hl2':Nat.beq (llen (us pl)) 8=true:=by rw[llen_eq,hu];rfl
 refine wD_quiet rfl rfl rfl (by exact rfl) (by exact rfl) (by exact rfl) (a_agg (b:=pl.all (· ==0)) (by exact rfl) (by exact rfl) hlv) ?_
 have hbl:(bif true then !(pl.all (· ==0))else pl.all (· ==0))=decide (NZ pl):=by
  by_cases hq:pl.all (· ==0)=true<;>simp[NZ,hq]
 refine wD_new rfl rfl rfl (by exact rfl) (by exact rfl) (by exact rfl) (a_bslice (by exact rfl) (by exact rfl)) (by refine rs_cons (rq_quiet rfl (a_agg (by exact rfl) (by exact rfl) (by assumption)) (by exact sv_bool _)) ?_;refine rs_cons (rq_quiet rfl (a_build (by exact rfl)) (by exact sv_agg (by exact sl_nil))) ?_;refine rs_cons (rq_quiet rfl (a_loadN (by exact rfl) (by(simp(disch:=first|omega|(simp only[z1,z2];omega)|(simp only[z1,z2];done)|fail)only[z8,z4,z5,z9,z7,z1,z2, *];exact rfl)) (by assumption) (by assumption)) (by exact sv_us _)) ?_;refine rs_cons (rq_quiet rfl (a_loadN (by exact rfl) (by(simp(disch:=first|omega|(simp only[z1,z2];omega))only[z3,z4,z5,z6,z7,z1,z2, *];exact rfl)) (by exact rfl) (by exact rfl)) (by exact sv_agg (by refine sl_cons (s1_slice _ _ _) ?_;refine sl_cons (s1_int _ _) ?_;exact sl_nil))) ?_;exact rs_nil) ?_
 refine qC ?_
 have hx2:=hx1.push (.cells [.bool (bif true then !(pl.all (· ==0))else pl.all (· ==0))] true 1)
 refine FW.alD (startedB75 F.toFnsE (.of (hx2.wf hr.wf)) ((hs.ext hx2).log []) kerf hn (bl:=[bif true then !(pl.all (· ==0))else pl.all (· ==0)]) (m:=1) (.mem ⟨Nat.lt_succ_self _,⟨_,_,_,z3 _ _,rfl⟩,rfl⟩ (Nat.le_refl _)) (by omega)) (fun v h' m q=>StartQ.logs v h' m q) ?_
 rintro _ h1 hx3 ⟨p,rfl,hst⟩
 rw[hbl,startE_one]at hst
 rw[hbl,startE_one]
 refine⟨_,by apply ra_dropC rfl;apply ra_dropC rfl;apply ra_dropC rfl;apply ra_dropC rfl;apply ra_dropC rfl;exact ra_nil,?_⟩
 rw[hbl]at hx2 hx3
 have w1:WF h1:=hx3.wf (hx2.wf hr.wf)
 have hx13:Ext h h1:=hx2.trans hx3
 have hl1:h1.log=[]:=hx13.log.trans hr.log
 have gP:h1.get (h.next+1)=some (.cells (us pl) true 1):=by rw[hx3.old _ (by(simp only[z1,z2];omega))];(simp(disch:=first|omega|(simp only[z1,z2];omega)|(simp only[z1,z2];done)|fail)only[z8,z4,z5,z9,z7,z1,z2, *];done)
 have kP:h.next+1<h1.next:=by have:=hx3.next;simp only[z1]at this;omega
 by_cases ha:asked kerf l (NZ pl)=0
 ·obtain⟨bb,wa,wc,rfl,gb,hws⟩:=hst ha
  obtain⟨hc,hN⟩:=asked_zero ha
  have hks:=hs.ext hx13
  have kb1:=WF.get_lt w1 gb
  have hl12:=(chk_iff.1 hc).1
  have hE:timE kerf l pl=if boxN pl≠0∧timB l pl<0 then 51 else 0:=by rw[timE,if_pos ha];rfl
  have hN8:=boxN_bd hp
  have hwb:=wAt_bd hc (timB l pl)
  clear hst hx3 hlv hbl hws hx2
  rw[ha]
  refine qM ?_;refine qE ?_;refine qE ?_
  refine qM ?_;refine qM ?_;refine wD_nil ?_;refine y1 ?_;refine kS_n ?_;refine wE_seq ?_;refine y4 ?_
  refine yM ?_;refine yf ?_;refine y3 ?_;refine yX ?_;refine wE_skip ?_;refine kS_n ?_;refine wE_seq ?_;refine y4 ?_
  refine wO_val (a_loadN (l:=us pl) (by exact rfl) gP (by rw[ltake_eq,ldrop_eq,List.drop_zero,List.take_of_length_le (by omega)]) (by rw[llen_eq,hu];rfl)) ?_
  refine yC ?_
  refine FW.al (boxes72 F.toFnsZ (.of w1) hl hp) (fun v h' m q=>BoxQ.log v h' m q) ?_
  rintro _ h2 hx4 ⟨ba,bc,rfl,hB⟩
  have hx14:=hx13.trans hx4
  have w2:=hx4.wf w1
  have gb2:=(hx4.old _ kb1).trans gb
  have kb2:bb<h2.next:=Nat.lt_of_lt_of_le kb1 hx4.next
  have hks2:=hks.ext hx4
  have hlg2:h2.log=[]:=hx4.log.trans hl1
  have hb2:h.next+1<h2.next:=Nat.lt_of_lt_of_le kP hx4.next
  have hTL:timE kerf l pl=0→timL kerf l pl=List.replicate (boxN pl) (timB l pl):=fun q=>by rw[timL,if_pos q]
  have hTW:timE kerf l pl=0→timW kerf l pl=boxN pl*wAt l (timB l pl):=fun q=>by rw[timW,if_pos q]
  clear hx13 gb kb1 hks gP kP w1 hx4
  have hBdef:timB l pl=found l (boxD pl).1 (boxD pl).2 l.length:=rfl
  unfold boxL at hB
  generalize boxD pl=D at*
  obtain⟨D1,D2⟩:=D
  dsimp only at hB hBdef
  generalize timB l pl=B at*
  have hNe:boxN pl=boxN pl:=rfl
  generalize boxN pl=N at*
  refine yD ?_;refine yM ?_;refine y3 ?_;refine wE_block ?_
  refine wE_loop (fun m e ds h'=>∃(i:Nat) (v:Value) (W:Int),i≤N∧m=N-i∧W=i*wAt l B∧e=[(4,v),(5, .int .i64 W),(7, .pointer (some ⟨bb,0,none⟩)),(26, .slice ba N bc),(27, .int .i64 N),(28, .int .i64 i)]∧ds=[]∧Ext h2 h'∧Own h2.next h' 1 v i (ints (List.replicate i B))∧(0<i→0≤B))
   ⟨0,_,0,Nat.zero_le _,rfl,by simp,rfl,rfl, .refl _, .nil,fun q=>absurd q (Nat.lt_irrefl 0)⟩ ?_
  rintro m e ds h' ⟨i,v,W,hiN,rfl,hW,rfl,rfl,hx',own,hi0⟩
  have hWb:0≤W∧W≤8000000:=by
   subst hW
   refine⟨Int.mul_nonneg (by omega) hwb.1,?_⟩
   have:=Int.mul_le_mul (show(i:Int)≤8 by omega) hwb.2 hwb.1 (by omega)
   omega
  have gb':=(hx'.old _ kb2).trans gb2
  have kb':bb<h'.next:=Nat.lt_of_lt_of_le kb2 hx'.next
  have kh':h.next+1<h'.next:=Nat.lt_of_lt_of_le hb2 hx'.next
  by_cases hlt:i<N
  ·rcases(hB.ext hx').inv with⟨_,_,h0,_⟩|⟨b,o,cap,hv,s,hcap⟩
   ·omega
   cases hv
   obtain⟨vs,own0,t,g1,g2⟩:=slice_box s hlt
   refine y4 ?_;refine yt ?_;refine y3 ?_;refine wE_seq ?_;refine yY ?_;refine wE_skip ?_;refine kS_n ?_;refine wE_seq ?_;refine wE_block ?_;refine y4 ?_;refine wO_val (a_iaddrS (by exact rfl) (by exact rfl) (by omega)) ?_
   refine wO_val (a_loadN (by exact rfl) g1 g2 (by exact rfl)) ?_
   refine wO_val a_new ?_;refine yS ?_;refine y3 ?_;refine y4 ?_;refine yM ?_;refine y3 ?_;refine wE_seq ?_;refine y4 ?_
   refine yM ?_;refine wO_val (a_nilchk (by exact rfl)) ?_;refine yF ?_;refine yF ?_
   refine yL ?_;refine yD ?_;refine yM ?_;refine y3 ?_;refine wE_block ?_
   have hx5:=((Ext.refl h').push (.cells [.int .i64 0, .int .i64 0] true 1)).wr (base:=h.next) (x:=h'.next) (o:= .cells [.int .i64 D1, .int .i64 D2] true 1) (Nat.le_refl _) (by omega)
   refine wE_loop (fun m e ds h''=>∃(j:Nat),j≤l.length∧m=l.length-j∧e=[(4,v),(5, .int .i64 W),(7, .pointer (some ⟨bb,0,none⟩)),(9, .pointer (some ⟨h'.next,0,none⟩)),(10, .int .i64 (found l D1 D2 j)),(26, .slice (some ⟨b,o,none⟩) N bc),(27, .int .i64 N),(28, .int .i64 i),(36, .slice a l.length c),(37, .int .i64 l.length),(38, .int .i64 j)]∧ds=[]∧Ext h' h''∧h'.next<h''.next∧h''.get h'.next=some (.cells [.int .i64 D1, .int .i64 D2] true 1))
    ⟨0,Nat.zero_le _,rfl,rfl,rfl,hx5,Nat.lt_succ_self _,by(simp(disch:=first|omega|(simp only[z1,z2];omega))only[z3,z4,z5,z6,z7,z1,z2, *];exact rfl)⟩ ?_
   rintro m e ds h'' ⟨j,hjl,rfl,rfl,rfl,hx'',hnx,g9⟩
   have gb'':=(hx''.old _ kb').trans gb'
   have kh'':h.next+1<h''.next:=by omega
   have hfb:=found_bd l D1 D2 j
   by_cases hjlt:j<l.length
   ·obtain⟨k,hkl⟩:∃k,l[j]? =some k:=⟨l[j],List.getElem?_eq_getElem hjlt⟩
    have hfs:found l D1 D2 (j+1)=if Large k D1 D2∧(found l D1 D2 j<0∨k.worth<wAt l (found l D1 D2 j))then(j:Int)else found l D1 D2 j:=by rw[found,hkl]
    rcases(hks2.ext (hx'.trans hx'')).inv with⟨_,_,h0,_⟩|⟨kb,ko,kcap,hv,sk,hkcap⟩
    ·omega
    cases hv
    obtain⟨vk,ownk,tk,gk1,gk2⟩:=slice_elem sk hkl
    have hx6:=(hx''.push (.cells [.int .i64 0, .int .i64 0, .int .i64 0, .int .i64 0, .bool false] true 1)).wr (base:=h.next) (x:=h''.next) (o:= .cells (kc k) true 1) hx''.next (by omega)
    refine y4 ?_;refine yt ?_;refine y3 ?_;refine wE_seq ?_;refine yY ?_;refine wE_skip ?_;refine kS_n ?_;refine wE_seq ?_;refine wE_block ?_;refine y4 ?_;refine yM ?_;refine wO_val (a_iaddrS (by exact rfl) (by exact rfl) (by omega)) ?_
    refine wO_val (a_loadN (by exact rfl) gk1 gk2 (by exact rfl)) ?_
    refine wO_val a_new ?_;refine yM ?_;refine yS ?_;refine y3 ?_;refine wE_seq ?_;refine wE_draw ?_
    refine qN ?_
    refine qN ?_
    refine qC ?_
    refine FW.puD (large120 F (.of ((hx'.trans hx6).wf w2)) k D1 D2) (by apply ra_dropC rfl;apply ra_dropC rfl;exact ra_nil) ?_
    by_cases hL:Large k D1 D2
    ·rw[decide_eq_true hL]
     by_cases hneg:found l D1 D2 j<0
     ·rw[if_pos ⟨hL, .inl hneg⟩]at hfs
      refine qM ?_;refine qM ?_;refine wD_quiet rfl rfl rfl (by exact rfl) (by exact rfl) (by exact rfl) (a_num (by exact rfl) (by exact rfl) (by exact m_geqT (by omega))) ?_
      refine qM ?_;refine wD_off rfl rfl rfl (by exact rfl) ?_;refine wD_off rfl rfl rfl (by exact rfl) ?_;refine wD_off rfl rfl rfl (by exact rfl) ?_;refine wD_off rfl rfl rfl (by exact rfl) ?_;refine wD_off rfl rfl rfl (by exact rfl) ?_;refine wD_off rfl rfl rfl (by exact rfl) ?_
      refine wD_off rfl rfl rfl (by exact rfl) ?_;refine wD_off rfl rfl rfl (by exact rfl) ?_;refine wD_off rfl rfl rfl (by exact rfl) ?_;refine wD_off rfl rfl rfl (by exact rfl) ?_;refine wD_off rfl rfl rfl (by exact rfl) ?_;refine wD_off rfl rfl rfl (by exact rfl) ?_;refine wD_quiet rfl rfl rfl (by exact rfl) (by exact rfl) (by exact rfl) (a_pickT (by exact rfl) (by exact rfl)) ?_
      refine wD_quiet rfl rfl rfl (by exact rfl) (by exact rfl) (by exact rfl) (a_pickT (by exact rfl) (by exact rfl)) ?_;refine wD_nil ?_;refine y1 ?_;refine kS_n ?_;refine yY ?_;refine wE_region ?_;refine yM ?_;refine yM ?_
      refine wO_nil ?_;refine y1 ?_;refine kB_n ?_;refine kS_n ?_;refine wE_region ?_;refine yinc ?_;refine yM ?_;refine y3 ?_
      exact⟨l.length-(j+1),by omega,j+1,by omega,rfl,by rw[hfs],rfl,hx6,by(simp only[z1,z2];omega),by(simp(disch:=first|omega|(simp only[z1,z2];omega))only[z3,z4,z5,z6,z7,z1,z2, *];done)⟩
     ·generalize hfd:found l D1 D2 j=fd at*
      obtain⟨f,rfl⟩:=Int.eq_ofNat_of_zero_le (show 0≤fd by omega)
      have hfl:f<l.length:=by omega
      obtain⟨kf,hkf⟩:∃kf,l[f]? =some kf:=⟨l[f],List.getElem?_eq_getElem hfl⟩
      have hwf:wAt l (f:Int)=kf.worth:=by rw[wAt,Int.toNat_natCast,hkf]
      rw[hwf]at hfs
      obtain⟨vf,ownf,tf,gf1,gf2⟩:=slice_elem (sk.ext (((Ext.refl h'').push (.cells [.int .i64 0, .int .i64 0, .int .i64 0, .int .i64 0, .bool false] true 1)).wr (base:=h.next) (x:=h''.next) (o:= .cells (kc k) true 1) (Nat.le_refl _) (by omega))) hkf
      have e0:lget vf (ko+f*5+3)=some (.int .i64 kf.worth):=elem_get gf2 3 (by omega)
      by_cases hw:k.worth<kf.worth
      ·rw[if_pos ⟨hL, .inr hw⟩]at hfs
       refine qM ?_;refine qM ?_;refine wD_quiet rfl rfl rfl (by exact rfl) (by exact rfl) (by exact rfl) (a_num (by exact rfl) (by exact rfl) (by exact m_geqF (by omega))) ?_
       refine qM ?_;refine qF ?_
       refine qL ?_
       refine qM ?_;refine wD_quiet rfl rfl rfl (by exact rfl) (by exact rfl) (by exact rfl) (a_nilchk (by exact rfl)) ?_;refine qF ?_
       refine qF ?_
       refine qL ?_
       refine qM ?_;refine wD_quiet rfl rfl rfl (by exact rfl) (by exact rfl) (by exact rfl) (a_iaddrS (by exact rfl) (by exact rfl) (by omega)) ?_;refine qF ?_
       refine wD_quiet rfl rfl rfl (by exact rfl) (by exact rfl) (by exact rfl) (a_load (by exact rfl) (by assumption) (by assumption)) ?_;refine wD_quiet rfl rfl rfl (by exact rfl) (by exact rfl) (by exact rfl) (a_num (by exact rfl) (by exact rfl) (by exact m_geqT (by omega))) ?_;refine wD_quiet rfl rfl rfl (by exact rfl) (by exact rfl) (by exact rfl) (a_pickF (by exact rfl) (by exact rfl)) ?_
       refine wD_quiet rfl rfl rfl (by exact rfl) (by exact rfl) (by exact rfl) (a_pickT (by exact rfl) (by exact rfl)) ?_;refine wD_nil ?_;refine y1 ?_;refine kS_n ?_;refine yY ?_;refine wE_region ?_;refine yM ?_;refine yM ?_
       refine wO_nil ?_;refine y1 ?_;refine kB_n ?_;refine kS_n ?_;refine wE_region ?_;refine yinc ?_;refine yM ?_;refine y3 ?_
       exact⟨l.length-(j+1),by omega,j+1,by omega,rfl,by rw[hfs],rfl,hx6,by(simp only[z1,z2];omega),by(simp(disch:=first|omega|(simp only[z1,z2];omega))only[z3,z4,z5,z6,z7,z1,z2, *];done)⟩
      ·rw[if_neg (fun q=>q.2.elim hneg hw)]at hfs
       refine qM ?_;refine qM ?_;refine wD_quiet rfl rfl rfl (by exact rfl) (by exact rfl) (by exact rfl) (a_num (by exact rfl) (by exact rfl) (by exact m_geqF (by omega))) ?_
       refine qM ?_;refine qF ?_
       refine qL ?_
       refine qM ?_;refine wD_quiet rfl rfl rfl (by exact rfl) (by exact rfl) (by exact rfl) (a_nilchk (by exact rfl)) ?_;refine qF ?_
       refine qF ?_
       refine qL ?_
       refine qM ?_;refine wD_quiet rfl rfl rfl (by exact rfl) (by exact rfl) (by exact rfl) (a_iaddrS (by exact rfl) (by exact rfl) (by omega)) ?_;refine qF ?_
       refine wD_quiet rfl rfl rfl (by exact rfl) (by exact rfl) (by exact rfl) (a_load (by exact rfl) (by assumption) (by assumption)) ?_;refine wD_quiet rfl rfl rfl (by exact rfl) (by exact rfl) (by exact rfl) (a_num (by exact rfl) (by exact rfl) (by exact m_geqF (by omega))) ?_;refine wD_quiet rfl rfl rfl (by exact rfl) (by exact rfl) (by exact rfl) (a_pickF (by exact rfl) (by exact rfl)) ?_
       refine wD_quiet rfl rfl rfl (by exact rfl) (by exact rfl) (by exact rfl) (a_pickT (by exact rfl) (by exact rfl)) ?_;refine wD_nil ?_;refine y1 ?_;refine kS_n ?_;refine yX ?_;refine wE_skip ?_;refine kB_n ?_;refine kS_n ?_;refine wE_region ?_
       refine yinc ?_;refine yM ?_;refine y3 ?_
       exact⟨l.length-(j+1),by omega,j+1,by omega,rfl,by rw[hfs],rfl,hx6,by(simp only[z1,z2];omega),by(simp(disch:=first|omega|(simp only[z1,z2];omega))only[z3,z4,z5,z6,z7,z1,z2, *];done)⟩
    ·rw[decide_eq_false hL]
     rw[if_neg (fun q=>hL q.1)]at hfs
     refine qM ?_;refine wD_off rfl rfl rfl (by exact rfl) ?_;refine wD_off rfl rfl rfl (by exact rfl) ?_;refine wD_off rfl rfl rfl (by exact rfl) ?_;refine wD_off rfl rfl rfl (by exact rfl) ?_;refine wD_off rfl rfl rfl (by exact rfl) ?_;refine wD_off rfl rfl rfl (by exact rfl) ?_
     refine wD_off rfl rfl rfl (by exact rfl) ?_;refine wD_off rfl rfl rfl (by exact rfl) ?_;refine wD_off rfl rfl rfl (by exact rfl) ?_;refine wD_off rfl rfl rfl (by exact rfl) ?_;refine wD_off rfl rfl rfl (by exact rfl) ?_;refine wD_off rfl rfl rfl (by exact rfl) ?_;refine wD_off rfl rfl rfl (by exact rfl) ?_;refine wD_off rfl rfl rfl (by exact rfl) ?_
     refine wD_off rfl rfl rfl (by exact rfl) ?_;refine wD_off rfl rfl rfl (by exact rfl) ?_;refine wD_quiet rfl rfl rfl (by exact rfl) (by exact rfl) (by exact rfl) (a_pickF (by exact rfl) (by exact rfl)) ?_;refine wD_nil ?_;refine y1 ?_;refine kS_n ?_;refine yX ?_;refine wE_skip ?_
     refine kB_n ?_;refine kS_n ?_;refine wE_region ?_;refine yinc ?_;refine yM ?_;refine y3 ?_
     exact⟨l.length-(j+1),by omega,j+1,by omega,rfl,by rw[hfs],rfl,hx6,by(simp only[z1,z2];omega),by(simp(disch:=first|omega|(simp only[z1,z2];omega))only[z3,z4,z5,z6,z7,z1,z2, *];done)⟩
   ·obtain rfl:j=l.length:=by omega
    rw[←hBdef]at hfb⊢
    by_cases hneg:B<0
    ·have hE1:timE kerf l pl=51:=by rw[hE,if_pos ⟨by omega,hneg⟩]
     refine y4 ?_;refine yf ?_;refine y3 ?_;refine wE_seq ?_;refine yX ?_;refine wE_exit ?_;refine kS_e ?_;refine kS_e ?_;refine kB_e ?_;refine kS_n ?_
     refine wE_seq ?_;refine y4 ?_;refine yM ?_;refine yt ?_;refine y3 ?_;refine yY ?_;refine y4 ?_
     refine yM ?_;refine yM ?_;refine yM ?_;refine y3 ?_;refine wE_ret ?_;refine kS_r ?_;refine kB_r ?_;refine kS_r ?_;refine kS_r ?_;refine kB_r ?_;refine kS_r ?_
     refine endA_ret (vs:=[.slice none 0 0, .int .i64 0, .int .i64 51]) ((hx'.trans hx'').log.trans hlg2) rfl ?_
     have t1:timL kerf l pl=[]:=by rw[timL,if_neg (by omega)]
     have t2:timW kerf l pl=0:=by rw[timW,if_neg (by omega)]
     unfold TimQ
     rw[t1,t2,hE1]
     exact⟨none,0,rfl, .nil⟩
    ·obtain⟨va,vc,rfl⟩:∃va vc,v= .slice va i vc:=(own.slice (by omega)).form
     obtain⟨f,rfl⟩:=Int.eq_ofNat_of_zero_le (show 0≤B by omega)
     have hfl:f<l.length:=by omega
     obtain⟨kf,hkf⟩:∃kf,l[f]? =some kf:=⟨l[f],List.getElem?_eq_getElem hfl⟩
     have hwf:wAt l (f:Int)=kf.worth:=by rw[wAt,Int.toNat_natCast,hkf]
     rw[hwf]at hwb hW
     rcases hks2.inv with⟨_,_,h0,_⟩|⟨kb,ko,kcap,hv,sk0,hkcap⟩
     ·omega
     cases hv
     have hx7:=(hx'.trans hx'').push (.cells [.int .i64 f] true 1)
     have kkb:kb<h2.next:=sk0.lt
     obtain⟨vf,ownf,tf,gf1,gf2⟩:=slice_elem (sk0.ext hx7) hkf
     have e0:lget vf (ko+f*5+3)=some (.int .i64 kf.worth):=elem_get gf2 3 (by omega)
     clear hBdef
     refine y4 ?_;refine yf ?_;refine y3 ?_;refine wE_seq ?_;refine yX ?_;refine wE_exit ?_;refine kS_e ?_;refine kS_e ?_;refine kB_e ?_;refine kS_n ?_
     refine wE_seq ?_;refine y4 ?_;refine yM ?_;refine yf ?_;refine y3 ?_;refine yX ?_;refine wE_skip ?_;refine kS_n ?_
     refine wE_draw ?_;refine qM ?_;refine qM ?_
     refine wD_new rfl rfl rfl (by exact rfl) (by exact rfl) (by exact rfl) (a_bslice (by exact rfl) (by exact rfl)) (by refine rs_cons (rq_quiet rfl (a_mov (by exact rfl)) (by exact sv_int _ _)) ?_;refine rs_cons (rq_quiet rfl (a_mov (by exact rfl)) (by exact sv_slice _ _ _)) ?_;exact rs_nil) ?_;refine qM ?_
     refine qM ?_;refine wD_quiet rfl rfl rfl (by exact rfl) (by exact rfl) (by exact rfl) (a_nilchk (by exact rfl)) ?_;refine qF ?_
     refine qF ?_
     refine qL ?_
     refine qM ?_;refine wD_quiet rfl rfl rfl (by exact rfl) (by exact rfl) (by exact rfl) (a_iaddrS (by exact rfl) (by exact rfl) (by omega)) ?_;refine qF ?_
     refine wD_quiet rfl rfl rfl (by exact rfl) (by exact rfl) (by exact rfl) (a_load (by exact rfl) (by assumption) (by assumption)) ?_;refine wD_quiet rfl rfl rfl (by exact rfl) (by exact rfl) (by exact rfl) (a_num (by exact rfl) (by exact rfl) (by exact m_add (wrapA_i64 (by omega) (by omega)))) ?_
     refine wD_app1 (lo:=h2.next) (c1:=[.int .i64 f]) (own.ext (hx''.push (.cells [.int .i64 f] true 1))) (by omega) (by omega) (by omega) hx7.next (by omega) rfl rfl rfl (by exact rfl) (by exact rfl) (by exact rfl) (src_log (src_slice (cs:=[.int .i64 f]) (by(simp(disch:=first|omega|(simp only[z1,z2];omega))only[z3,z4,z5,z6,z7,z1,z2, *];exact rfl)) rfl rfl)) (by exact rfl) (by exact rfl) (ones_intsT _) ?_
     intro v' h3 lg own' hx8
     have g3b:=(hx8.old bb kb2).trans ((z4 (by omega)).trans gb'')
     have g3k:=(hx8.old kb kkb).trans gf1
     clear gb'' gf1 gb' gb2 g1
     refine⟨_,by apply ra_keepC rfl (rq_quiet rfl (a_num (by exact rfl) (by exact rfl) (by exact m_add (wrapA_i64 (by omega) (by omega)))) (by exact sv_int _ _)) rfl;apply ra_keepC rfl (rq_quiet rfl (a_load (by exact rfl) (by assumption) (by assumption)) (by exact sv_int _ _)) rfl;apply ra_keepC rfl (rq_quiet rfl (a_faddr (by exact rfl)) (by exact sv_ptr _)) rfl;apply ra_keepC rfl (rq_quiet rfl (a_iaddrS (by exact rfl) (by exact rfl) (by omega)) (by exact sv_ptr _)) rfl;apply ra_keepC rfl (rq_quiet rfl (a_mov (by exact rfl)) (by exact sv_int _ _)) rfl;apply ra_keepC rfl (rq_quiet rfl (a_load (by exact rfl) (by assumption) (by exact rfl)) (by exact sv_slice _ _ _)) rfl;apply ra_keepC rfl (rq_quiet rfl (a_faddr (by exact rfl)) (by exact sv_ptr _)) rfl;apply ra_keepC rfl (rq_quiet rfl (a_faddr (by exact rfl)) (by exact sv_ptr _)) rfl;apply ra_keepC rfl (rq_quiet rfl (a_nilchk (by exact rfl)) (by exact sv_ptr _)) rfl;apply ra_keepC rfl (rq_quiet rfl (a_mov (by exact rfl)) (by exact sv_ptr _)) rfl;apply ra_keepC rfl (rq_quiet rfl (a_mov (by exact rfl)) (by exact sv_int _ _)) rfl;apply ra_dropC rfl;apply ra_dropC rfl;apply ra_dropC rfl;exact ra_nil,?_⟩
     refine qM ?_;refine qM ?_;refine wD_nil ?_;refine y1 ?_;refine kB_n ?_;refine kS_n ?_;refine wE_region ?_
     refine yinc ?_;refine yM ?_;refine y3 ?_
     refine⟨N-(i+1),by omega,i+1,v',W+kf.worth,by omega,rfl,?_,rfl,rfl,((hx7.lx (Nat.le_refl _)).trans hx8).ext,?_,fun _=>by omega⟩
     ·rw[hwf,hW,Int.natCast_add,Int.add_mul];simp
     ·rw[ints_rep];exact own'
  ·obtain rfl:i=N:=by omega
   have hE0:timE kerf l pl=0:=by rw[hE,if_neg (fun q=>by have:=hi0 (by omega);omega)]
   refine y4 ?_;refine yf ?_;refine y3 ?_;refine wE_seq ?_;refine yX ?_;refine wE_exit ?_;refine kS_e ?_;refine kS_e ?_;refine kB_e ?_;refine kS_n ?_
   refine y4 ?_;refine yM ?_;refine yM ?_;refine yM ?_;refine yM ?_;refine yM ?_;refine y3 ?_;refine wE_ret ?_
   refine endA_ret (vs:=[v, .int .i64 W, .int .i64 0]) (hx'.log.trans hlg2) rfl ?_
   unfold TimQ
   rw[hTL hE0,hTW hE0,hE0,←hW,List.length_replicate]
   have:=own.slice (by omega)
   obtain⟨a1,c1,rfl⟩:=this.form
   exact⟨a1,c1,rfl,this⟩
 ·have hE:timE kerf l pl=asked kerf l (NZ pl):=by rw[timE,if_neg ha]
  have t1:timL kerf l pl=[]:=by rw[timL,if_neg (by omega)]
  have t2:timW kerf l pl=0:=by rw[timW,if_neg (by omega)]
  refine qM ?_;refine qE ?_;refine qE ?_
  refine qM ?_;refine qM ?_;refine wD_nil ?_;refine y1 ?_;refine kS_n ?_;refine wE_seq ?_;refine y4 ?_
  refine yM ?_;refine yt ?_;refine y3 ?_;refine yY ?_;refine y4 ?_;refine yM ?_
  refine yM ?_;refine yM ?_;refine yM ?_;refine y3 ?_;refine wE_ret ?_;refine kS_r ?_
  refine endA_ret (vs:=[.slice none 0 0, .int .i64 0, .int .i64 (asked kerf l (NZ pl))]) hl1 rfl ?_
  unfold TimQ
  rw[t1,t2,hE]
  exact⟨none,0,rfl, .nil⟩
end Go.A.Pk
end
section
set_option maxRecDepth 100000
namespace Go.A.Pk
variable {T:Nat→Option AFunc}
structure FnsRZ (T:Nat→Option AFunc):Prop where
 p:primAS T
 f73:T 73=some f73
def bit(a i:Nat):Prop:=Nat.land (Nat.shiftRight a i) 1=1
instance(a i:Nat):Decidable (bit a i):=by unfold bit;infer_instance
structure RS where
 w:Int
 e:Int
 n:Int
 s:Int
 lo:Int
 hi:Int
def rs0:RS:=⟨8, -1,8, -1,8, -1⟩
def rplane(p:Nat)(z:Nat)(r:RS):Nat→RS
 |0=>r
 |i+1=>if bit p i then⟨mi (rplane p z r i).w (i % 8:Nat),mx (rplane p z r i).e (i % 8:Nat),mi (rplane p z r i).n (i / 8:Nat),mx (rplane p z r i).s (i / 8:Nat),mi (rplane p z r i).lo (z:Nat),mx (rplane p z r i).hi (z:Nat)⟩else rplane p z r i
def rst(pl:List Nat):Nat→RS
 |0=>rs0
 |z+1=>rplane (pl.getD z 0) z (rst pl z) 64
def RB(r:RS):Prop:=((0≤r.w∧r.w≤8)∧(-1≤r.e∧r.e≤8))∧((0≤r.n∧r.n≤8)∧(-1≤r.s∧r.s≤8))∧(0≤r.lo∧r.lo≤8)∧(-1≤r.hi∧r.hi≤8)
theorem rplane_bd{p z:Nat}{r:RS}(hr:RB r)(hz:z<8):∀i,i≤64→RB (rplane p z r i)
 |0,_=>hr
 |i+1,hi=>by
  have:=rplane_bd (p:=p) hr hz i (by omega)
  unfold RB at this
  unfold rplane
  split
  ·unfold RB mi mx
   dsimp only
   refine⟨⟨?_,?_⟩,⟨?_,?_⟩,?_,?_⟩<;>split<;>omega
  ·exact this
theorem rst_bd(pl:List Nat):∀z,z≤8→RB (rst pl z)
 |0,_=>by unfold RB rst rs0;dsimp only;omega
 |z+1,h=>rplane_bd (rst_bd pl z (by omega)) (by omega) 64 (Nat.le_refl _)
def rN(pl:List Nat):Nat:=((rst pl 8).hi-(rst pl 8).lo+1).toNat
def rD(pl:List Nat):Int×Int:=((rst pl 8).e-(rst pl 8).w+1,(rst pl 8).s-(rst pl 8).n+1)
def RBoxQ(pl:List Nat)(v:Value)(h:Heap):Prop:=∃a c,v= .slice a (rN pl) c∧SliceOf h 2 (.slice a (rN pl) c) (rN pl) (lrow (rN pl) [.int .i64 (rD pl).1, .int .i64 (rD pl).2])
theorem RBoxQ.gc{pl:List Nat}{h:Heap}(v:Value)(h1:Heap)(hv:noRef v=true)(q:RBoxQ pl v h1):RBoxQ pl v h:=by
 obtain⟨a,c,rfl,h2⟩:=q
 refine⟨a,c,rfl,?_⟩
 generalize rN pl=n at*
 generalize lrow n [Value.int .i64 (rD pl).1, .int .i64 (rD pl).2]=cs at*
 cases h2 with
 |nil=>exact .nil
 |mem s _=>simp[noRef,flatL,flat,scalL,scal,scal1]at hv
theorem us_iaddr{pl:List Nat}{i:Nat}(hi:i<pl.length):lget (us pl) (0+i*1)=some (.int .u64 ((pl.getD i 0:Nat):Int)):=by rw[Nat.zero_add];exact us_get hi
set_option maxHeartbeats 16000000 in
theorem rboxes73(F:FnsRZ T){h:Heap}(hr:Rdy h){pl:List Nat}(hl:pl.length=8)(hp:∀x∈pl,x<18446744073709551616):Al T 73 [.agg (us pl).toArray] h (RBoxQ pl):=by
 refine .of F.p F.f73 hr RBoxQ.gc ?_
 refine y4 ?_
 refine wO_val (a_box (vs:=us pl) (by exact rfl) (by show(us pl).toArray.toList=us pl;simp)) ?_
 have hx:Ext h (h.push (.cells (us pl) true 1)):=(Ext.refl h).push _
 have g1:(h.push (.cells (us pl) true 1)).get h.next=some (.cells (us pl) true 1):=z3 _ _
 refine yM ?_;refine y3 ?_;refine y4 ?_;refine yM ?_;refine y3 ?_
 refine y4 ?_;refine yM ?_;refine y3 ?_;refine y4 ?_;refine yM ?_;refine y3 ?_;refine y4 ?_;refine yM ?_;refine y3 ?_;refine y4 ?_
 refine yM ?_;refine y3 ?_;refine y4 ?_;refine yM ?_;refine y3 ?_
 refine wE_seq ?_;refine y4 ?_;refine yM ?_;refine y3 ?_;refine wE_block ?_
 refine wE_loop (fun m e ds h'=>∃(z:Nat) (r:RS),z≤8∧m=8-z∧rst pl z=r∧e=[(1, .pointer (some ⟨h.next,0,none⟩)),(3, .int .i64 r.w),(4, .int .i64 r.e),(5, .int .i64 r.n),(6, .int .i64 r.s),(7, .int .i64 r.lo),(8, .int .i64 r.hi),(9, .int .i64 z)]∧ds=[]∧h'=h.push (.cells (us pl) true 1))
  ⟨0,rs0,Nat.zero_le _,rfl,rfl,rfl,rfl,rfl⟩ ?_
 rintro m e ds h' ⟨z,r,hz,rfl,hst,rfl,rfl,rfl⟩
 have hbd:=rst_bd pl z hz
 rw[hst]at hbd
 by_cases hlt:z<8
 ·have hg:pl.getD z 0<18446744073709551616:=by
   rw[List.getD_eq_getElem?_getD,List.getElem?_eq_getElem (by omega)];exact hp _ (List.getElem_mem _)
  have hgz:=us_iaddr (pl:=pl) (i:=z) (by omega)
  have hnext:rst pl (z+1)=rplane (pl.getD z 0) z r 64:=by rw[rst,hst]
  generalize pl.getD z 0=p at*
  refine wE_seq ?_;refine y4 ?_;refine yM ?_;refine yt ?_;refine y3 ?_;refine yY ?_;refine wE_skip ?_;refine kS_n ?_
  refine wE_seq ?_;refine wE_block ?_;refine y4 ?_;refine yM ?_;refine y3 ?_;refine wE_block ?_
  refine wE_loop (fun m e ds h'=>∃(i:Nat) (q:RS),i≤64∧m=64-i∧rplane p z r i=q∧e=[(1, .pointer (some ⟨h.next,0,none⟩)),(3, .int .i64 q.w),(4, .int .i64 q.e),(5, .int .i64 q.n),(6, .int .i64 q.s),(7, .int .i64 q.lo),(8, .int .i64 q.hi),(9, .int .i64 z),(10, .int .i64 i)]∧ds=[]∧h'=h.push (.cells (us pl) true 1))
   ⟨0,r,Nat.zero_le _,rfl,rfl,rfl,rfl,rfl⟩ ?_
  rintro m e ds h' ⟨i,q,hi,rfl,hq,rfl,rfl,rfl⟩
  by_cases hil:i<64
  ·have hn2:(Nat.land (Nat.shiftRight p i) 1=1→rplane p z r (i+1)=⟨mi q.w (i % 8:Nat),mx q.e (i % 8:Nat),mi q.n (i / 8:Nat),mx q.s (i / 8:Nat),mi q.lo (z:Nat),mx q.hi (z:Nat)⟩)∧(¬Nat.land (Nat.shiftRight p i) 1=1→rplane p z r (i+1)=q):=
    ⟨fun hb=>by rw[rplane,hq,if_pos (show bit p i from hb)],fun hb=>by rw[rplane,hq,if_neg (show¬bit p i from hb)]⟩
   have e1:numOp .shr (.int .u64 p) (.int .i64 i)=some (.int .u64 ((Nat.shiftRight p i:Nat):Int)):=m_shr (by omega)
   have hsl:Nat.shiftRight p i<18446744073709551616:=Nat.lt_of_le_of_lt (Nat.shiftRight_le p i) hg
   have e2:numOp .and (.int .u64 ((Nat.shiftRight p i:Nat):Int)) (.int .u64 1)=some (.int .u64 ((Nat.land (Nat.shiftRight p i) 1:Nat):Int)):=m_and (b:=1) hsl (by omega)
   have e3:numOp .rem (.int .i64 i) (.int .i64 8)=some (.int .i64 ((i % 8:Nat):Int)):=m_rem8
   have e4:numOp .quo (.int .i64 i) (.int .i64 8)=some (.int .i64 ((i / 8:Nat):Int)):=m_quo8 (by omega)
   generalize Nat.shiftRight p i=sh at*
   generalize Nat.land sh 1=bt at*
   by_cases hbt:bt=1
   ·have hn2:=hn2.1 hbt
    generalize i % 8=c0 at*
    generalize i / 8=c1 at*
    refine wE_seq ?_;refine y4 ?_;refine yM ?_;refine yt ?_;refine y3 ?_;refine yY ?_;refine wE_skip ?_;refine kS_n ?_
    refine wE_seq ?_;refine wE_block ?_;refine y4 ?_;refine yM ?_;refine wO_val (a_iaddrA (by exact rfl) (by exact rfl) (by omega)) ?_;refine wO_val (a_load (by exact rfl) (by assumption) (by assumption)) ?_;refine yM ?_;refine wO_val (a_num (by exact rfl) (by exact rfl) (by with_reducible assumption)) ?_
    refine wO_val (a_num (by exact rfl) (by exact rfl) (by with_reducible assumption)) ?_;refine yt ?_;refine y3 ?_;refine yY ?_;refine y4 ?_
    refine yM ?_;refine yM ?_;refine wO_val (a_num (by exact rfl) (by exact rfl) (by with_reducible assumption)) ?_;refine wO_val (a_minI (by exact rfl) (by exact rfl)) ?_;refine yM ?_;refine y3 ?_
    refine y4 ?_;refine yM ?_;refine yM ?_;refine wO_val (a_num (by exact rfl) (by exact rfl) (by with_reducible assumption)) ?_;refine wO_val (a_max (by exact rfl) (by exact rfl)) ?_;refine yM ?_;refine y3 ?_;refine y4 ?_;refine yM ?_;refine yM ?_;refine wO_val (a_num (by exact rfl) (by exact rfl) (by with_reducible assumption)) ?_;refine wO_val (a_minI (by exact rfl) (by exact rfl)) ?_
    refine yM ?_;refine y3 ?_;refine y4 ?_;refine yM ?_;refine yM ?_;refine wO_val (a_num (by exact rfl) (by exact rfl) (by with_reducible assumption)) ?_
    refine wO_val (a_max (by exact rfl) (by exact rfl)) ?_;refine yM ?_;refine y3 ?_;refine y4 ?_;refine yM ?_;refine yM ?_
    refine wO_val (a_minI (by exact rfl) (by exact rfl)) ?_;refine yM ?_;refine y3 ?_;refine wE_region ?_;refine yM ?_;refine yM ?_;refine wO_val (a_max (by exact rfl) (by exact rfl)) ?_
    refine yM ?_;refine wO_nil ?_;refine y1 ?_;refine kB_n ?_;refine kS_n ?_;refine wE_region ?_;refine yM ?_;refine yinc ?_;refine yM ?_;refine y3 ?_
    exact⟨64-(i+1),by omega,i+1,_,by omega,rfl,hn2,rfl,rfl,rfl⟩
   ·have hn2:=hn2.2 hbt
    refine wE_seq ?_;refine y4 ?_;refine yM ?_;refine yt ?_;refine y3 ?_;refine yY ?_;refine wE_skip ?_;refine kS_n ?_
    refine wE_seq ?_;refine wE_block ?_;refine y4 ?_;refine yM ?_;refine wO_val (a_iaddrA (by exact rfl) (by exact rfl) (by omega)) ?_;refine wO_val (a_load (by exact rfl) (by assumption) (by assumption)) ?_;refine yM ?_;refine wO_val (a_num (by exact rfl) (by exact rfl) (by with_reducible assumption)) ?_
    refine wO_val (a_num (by exact rfl) (by exact rfl) (by with_reducible assumption)) ?_;refine yf ?_;refine y3 ?_;refine yX ?_;refine wE_skip ?_;refine kB_n ?_;refine kS_n ?_
    refine wE_region ?_;refine yM ?_;refine yinc ?_;refine yM ?_;refine y3 ?_
    exact⟨64-(i+1),by omega,i+1,_,by omega,rfl,hn2,rfl,rfl,rfl⟩
  ·obtain rfl:i=64:=by omega
   refine wE_seq ?_;refine y4 ?_;refine yM ?_;refine yf ?_;refine y3 ?_;refine yX ?_;refine wE_exit ?_;refine kS_e ?_
   refine kS_e ?_;refine kB_e ?_;refine kB_n ?_;refine kS_n ?_;refine wE_region ?_;refine yM ?_;refine yinc ?_;refine yM ?_;refine y3 ?_
   exact⟨8-(z+1),by omega,z+1,_,by omega,rfl,hnext.trans hq,rfl,rfl,rfl⟩
 ·obtain rfl:z=8:=by omega
  have hN:rN pl=(r.hi-r.lo+1).toNat:=by rw[rN,hst]
  have hD:rD pl=(r.e-r.w+1,r.s-r.n+1):=by rw[rD,hst]
  unfold RB at hbd
  clear hst
  obtain⟨rw',re,rn,rs,rlo,rhi⟩:=r
  dsimp only at hbd hN hD
  obtain⟨lo,rfl⟩:=Int.eq_ofNat_of_zero_le (show 0≤rlo by omega)
  refine wE_seq ?_;refine y4 ?_;refine yM ?_;refine yf ?_;refine y3 ?_;refine yX ?_;refine wE_exit ?_;refine kS_e ?_
  refine kS_e ?_;refine kB_e ?_;refine kS_n ?_;refine y4 ?_;refine yM ?_;refine y3 ?_;refine wE_seq ?_;refine y4 ?_;refine yM ?_;refine yM ?_
  refine y3 ?_;refine wE_block ?_
  refine wE_loop (fun m e ds h'=>∃(i:Nat) (v:Value),(i:Int)≤mx 0 (rhi-lo+1)∧m=(rhi-lo+1).toNat-i∧e=[(3, .int .i64 rw'),(4, .int .i64 re),(5, .int .i64 rn),(6, .int .i64 rs),(8, .int .i64 rhi),(11,v),(12, .int .i64 ((lo+i:Nat):Int))]∧ds=[]∧Ext h h'∧Own h.next h' 2 v i (lrow i [.int .i64 (re-rw'+1), .int .i64 (rs-rn+1)]))
   ⟨0,_,by unfold mx;split<;>omega,rfl,rfl,rfl,hx, .nil⟩ ?_
  rintro m e ds h' ⟨i,v,hi,rfl,rfl,rfl,hx',own⟩
  have hi':(i:Int)≤0∨(i:Int)≤rhi-lo+1:=by unfold mx at hi;split at hi<;>omega
  by_cases hlt:((lo+i:Nat):Int)≤rhi
  ·refine wE_seq ?_;refine y4 ?_;refine yM ?_;refine yM ?_;refine yt ?_;refine y3 ?_;refine yY ?_
   refine wE_skip ?_;refine kS_n ?_;refine wE_seq ?_;refine wE_block ?_;refine wE_region ?_;refine yM ?_;refine yM ?_;refine yM ?_;refine ysub ?_
   refine yadd ?_;refine yM ?_;refine yM ?_;refine ysub ?_;refine yadd ?_
   refine wO_val (a_build (by exact rfl)) ?_;refine wO_val (a_bslice (by exact rfl) (by exact rfl)) ?_
   refine wO_app1 (lo:=h.next) (c1:=[.int .i64 (re-rw'+1), .int .i64 (rs-rn+1)]) (own.ext ((Ext.refl h').push _)) (by omega) (by omega) (by omega) (by show h.next≤h'.next+1;have:=hx'.next;omega) (by omega) (by exact rfl) (by exact rfl) (src_slice (cs:=[.int .i64 (re-rw'+1), .int .i64 (rs-rn+1)]) (by(simp(disch:=first|omega|(simp only[z1,z2];omega))only[z3,z4,z5,z6,z7,z1,z2, *];exact rfl)) rfl rfl) rfl rfl ?_
   intro v' h2 own' hx2'
   have hx4:Ext h h2:=(((hx'.push (.cells [.int .i64 (re-rw'+1), .int .i64 (rs-rn+1)] true 2)).lx (Nat.le_refl _)).trans hx2').ext
   refine yM ?_;refine wO_nil ?_;refine y1 ?_;refine kB_n ?_;refine kS_n ?_;refine wE_region ?_;refine yM ?_;refine yinc ?_;refine yM ?_;refine y3 ?_
   refine⟨(rhi-lo+1).toNat-(i+1),by omega,i+1,v',?_,rfl,rfl,rfl,hx4,?_⟩
   ·unfold mx;split<;>omega
   ·rw[lrow_add];exact own'
  ·have hiN:i=rN pl:=by omega
   have hs:=own.slice (by omega)
   obtain⟨a1,c1,rfl⟩:=hs.form
   refine wE_seq ?_;refine y4 ?_;refine yM ?_;refine yM ?_;refine yf ?_;refine y3 ?_;refine yX ?_
   refine wE_exit ?_;refine kS_e ?_;refine kS_e ?_;refine kB_e ?_;refine kS_n ?_;refine y4 ?_;refine yM ?_;refine yM ?_;refine y3 ?_;refine wE_ret ?_
   refine endA_ret (vs:=[.slice a1 i c1]) (hx'.log.trans hr.log) rfl ?_
   unfold RBoxQ
   rw[hD,←hiN]
   exact⟨a1,c1,rfl,hs⟩
end Go.A.Pk
end
section
namespace Go.A.Pk
theorem le_mi{a b t:Int}:t≤mi a b↔t≤a∧t≤b:=by unfold mi;split<;>omega
theorem mx_le2{a b t:Int}:mx a b≤t↔a≤t∧b≤t:=by unfold mx;split<;>omega
theorem all_succ{k:Nat}{Q:Nat→Prop}:(∀i,i<k+1→Q i)↔(∀i,i<k→Q i)∧Q k:=
 ⟨fun h=>⟨fun i hi=>h i (by omega),h k (by omega)⟩,fun h i hi=>by
  by_cases e:i=k
  ·rw[e];exact h.2
  ·exact h.1 i (by omega)⟩
theorem eq_of_ge{x y:Int}(h:∀t,t≤x↔t≤y):x=y:=by
 have h1:=(h x).1 (Int.le_refl _)
 have h2:=(h y).2 (Int.le_refl _)
 omega
theorem eq_of_le{x y:Int}(h:∀t,x≤t↔y≤t):x=y:=by
 have h1:=(h x).1 (Int.le_refl _)
 have h2:=(h y).2 (Int.le_refl _)
 omega
theorem bit_iff(a i:Nat):bit a i↔Nat.testBit a i=true:=by
 unfold bit
 show(a>>>i)&&&1=1↔_
 rw[Nat.and_one_is_mod,Nat.shiftRight_eq_div_pow,Nat.testBit_eq_decide_div_mod_eq]
 simp
theorem not_bit(a i:Nat):Nat.land (Nat.shiftRight a i) 1=0↔ ¬bit a i:=by
 unfold bit
 show(a>>>i)&&&1=0↔ ¬ (a>>>i)&&&1=1
 rw[Nat.and_one_is_mod]
 omega
theorem bst_chr(A:Nat):∀k,(∀t,t≤(bst A k).1.1↔t≤8∧∀i,i<k→bit A i→t≤((i % 8:Nat):Int))∧(∀t,t≤(bst A k).1.2↔t≤8∧∀i,i<k→bit A i→t≤((i / 8:Nat):Int))∧
 (∀t,(bst A k).2.1≤t↔ -1≤t∧∀i,i<k→bit A i→((i % 8:Nat):Int)≤t)∧(∀t,(bst A k).2.2≤t↔ -1≤t∧∀i,i<k→bit A i→((i / 8:Nat):Int)≤t)
 |0=>by
  refine⟨fun t=> ?_,fun t=> ?_,fun t=> ?_,fun t=> ?_⟩<;>exact⟨fun h=>⟨h,fun i hi=>absurd hi (Nat.not_lt_zero i)⟩,fun h=>h.1⟩
 |k+1=>by
  obtain⟨h1,h2,h3,h4⟩:=bst_chr A k
  by_cases hb:bit A k
  ·have e:bst A (k+1)=((mi (bst A k).1.1 (k % 8:Nat),mi (bst A k).1.2 (k / 8:Nat)),(mx (bst A k).2.1 (k % 8:Nat),mx (bst A k).2.2 (k / 8:Nat))):=by
    rw[bst,if_neg (fun q=>(not_bit A k).1 q hb)]
   rw[e]
   refine⟨fun t=> ?_,fun t=> ?_,fun t=> ?_,fun t=> ?_⟩
   ·rw[le_mi,h1,all_succ,and_assoc];simp[hb]
   ·rw[le_mi,h2,all_succ,and_assoc];simp[hb]
   ·rw[mx_le2,h3,all_succ,and_assoc];simp[hb]
   ·rw[mx_le2,h4,all_succ,and_assoc];simp[hb]
  ·have e:bst A (k+1)=bst A k:=by rw[bst,if_pos ((not_bit A k).2 hb)]
   rw[e]
   refine⟨fun t=> ?_,fun t=> ?_,fun t=> ?_,fun t=> ?_⟩
   ·rw[h1,all_succ];simp[hb]
   ·rw[h2,all_succ];simp[hb]
   ·rw[h3,all_succ];simp[hb]
   ·rw[h4,all_succ];simp[hb]
theorem rplane_chr(p z:Nat)(r:RS):∀k,(∀t,t≤(rplane p z r k).w↔t≤r.w∧∀i,i<k→bit p i→t≤((i % 8:Nat):Int))∧(∀t,t≤(rplane p z r k).n↔t≤r.n∧∀i,i<k→bit p i→t≤((i / 8:Nat):Int))∧
 (∀t,(rplane p z r k).e≤t↔r.e≤t∧∀i,i<k→bit p i→((i % 8:Nat):Int)≤t)∧(∀t,(rplane p z r k).s≤t↔r.s≤t∧∀i,i<k→bit p i→((i / 8:Nat):Int)≤t)∧
 (∀t,t≤(rplane p z r k).lo↔t≤r.lo∧∀i,i<k→bit p i→t≤(z:Int))∧(∀t,(rplane p z r k).hi≤t↔r.hi≤t∧∀i,i<k→bit p i→(z:Int)≤t)
 |0=>by
  refine⟨fun t=> ?_,fun t=> ?_,fun t=> ?_,fun t=> ?_,fun t=> ?_,fun t=> ?_⟩<;>exact⟨fun h=>⟨h,fun i hi=>absurd hi (Nat.not_lt_zero i)⟩,fun h=>h.1⟩
 |k+1=>by
  obtain⟨h1,h2,h3,h4,h5,h6⟩:=rplane_chr p z r k
  by_cases hb:bit p k
  ·rw[rplane,if_pos hb]
   refine⟨fun t=> ?_,fun t=> ?_,fun t=> ?_,fun t=> ?_,fun t=> ?_,fun t=> ?_⟩
   ·rw[le_mi,h1,all_succ,and_assoc];simp[hb]
   ·rw[le_mi,h2,all_succ,and_assoc];simp[hb]
   ·rw[mx_le2,h3,all_succ,and_assoc];simp[hb]
   ·rw[mx_le2,h4,all_succ,and_assoc];simp[hb]
   ·rw[le_mi,h5,all_succ,and_assoc];simp[hb]
   ·rw[mx_le2,h6,all_succ,and_assoc];simp[hb]
  ·rw[rplane,if_neg hb]
   refine⟨fun t=> ?_,fun t=> ?_,fun t=> ?_,fun t=> ?_,fun t=> ?_,fun t=> ?_⟩
   ·rw[h1,all_succ];simp[hb]
   ·rw[h2,all_succ];simp[hb]
   ·rw[h3,all_succ];simp[hb]
   ·rw[h4,all_succ];simp[hb]
   ·rw[h5,all_succ];simp[hb]
   ·rw[h6,all_succ];simp[hb]
theorem rst_chr(pl:List Nat):∀k,(∀t,t≤(rst pl k).w↔t≤8∧∀z,z<k→∀i,i<64→bit (pl.getD z 0) i→t≤((i % 8:Nat):Int))∧(∀t,t≤(rst pl k).n↔t≤8∧∀z,z<k→∀i,i<64→bit (pl.getD z 0) i→t≤((i / 8:Nat):Int))∧
 (∀t,(rst pl k).e≤t↔ -1≤t∧∀z,z<k→∀i,i<64→bit (pl.getD z 0) i→((i % 8:Nat):Int)≤t)∧(∀t,(rst pl k).s≤t↔ -1≤t∧∀z,z<k→∀i,i<64→bit (pl.getD z 0) i→((i / 8:Nat):Int)≤t)∧
 (∀t,t≤(rst pl k).lo↔t≤8∧∀z,z<k→∀i,i<64→bit (pl.getD z 0) i→t≤(z:Int))∧(∀t,(rst pl k).hi≤t↔ -1≤t∧∀z,z<k→∀i,i<64→bit (pl.getD z 0) i→(z:Int)≤t)
 |0=>by
  refine⟨fun t=> ?_,fun t=> ?_,fun t=> ?_,fun t=> ?_,fun t=> ?_,fun t=> ?_⟩<;>exact⟨fun h=>⟨h,fun i hi=>absurd hi (Nat.not_lt_zero i)⟩,fun h=>h.1⟩
 |k+1=>by
  obtain⟨h1,h2,h3,h4,h5,h6⟩:=rst_chr pl k
  obtain⟨q1,q2,q3,q4,q5,q6⟩:=rplane_chr (pl.getD k 0) k (rst pl k) 64
  rw[rst]
  refine⟨fun t=> ?_,fun t=> ?_,fun t=> ?_,fun t=> ?_,fun t=> ?_,fun t=> ?_⟩
  ·rw[q1,h1,and_assoc];exact and_congr Iff.rfl (all_succ (k:=k)).symm
  ·rw[q2,h2,and_assoc];exact and_congr Iff.rfl (all_succ (k:=k)).symm
  ·rw[q3,h3,and_assoc];exact and_congr Iff.rfl (all_succ (k:=k)).symm
  ·rw[q4,h4,and_assoc];exact and_congr Iff.rfl (all_succ (k:=k)).symm
  ·rw[q5,h5,and_assoc];exact and_congr Iff.rfl (all_succ (k:=k)).symm
  ·rw[q6,h6,and_assoc];exact and_congr Iff.rfl (all_succ (k:=k)).symm
theorem bit_zero(i:Nat):¬bit 0 i:=by rw[bit_iff];simp
theorem pst_bit(pl:List Nat)(i:Nat):∀k,bit (pst pl k).1 i↔ ∃z,z<k∧bit (pl.getD z 0) i
 |0=>⟨fun h=>absurd h (bit_zero i),fun⟨z,h,_⟩=>absurd h (Nat.not_lt_zero z)⟩
 |k+1=>by
  have ih:=pst_bit pl i k
  have hs:(∃z,z<k+1∧bit (pl.getD z 0) i)↔(∃z,z<k∧bit (pl.getD z 0) i)∨bit (pl.getD k 0) i:=by
   constructor
   ·rintro⟨z,hz,hb⟩
    by_cases e:z=k
    ·exact .inr (e▸hb)
    ·exact .inl ⟨z,by omega,hb⟩
   ·rintro(⟨z,hz,hb⟩|hb)
    ·exact⟨z,by omega,hb⟩
    ·exact⟨k,by omega,hb⟩
  rw[hs,←ih,pst]
  by_cases h0:pl.getD k 0=0
  ·rw[if_pos h0,h0]
   exact⟨.inl,fun h=>h.elim id fun h=>absurd h (bit_zero i)⟩
  ·rw[if_neg h0]
   show bit (Nat.lor (pst pl k).1 (pl.getD k 0)) i↔_
   rw[bit_iff,bit_iff,bit_iff]
   show(((pst pl k).1|||pl.getD k 0).testBit i=true)↔_
   rw[Nat.testBit_or,Bool.or_eq_true]
theorem has_bit{p:Nat}(hp:p<18446744073709551616):(∃i,i<64∧bit p i)↔p≠0:=by
 constructor
 ·rintro⟨i,_,hb⟩ rfl
  exact bit_zero i hb
 ·intro h
  obtain⟨i,hi⟩:=Nat.exists_testBit_of_ne_zero h
  refine⟨i,?_,(bit_iff p i).2 hi⟩
  by_cases h64:i<64
  ·exact h64
  ·have:p.testBit i=false:=Nat.testBit_lt_two_pow (Nat.lt_of_lt_of_le hp (Nat.pow_le_pow_right (n:=2) (by omega) (show 64≤i by omega)))
   rw[this]at hi;cases hi
theorem pst_chr(pl:List Nat):∀k,((pst pl k).2.1= -1∧(pst pl k).2.2= -1∧∀z,z<k→pl.getD z 0=0)∨
 ∃lo hi:Nat,(pst pl k).2.1=lo∧(pst pl k).2.2=hi∧lo<k∧hi<k∧pl.getD lo 0≠0∧pl.getD hi 0≠0∧(∀z,z<lo→pl.getD z 0=0)∧∀z,hi<z→z<k→pl.getD z 0=0
 |0=> .inl ⟨rfl,rfl,fun z hz=>absurd hz (Nat.not_lt_zero z)⟩
 |k+1=>by
  have ih:=pst_chr pl k
  rw[pst]
  by_cases h0:pl.getD k 0=0
  ·rw[if_pos h0]
   rcases ih with⟨h1,h2,h3⟩|⟨lo,hi,h1,h2,h3,h4,h5,h6,h7,h8⟩
   ·exact .inl ⟨h1,h2,all_succ.2 ⟨h3,h0⟩⟩
   ·refine .inr ⟨lo,hi,h1,h2,by omega,by omega,h5,h6,h7,fun z hz hk=> ?_⟩
    by_cases e:z=k
    ·rw[e];exact h0
    ·exact h8 z hz (by omega)
  ·rw[if_neg h0]
   right
   rcases ih with⟨h1,h2,h3⟩|⟨lo,hi,h1,h2,h3,h4,h5,h6,h7,h8⟩
   ·refine⟨k,k,?_,rfl,by omega,by omega,h0,h0,h3,fun z hz hk=>by omega⟩
    show(if(pst pl k).2.1<0 then(k:Int)else _)=k
    rw[if_pos (by omega)]
   ·refine⟨lo,k,?_,rfl,by omega,by omega,h5,h0,h7,fun z hz hk=>by omega⟩
    show(if(pst pl k).2.1<0 then(k:Int)else(pst pl k).2.1)=lo
    rw[if_neg (by omega),h1]
theorem rbox_eq{pl:List Nat}(hp:∀z,pl.getD z 0<18446744073709551616):rN pl=boxN pl∧(boxN pl≠0→rD pl=boxD pl):=by
 obtain⟨h1,h2,h3,h4,h5,h6⟩:=rst_chr pl 8
 obtain⟨q1,q2,q3,q4⟩:=bst_chr (pst pl 8).1 64
 have sw:∀P:Nat→Prop,(∀z,z<8→∀i,i<64→bit (pl.getD z 0) i→P i)↔ ∀i,i<64→bit (pst pl 8).1 i→P i:=fun P=>
  ⟨fun h i hi hb=>by obtain⟨z,hz,hb⟩:=(pst_bit pl i 8).1 hb;exact h z hz i hi hb,fun h z hz i hi hb=>h i hi ((pst_bit pl i 8).2 ⟨z,hz,hb⟩)⟩
 have ew:(rst pl 8).w=(bst (pst pl 8).1 64).1.1:=eq_of_ge fun t=>by rw[h1,q1,sw fun i=>t≤((i % 8:Nat):Int)]
 have en:(rst pl 8).n=(bst (pst pl 8).1 64).1.2:=eq_of_ge fun t=>by rw[h2,q2,sw fun i=>t≤((i / 8:Nat):Int)]
 have ee:(rst pl 8).e=(bst (pst pl 8).1 64).2.1:=eq_of_le fun t=>by rw[h3,q3,sw fun i=>((i % 8:Nat):Int)≤t]
 have es:(rst pl 8).s=(bst (pst pl 8).1 64).2.2:=eq_of_le fun t=>by rw[h4,q4,sw fun i=>((i / 8:Nat):Int)≤t]
 have nz:∀z,pl.getD z 0≠0→∃i,i<64∧bit (pl.getD z 0) i:=fun z h=>(has_bit (hp z)).2 h
 have bz:∀z i,pl.getD z 0=0→¬bit (pl.getD z 0) i:=fun z i h=>by rw[h];exact bit_zero i
 refine⟨?_,fun _=>by rw[rD,boxD,ew,en,ee,es]⟩
 rcases pst_chr pl 8 with⟨p1,p2,p3⟩|⟨lo,hi,p1,p2,p3,p4,p5,p6,p7,p8⟩
 ·have e1:=(h5 8).2 ⟨by omega,fun z hz i _ hb=>absurd hb (bz z i (p3 z hz))⟩
  have e2:=(h6 (-1)).2 ⟨by omega,fun z hz i _ hb=>absurd hb (bz z i (p3 z hz))⟩
  rw[rN,boxN,if_pos (by omega)]
  omega
 ·have l1:(lo:Int)≤(rst pl 8).lo:=(h5 lo).2 ⟨by omega,fun z hz i _ hb=>by
   by_cases hlt:z<lo
   ·exact absurd hb (bz z i (p7 z hlt))
   ·omega⟩
  have l2:(rst pl 8).lo≤lo:=by
   obtain⟨i,hi,hb⟩:=nz lo p5
   exact((h5 _).1 (Int.le_refl _)).2 lo p3 i hi hb
  have l3:(rst pl 8).hi≤hi:=(h6 hi).2 ⟨by omega,fun z hz i _ hb=>by
   by_cases hlt:hi<z
   ·exact absurd hb (bz z i (p8 z hlt hz))
   ·omega⟩
  have l4:(hi:Int)≤(rst pl 8).hi:=by
   obtain⟨i,hi',hb⟩:=nz hi p6
   exact((h6 _).1 (Int.le_refl _)).2 hi p4 i hi' hb
  rw[rN,boxN,if_neg (by omega),p1,p2]
  omega
theorem RBoxQ.box{pl:List Nat}(hp:∀x∈pl,x<18446744073709551616){v:Value}{h:Heap}(q:RBoxQ pl v h):BoxQ pl v h:=by
 have hp':∀z,pl.getD z 0<18446744073709551616:=fun z=>by
  rw[List.getD_eq_getElem?_getD]
  by_cases hz:z<pl.length
  ·rw[List.getElem?_eq_getElem hz];exact hp _ (List.getElem_mem _)
  ·rw[List.getElem?_eq_none (by omega)];show 0<_;omega
 obtain⟨e1,e2⟩:=rbox_eq hp'
 obtain⟨a,c,h1,h2⟩:=q
 have e3:lrow (rN pl) [Value.int .i64 (rD pl).1, .int .i64 (rD pl).2]=boxL pl:=by
  unfold boxL
  rw[e1]
  by_cases h0:boxN pl=0
  ·rw[h0];rfl
  ·rw[e2 h0]
 rw[e3,e1]at h2
 rw[e1]at h1
 exact⟨a,c,h1,h2⟩
end Go.A.Pk
end
