/- Walks of functions, plain laws, the table. -/
import Derived.Test.YtgffeapobcfigaaGreatDoorPU0
import Derived.Test.YtgffeapobcfigaaGreatDoorPD
import Derived.Sort.Row
import Derived.Sort.Grow
set_option linter.all false
section
set_option maxRecDepth 100000
namespace Go.A.Pk
variable {T:Nat→Option AFunc}
def ints(l:List Int):List Value:=l.map fun x=> .int .i64 x
end Go.A.Pk
end
section
set_option maxRecDepth 100000
namespace Go.A.Pk
variable {T:Nat→Option AFunc}
abbrev InS(h:Heap)(v:Value)(l:List Int):Prop:=SliceOf h 1 v l.length (ints l)
theorem InS.elem{h:Heap}{a:Option Addr}{n c:Nat}{l:List Int}(s:InS h (.slice a n c) l){i:Nat}{x:Int}(hi:l[i]? =some x):
 ∃b o vs own t,a=some ⟨b,o,none⟩∧h.get b=some (.cells vs own t)∧lget vs (o+i*1)=some (.int .i64 x):=by
 have hlt:=(List.getElem?_eq_some_iff.1 hi).1
 rcases SliceOf.inv s with⟨_,_,h0,_⟩|⟨b,o,cap,hv,s1,hc⟩
 ·omega
 ·cases hv
  obtain⟨vs,own,t,g1,g2⟩:=s1.obj
  refine⟨b,o,vs,own,t,rfl,g1,?_⟩
  rw[lget_eq]
  have e:(ints l)[i]? =some (.int .i64 x):=by simp[ints,hi]
  rw[←g2,ltake_eq,ldrop_eq,List.getElem?_take_of_lt (by omega),List.getElem?_drop]at e
  rw[Nat.mul_one];exact e
theorem InS.len{h:Heap}{a:Option Addr}{n c:Nat}{l:List Int}(s:InS h (.slice a n c) l):n=l.length:=by
 rcases SliceOf.inv s with⟨_,hv,h0,_⟩|⟨b,o,cap,hv,s1,hc⟩
 ·cases hv;exact h0.symm
 ·cases hv;rfl
end Go.A.Pk
end
section
set_option maxRecDepth 100000
namespace Go.A.Pk
variable {T:Nat→Option AFunc}
def ceN(n:Nat):Ce:=⟨(n % 8:Nat),(n / 8 % 8:Nat),(n / 64:Nat)⟩
def ceS(l:List Ce):List Value:=l.flatMap ceL
def cellsTo(s:List Nat)(n:Nat):List Ce:=((List.range n).map ceN).filter (sHas s)
theorem cellsTo_step(s:List Nat)(n:Nat):cellsTo s (n+1)=cellsTo s n++(if sHas s (ceN n)then [ceN n]else []):=by
 unfold cellsTo
 rw[List.range_succ,List.map_append,List.filter_append]
 congr 1
 simp only[List.map_cons,List.map_nil,List.filter_cons,List.filter_nil]
theorem cellsTo_le(s:List Nat)(n:Nat):(cellsTo s n).length≤n:=by
 unfold cellsTo
 exact Nat.le_trans (List.length_filter_le ..) (by simp)
end Go.A.Pk
end
section
set_option maxRecDepth 100000
namespace Go.A.Pk
def planeC(s:List Nat)(z:Nat):List Ce:=(bitsOf (s.getD z 0)).map (ceOf z)
theorem ceN_of{z i:Nat}(hi:i<64):ceN (z*64+i)=ceOf z i:=by
 unfold ceN ceOf
 rw[show(z*64+i) % 8=i % 8 by omega,show(z*64+i) / 8 % 8=i / 8 by omega,show(z*64+i) / 64=z by omega]
theorem cellsTo_plane(s:List Nat){z:Nat}(hz:z<8):cellsTo s ((z+1)*64)=cellsTo s (z*64)++planeC s z:=by
 unfold cellsTo planeC bitsOf
 rw[show(z+1)*64=z*64+64 by omega,List.range_add,List.map_append,List.filter_append]
 congr 1
 rw[List.map_map,List.filter_map]
 have e1:(List.range 64).filter (sHas s ∘ (ceN ∘ fun x=>z*64+x))=(List.range 64).filter (Nat.testBit (s.getD z 0)):=by
  apply List.filter_congr
  intro i hi
  have hi:=List.mem_range.1 hi
  show sHas s (ceN (z*64+i))=_
  rw[ceN_of hi,sHas_of hz hi]
 rw[e1]
 apply List.map_congr_left
 intro i hi
 have hi:=List.mem_range.1 (List.mem_filter.1 hi).1
 exact ceN_of hi
end Go.A.Pk
end
section
set_option maxRecDepth 100000
namespace Go.A.Pk
theorem getD_zip{f:Nat→Nat→Nat}{a b:List Nat}(ha:IsS a)(hb:IsS b){z:Nat}(hz:z<8):(List.zipWith f a b).getD z 0=f (a.getD z 0) (b.getD z 0):=by
 have e1:=getD_at (s:=a) (i:=z) (by rw[ha.len];exact hz)
 have e2:=getD_at (s:=b) (i:=z) (by rw[hb.len];exact hz)
 rw[List.getD_eq_getElem?_getD,List.getElem?_zipWith,e1,e2];rfl
theorem sHas_out{s:List Nat}{c:Ce}(hc:¬inG c=true):sHas s c=false:=by
 unfold sHas
 rw[Bool.not_eq_true]at hc
 rw[hc];rfl
theorem sHas_join{a b:List Nat}(ha:IsS a)(hb:IsS b)(c:Ce):sHas (sJoin a b) c=(sHas a c||sHas b c):=by
 by_cases hc:inG c=true
 ·obtain⟨z,i,hz,hi,rfl⟩:=inG_form hc
  rw[sHas_of hz hi,sHas_of hz hi,sHas_of hz hi]
  unfold sJoin sMap
  rw[getD_zip ha hb hz]
  exact Nat.testBit_or ..
 ·rw[sHas_out hc,sHas_out hc,sHas_out hc];rfl
theorem sHas_less{a b:List Nat}(ha:IsS a)(hb:IsS b)(c:Ce):sHas (sLess a b) c=(sHas a c&& !sHas b c):=by
 by_cases hc:inG c=true
 ·obtain⟨z,i,hz,hi,rfl⟩:=inG_form hc
  rw[sHas_of hz hi,sHas_of hz hi,sHas_of hz hi]
  unfold sLess sMap
  rw[getD_zip ha hb hz]
  simp only[aNot]
  show Nat.testBit (a.getD z 0 ^^^ (a.getD z 0&&&b.getD z 0)) i=_
  rw[Nat.testBit_xor,Nat.testBit_and]
  cases (a.getD z 0).testBit i<;>cases (b.getD z 0).testBit i<;>rfl
 ·rw[sHas_out hc,sHas_out hc];rfl
theorem sHas_s0(c:Ce):sHas s0 c=false:=by
 by_cases hc:inG c=true
 ·obtain⟨z,i,hz,hi,rfl⟩:=inG_form hc
  rw[sHas_of hz hi]
  have:∀z:Fin 8,s0.getD z.val 0=0:=by decide
  rw[this ⟨z,hz⟩]
  exact Nat.zero_testBit i
 ·exact sHas_out hc
theorem mem_cells{s:List Nat}{n:Nat}{c:Ce}(h:c∈cellsTo s n):sHas s c=true:=(List.mem_filter.1 h).2
theorem refR_ck{l:List Rd}{r:Rd}(h:refR l r=0):ckOk r=true:=by
 unfold refR at h
 split at h
 ·cases h
 ·split at h
  ·cases h
  ·rename_i _ h2
   unfold ckR at h2
   cases hk:ckOk r with
   |true=>rfl
   |false=>rw[hk]at h2;simp at h2
theorem chkF_all{l:List Rd}:∀m i,i+m=l.length→(chkF refR l m i).2=0→∀j r,i≤j→l[j]? =some r→refR (l.take j) r=0
 |0,i,hi,_,j,r,hj,hr=>by
  have:=(List.getElem?_eq_some_iff.1 hr).1
  omega
 |m+1,i,hi,h,j,r,hj,hr=>by
  have hlt:i<l.length:=by omega
  have e3:l[i]? =some l[i]:=List.getElem?_eq_getElem hlt
  rw[chkF,e3]at h
  dsimp only at h
  by_cases hz:refR (l.take i) l[i]=0
  ·rw[if_neg (fun q=>q hz)]at h
   rcases Nat.lt_or_ge i j with hij|hij
   ·exact chkF_all m (i+1) (by omega) h j r hij hr
   ·obtain rfl:i=j:=by omega
    rw[e3]at hr;cases hr;exact hz
  ·rw[if_pos hz]at h
   exact(hz h).elim
theorem chk_all{l:List Rd}(h:(chkR refR l).2=0){j:Nat}{r:Rd}(hr:l[j]? =some r):refR (l.take j) r=0:=
 chkF_all l.length 0 (by omega) h j r (Nat.zero_le _) hr
structure Dou where
 c:Ce
 ids:List Int
 is:Bool
 e:Int
def c0:Ce:=⟨0,0,0⟩
def DouQ(p:Dou)(v:Value)(h:Heap):Prop:=∃u,v= .tuple #[ceV p.c,u, .bool p.is, .int .i64 p.e]∧InS h u p.ids
theorem DouQ.flat{p:Dou}{v:Value}{h h':Heap}(hv:noRef v=true)(q:DouQ p v h):DouQ p v h':=by
 obtain⟨u,rfl,s⟩:=q
 refine⟨u,rfl,?_⟩
 rcases SliceOf.inv s with⟨c',rfl,h0,e1⟩|⟨b,o,cap',rfl,s1,hc⟩
 ·show SliceOf _ _ _ _ _
  rw[h0,e1];exact .nil
 ·simp[noRef,flatL,scalL,ceV,flat]at hv
  cases hv.2.1
theorem InS.nil{h:Heap}{c:Nat}:InS h (.slice none 0 c) []:=SliceOf.nil
theorem DouQ.none{h:Heap}(p:Dou)(hi:p.ids=[]){c:Nat}:DouQ p (.tuple #[ceV p.c, .slice none 0 c, .bool p.is, .int .i64 p.e]) h:=⟨_,rfl,by rw[hi];exact .nil⟩
end Go.A.Pk
end
section
set_option maxRecDepth 100000
namespace Go.A.Pk
variable {T:Nat→Option AFunc}
section
open I
end
theorem WE.genC{base:Nat}{rnd:Option Nat}{c:ACode}{Q:XQ}{e:Env}{ds:Dfs}{h:Heap}(hK:∀hA,hA=h→WE T base rnd c Q e ds hA):WE T base rnd c Q e ds h:=hK h rfl
theorem cells_pre(s:List Nat){n:Nat}:∀m,∃r,cellsTo s (n+m)=cellsTo s n++r
 |0=>⟨[],by simp⟩
 |m+1=>by
  obtain⟨r,e⟩:=cells_pre s (n:=n) m
  exact⟨r++(if sHas s (ceN (n+m))then [ceN (n+m)]else []),by rw[←Nat.add_assoc,cellsTo_step,e,List.append_assoc]⟩
structure FnsCp (T:Nat→Option AFunc):Prop where
 p:primAS T
 f123:T 123=some f123
 f213:T 213=some f213
 f214:T 214=some f214
 f264:T 264=some f264
 f265:T 265=some f265
 f266:T 266=some f266
structure PCe (l q:Nat) (H0:Heap) (L:AObj) (done:List Ce) (H:Heap):Prop where
 old:∀z,z<q→H.get z=H0.get z
 loop:H.get l=some L
 nx:l<H.next
 val:∃v,H.get q=some (.cells [v] true 1)∧Own (l+1) H 3 v done.length (ceS done)
theorem PCe.stable{l q:Nat}{H0:Heap}{L:AObj}(hq:q<l)(done:List Ce)(H H':Heap)(p:PCe l q H0 L done H)(hn:H.next≤H'.next)(h:∀x,x<H.next→H'.get x=H.get x):PCe l q H0 L done H':=by
 obtain⟨p1,p2,p3,v,p4,p5⟩:=p
 exact⟨fun z hz=>(h z (by omega)).trans (p1 z hz),(h l p3).trans p2,by omega,v,(h q (by omega)).trans p4,p5.keep hn fun z _ hz=>h z hz⟩
def fnC(q0:Nat):Value:= .func (.func 265) #[] #[.pointer (some ⟨q0,0,none⟩)]
theorem Own.flat{lo lo' sz n:Nat}{h h':Heap}{v:Value}{cs:List Value}(hv:noRef v=true)(s:Own lo h sz v n cs):Own lo' h' sz v n cs:=by
 cases s with
 |nil=>exact .nil
 |full=>cases hv
theorem cells214(F:FnsCp T){h:Heap}(hr:Rdy h){s:List Nat}(hs:IsS s):
 Al T 214 [sv s] h fun v h'=>∃q,v=fnC q∧h'.get q=some (.cells (us s) true 1)∧h.next≤q∧q<h'.next:=by
 refine .of F.p F.f214 hr ?_ ?_
 ·rintro v h1 hv ⟨q,rfl,_⟩
  cases hv
 refine y4 ?_;refine yB ?_;refine yM ?_;refine y3 ?_;refine y4 ?_;refine wO_val (a_mkFunc (by exact rfl) (by exact rfl)) ?_
 refine yM ?_;refine y3 ?_;refine wE_ret ?_
 exact endA_ret hr.log rfl ⟨h.next,rfl,z3 _ _,Nat.le_refl _,Nat.lt_succ_self _⟩
end Go.A.Pk
end
section
set_option maxRecDepth 100000
namespace Go.A.Pk
variable {T:Nat→Option AFunc}
abbrev CeQ(h:Heap)(v:Value)(l:List Ce):Prop:=SliceOf h 3 v l.length (ceS l)
theorem CeQ.head{h:Heap}{a:Option Addr}{n c:Nat}{x:Ce}{l:List Ce}(s:CeQ h (.slice a n c) (x::l)):
 ∃b o vs own t,a=some ⟨b,o,none⟩∧h.get b=some (.cells vs own t)∧ltake 3 (ldrop (o+0*3) vs)=ceL x:=by
 rcases SliceOf.inv s with⟨_,_,h0,_⟩|⟨b,o,cap,hv,s1,hc⟩
 ·simp at h0
 ·cases hv
  obtain⟨vs,own,t,g1,g2⟩:=s1.obj
  refine⟨b,o,vs,own,t,rfl,g1,?_⟩
  have e:(ceS (x::l)).take 3=ceL x:=rfl
  rw[←e,←g2]
  simp only[ltake_eq,ldrop_eq,List.take_take,List.length_cons,Nat.zero_mul,Nat.add_zero]
  rw[Nat.min_eq_left (by omega)]
end Go.A.Pk
end
section
set_option maxRecDepth 100000
namespace Go.A.Pk
variable {T:Nat→Option AFunc}
inductive OwE (lo:Nat) (h:Heap) (sz:Nat):Value→Nat→List Value→Prop
 |own {v n cs}:Own lo h sz v n cs→OwE lo h sz v n cs
 |lit {b}:lo≤b→b<h.next→h.get b=some (.cells [] true sz)→OwE lo h sz (.slice (some ⟨b,0,none⟩) 0 0) 0 []
theorem OwE.keep{lo sz n:Nat}{h h':Heap}{v:Value}{cs:List Value}(s:OwE lo h sz v n cs)(hn:h.next≤h'.next)(ha:∀z,lo≤z→z<h.next→h'.get z=h.get z):OwE lo h' sz v n cs:=by
 cases s with
 |own s=>exact .own (s.keep hn ha)
 |lit h1 h2 h3=>exact .lit h1 (by omega) ((ha _ h1 h2).trans h3)
theorem OwE.ext{lo sz n:Nat}{h h':Heap}{v:Value}{cs:List Value}(s:OwE lo h sz v n cs)(x:Ext h h'):OwE lo h' sz v n cs:=s.keep x.next fun z _ hz=>x.old z hz
section
variable {base:Nat} {rnd:Option Nat} {Q:XQ} {e:Env} {ds:Dfs} {h:Heap} {dst:Option Nat} {os:List AOper} {x y:Operand} {v u:Value} {lo sz n i:Nat} {cs:List Value} {k:IntKind}
end
def ResQ(lo:Nat)(p:List Int×Int)(v:Value)(h:Heap):Prop:=∃u,v= .tuple #[u, .int .i64 p.2]∧Own lo h 1 u p.1.length (ints p.1)
theorem ResQ.flat{lo:Nat}{p:List Int×Int}{v:Value}{h h':Heap}(hv:noRef v=true)(q:ResQ lo p v h):ResQ lo p v h':=by
 obtain⟨u,rfl,s⟩:=q
 refine⟨u,rfl,?_⟩
 generalize p.1.length=m at s⊢
 generalize ints p.1=cs at s⊢
 cases s with
 |nil=>exact .nil
 |full h1 h2 h3 h4 h5=>
  simp[noRef,flatL,scalL,flat,scal,scal1]at hv
  cases hv.1
end Go.A.Pk
end
section
set_option maxRecDepth 100000
namespace Go.A.Pk
variable {T:Nat→Option AFunc}
theorem lv_same:∀(l:List Nat),leavesEq (lrep l.length (.i .u64)) (us l) (us l)=some true
 |[]=>rfl
 |x::l=>by
  have:=lv_int (k:= .u64) (a:=(x:Int)) (b:=(x:Int)) (lv_same l)
  show leavesEq (.i .u64::lrep l.length (.i .u64)) (.int .u64 (x:Int)::us l) (.int .u64 (x:Int)::us l)=some true
  simpa using this
theorem w_leaves{w:List Nat×List Nat}(h:IsW w):leavesEq (lrep 16 (.i .u64)) (wL w).toArray.toList (wL w).toArray.toList=some true:=by
 rw[List.toList_toArray]
 have e:wL w=us (w.1++w.2):=by simp[wL,us]
 have:=lv_same (w.1++w.2)
 rw[List.length_append,h.a.len,h.b.len]at this
 rw[e];exact this
end Go.A.Pk
end
section
set_option maxRecDepth 100000
namespace Go.A.Pk
theorem sHas_meet{a b:List Nat}(ha:IsS a)(hb:IsS b)(c:Ce):sHas (sMeet a b) c=(sHas a c&&sHas b c):=by
 by_cases hc:inG c=true
 ·obtain⟨z,i,hz,hi,rfl⟩:=inG_form hc
  rw[sHas_of hz hi,sHas_of hz hi,sHas_of hz hi]
  unfold sMeet sMap
  rw[getD_zip ha hb hz]
  exact Nat.testBit_and ..
 ·rw[sHas_out hc,sHas_out hc,sHas_out hc];rfl
theorem has_ext{a b:List Nat}(ha:IsS a)(hb:IsS b)(h:∀z i,z<8→i<64→sHas a (ceOf z i)=sHas b (ceOf z i)):a=b:=by
 apply List.ext_getElem?
 intro z
 rcases Nat.lt_or_ge z 8 with hz|hz
 ·rw[getD_at (by rw[ha.len];exact hz),getD_at (by rw[hb.len];exact hz)]
  congr 1
  apply Nat.eq_of_testBit_eq
  intro i
  rcases Nat.lt_or_ge i 64 with hi|hi
  ·have:=h z i hz hi
   rwa [sHas_of hz hi,sHas_of hz hi]at this
  ·have big:∀x:Nat,x<U64→x.testBit i=false:=fun x hx=>Nat.testBit_lt_two_pow (Nat.lt_of_lt_of_le hx (show 2 ^ 64≤2 ^ i from Nat.pow_le_pow_right (by omega) hi))
   rw[big _ (ha.getD_lt z),big _ (hb.getD_lt z)]
 ·rw[List.getElem?_eq_none (by rw[ha.len];exact hz),List.getElem?_eq_none (by rw[hb.len];exact hz)]
theorem chkF_zero{l:List Rd}(h:∀j r,l[j]? =some r→refR (l.take j) r=0):∀m i,(chkF refR l m i).2=0
 |0,_=>rfl
 |m+1,i=>by
  rw[chkF]
  cases hi:l[i]? with
  |none=>rfl
  |some r=>
   dsimp only
   rw[if_neg (fun q=>q (h i r hi))]
   exact chkF_zero h m (i+1)
theorem refR_ok{l:List Rd}{r:Rd}(h:refR l r=0):l.length<200∧ckOk r=true∧(∀q∈l,q.id≠r.id)∧lateR l r=false:=by
 have hck:=refR_ck h
 unfold refR at h
 split at h
 ·cases h
 ·rename_i h1
  split at h
  ·cases h
  ·split at h
   ·cases h
   ·rename_i h3
    split at h
    ·cases h
    ·rename_i h4
     exact⟨by omega,hck,fun q hq e=>h3 (List.any_eq_true.2 ⟨q,hq,decide_eq_true e⟩),by simpa using h4⟩
theorem late_step{l:List Rd}(h:(chkR refR l).2=0){j:Nat}(hj:j+1<l.length):l[j].known≤l[j+1].known:=by
 have h1:=(refR_ok (chk_all h (List.getElem?_eq_getElem hj))).2.2.2
 unfold lateR at h1
 have e:(l.take (j+1)).getLast? =some l[j]:=by
  rw[List.getLast?_eq_getElem?,List.length_take,Nat.min_eq_left (by omega)]
  simp
 rw[e]at h1
 have:=of_decide_eq_false h1
 omega
theorem late_all{l:List Rd}(h:(chkR refR l).2=0){i:Nat}:∀{k:Nat} (hk:i+k<l.length),(l[i]'(by omega)).known≤l[i+k].known
 |0,_=>Int.le_refl _
 |k+1,hk=>Int.le_trans (late_all h (k:=k) (by omega)) (late_step h (j:=i+k) (by omega))
theorem chk_pair{l:List Rd}(h:(chkR refR l).2=0):l.Pairwise fun a b=>a.id≠b.id∧a.known≤b.known:=by
 refine List.pairwise_iff_getElem.2 fun i j hi hj hij=>⟨?_,?_⟩
 ·refine(refR_ok (chk_all h (List.getElem?_eq_getElem hj))).2.2.1 l[i] ?_
  refine List.mem_of_getElem? (i:=i) ?_
  rw[List.getElem?_take_of_lt hij,List.getElem?_eq_getElem hi]
 ·obtain⟨k,rfl⟩:∃k,j=i+k:=⟨j-i,by omega⟩
  exact late_all h hj
end Go.A.Pk
end
section
set_option maxRecDepth 100000
namespace Go.A.Pk
variable {T:Nat→Option AFunc}
set_option maxHeartbeats 8000000 in
theorem cells265X(F:FnsCp T){h:Heap}(hr:Rdy h){q0 l N lo:Nat}{s:List Nat}(hs:IsS s){P:List Ce→Heap→Prop}{S:Heap→Prop}(hN:N≤h.next)(hlo:lo≤h.next)(hlN:l<N)(Y:YldX T lo N l ceV (cellsTo s 512) P S)
 (g0:h.get q0=some (.cells (us s) true 1))(htab:∀d H,P d H→Tab H)(h0:P [] h):
 GrX T 265 [.func (.yield l) #[] #[], .pointer (some ⟨q0,0,none⟩)] h lo (P (cellsTo s 512)) S:=by
 have hlb:l<h.next:=by omega
 have hp:=F.p
 have k8:=us_llen hs.len
 have k9:=us_take8 hs.len
 refine GrX.of (l:=l) hp F.f265 hlo hlb (fun h1 h2 hn ha q=>Y.stable _ _ _ q (Nat.le_trans hN hn) fun x hx=>ha x (by omega)) Y.sloop ?_
 refine y4 ?_;refine wO_val (a_loadN (by exact rfl) (by assumption) (by assumption) (by assumption)) ?_;refine yM ?_;refine y3 ?_;refine wE_block ?_
 refine wE_loop (fun k e ds h'=>∃z:Nat,z≤8∧8-z=k∧e=[(0, .func (.yield l) #[] #[]),(6,sv s),(7, .int .i64 (z:Nat))]∧ds=[]∧Lk lo h h'∧P (cellsTo s (z*64)) h')
  ⟨0,by omega,rfl,rfl,rfl, .refl _ _,h0⟩ ?_
 rintro k e ds h' ⟨z,hz8,rfl,rfl,rfl,hk,hP⟩
 by_cases hz:z<8
 ·have e1:lget (us s).toArray.toList (z*1)=some (.int .u64 ((s.getD z 0:Nat):Int)):=by
   rw[List.toList_toArray,Nat.mul_one,lget_eq]
   unfold us
   rw[List.getElem?_map,getD_at (by rw[hs.len];exact hz)];rfl
  have hx0:=hs.getD_lt z
  obtain⟨rest,hrest⟩:∃r,cellsTo s 512=cellsTo s (z*64)++planeC s z++r:=by
   obtain⟨r,e⟩:=cells_pre s (n:=(z+1)*64) (512-(z+1)*64)
   rw[show(z+1)*64+(512-(z+1)*64)=512 by omega,cellsTo_plane s hz]at e
   exact⟨r,e⟩
  have hplane:=cellsTo_plane s hz
  have hpl:planeC s z=(bitsOf (s.getD z 0)).map (ceOf z):=rfl
  generalize hx:s.getD z 0=x0 at*
  generalize planeC s z=pl at*
  refine y4 ?_;refine yt ?_;refine y3 ?_;refine wE_seq ?_;refine yY ?_;refine wE_skip ?_;refine kS_n ?_;refine wE_seq ?_;refine wE_block ?_;refine y4 ?_;refine yM ?_;refine wO_val (a_idxA (by exact rfl) (by exact rfl) (by omega) (by assumption)) ?_;refine yM ?_;refine yM ?_;refine y3 ?_;refine wE_block ?_
  refine wE_loop (fun k e ds h''=>∃(x:Nat) (d:List Ce),x<U64∧d++(bitsOf x).map (ceOf z)=pl∧(bitsOf x).length=k∧e=[(0, .func (.yield l) #[] #[]),(3, .int .i64 (z:Nat)),(4, .int .u64 (x:Nat)),(6,sv s),(7, .int .i64 (z:Nat))]∧ds=[]∧Lk lo h h''∧P (cellsTo s (z*64)++d) h'')
   ⟨x0,[],hx0,by rw[hpl];rfl,rfl,rfl,rfl,hk,by rw[List.append_nil];exact hP⟩ ?_
  clear hP hk h'
  rintro k e ds h' ⟨x,d,hxl,hd,rfl,rfl,rfl,hk,hP⟩
  by_cases hx:x=0
  ·subst hx
   rw[bitsOf_zero]at hd
   have hd:d=pl:=by simpa using hd
   subst hd
   rw[←hplane]at hP
   refine wE_seq ?_;refine y4 ?_;refine yM ?_;refine yf ?_;refine y3 ?_;refine yX ?_;refine wE_exit ?_;refine kS_e ?_
   refine kS_e ?_;refine kB_e ?_;refine kB_n ?_;refine kS_n ?_;refine wE_region ?_;refine yinc ?_;refine yM ?_;refine y3 ?_
   exact⟨8-(z+1),by omega,z+1,by omega,rfl,rfl,rfl,hk,hP⟩
  ·obtain⟨b,m,hform⟩:=odd_form x hx
   have hb64:=(low_and hform hxl).1
   have hstep:=bitsOf_step hform hxl
   have m1:numOp .neq (.int .u64 (x:Nat)) (.int .u64 0)=some (.bool true):=m_neqT (by omega)
   have C:=tz266 F.p F.f266 (h:={h' with log:=[]}) (.of (hk.wf hr.wf)) (show Tab h' from htab _ _ hP) hxl hform
   have m2:numOp .rem (.int .i64 (b:Nat)) (.int .i64 8)=some (.int .i64 ((b % 8:Nat):Int)):=m_rem8
   have m3:numOp .quo (.int .i64 (b:Nat)) (.int .i64 8)=some (.int .i64 ((b / 8:Nat):Int)):=m_quo8 (by omega)
   have m4:numOp .sub (.int .u64 (x:Nat)) (.int .u64 1)=some (.int .u64 ((x-1:Nat):Int)):=m_sub (by rw[show(x:Int)-1=((x-1:Nat):Int)by omega];exact wrapA_u64 (by unfold U64 at hxl;omega))
   have m5:=m_and (a:=x) (b:=x-1) hxl (Nat.lt_of_le_of_lt (Nat.sub_le x 1) hxl)
   rw[hstep]at hd⊢
   have hlt:Nat.land x (x-1)<U64:=land_lt hxl
   generalize Nat.land x (x-1)=x' at*
   rw[List.map_cons]at hd
   have hsp:cellsTo s 512=(cellsTo s (z*64)++d)++ceOf z b::((bitsOf x').map (ceOf z)++rest):=by
    rw[hrest,←hd];simp
   refine wE_seq ?_;refine y4 ?_;refine yM ?_;refine wO_val (a_num (by exact rfl) (by exact rfl) (by with_reducible assumption)) ?_;refine y3 ?_;refine yY ?_;refine wE_skip ?_;refine kS_n ?_
   refine wE_seq ?_;refine wE_block ?_;refine y4 ?_;refine yM ?_
   refine yC ?_
   refine FW.pu C ?_
   clear C
   refine yM ?_;refine y3 ?_;refine y4 ?_;refine yM ?_;refine yM ?_;refine wO_val (a_num (by exact rfl) (by exact rfl) (by with_reducible assumption)) ?_
   refine yM ?_;refine wO_val (a_num (by exact rfl) (by exact rfl) (by with_reducible assumption)) ?_;refine yM ?_;refine wO_val (a_build (by exact rfl)) ?_
   refine wO_call (fn:= .yield l) (args:=[ceV (ceOf z b)]) (by rfl) ?_
   refine Y.call hp (by rw[hsp];simp) (hk.wf hr.wf) (Nat.le_trans hlo hk.next) (Nat.le_trans hN hk.next) hlb hP ?_ ?_
   rotate_left
   ·intro h9 hk9 hm9 hS9
    refine yA ?_;refine y3 ?_;refine yY ?_;refine wE_ret ?_;refine kB_r ?_;refine kS_r ?_;refine kS_r ?_;refine kB_r ?_;refine kB_r ?_;refine kS_r ?_;refine kS_r ?_;refine kB_r ?_
    exact endX_ret ((hk.trans hk9).log (by rw[hr.log];exact LogGe.nil _)) rfl hm9 hS9
   intro h2 hk2 _ hP2
   refine yA ?_;refine y3 ?_;refine yX ?_;refine wE_skip ?_;refine kB_n ?_;refine kS_n ?_;refine wE_region ?_;refine yM ?_;refine yM ?_
   refine wO_val (a_num (by exact rfl) (by exact rfl) (by with_reducible assumption)) ?_;refine wO_val (a_num (by exact rfl) (by exact rfl) (by with_reducible assumption)) ?_;refine yM ?_;refine y3 ?_
   exact⟨(bitsOf x').length,by simp,x',d++[ceOf z b],hlt,by rw[←hd];simp,rfl,rfl,rfl,hk.trans hk2,by rw[←List.append_assoc];exact hP2⟩
 ·obtain rfl:z=8:=by omega
  refine y4 ?_;refine yf ?_;refine y3 ?_;refine wE_seq ?_;refine yX ?_;refine wE_exit ?_;refine kS_e ?_;refine kS_e ?_;refine kB_e ?_
  exact endX_end (hk.log (by rw[hr.log];exact LogGe.nil _)) rfl hP
end Go.A.Pk
end
section
set_option maxRecDepth 100000
namespace Go.A.Pk
variable {T:Nat→Option AFunc}
structure Bx where
 lo:Ce
 hi:Ce
 deriving DecidableEq
def bxL(b:Bx):List Value:=ceL b.lo++ceL b.hi
def bxV(b:Bx):Value:= .agg (bxL b).toArray
def bxUp(b:Bx)(c:Ce):Bx:=⟨⟨mi b.lo.x c.x,mi b.lo.y c.y,mi b.lo.z c.z⟩,⟨mx b.hi.x c.x,mx b.hi.y c.y,mx b.hi.z c.z⟩⟩
def bx0:Bx:=⟨⟨7,7,7⟩,⟨0,0,0⟩⟩
def bxS(l:List Ce):Bx:=l.foldl bxUp bx0
theorem bxS_snoc(l:List Ce)(c:Ce):bxS (l++[c])=bxUp (bxS l) c:=by unfold bxS;rw[List.foldl_append];rfl
section
open I
def asg210:ACode:=I.R [g 5 (.new [O,O,O]),S 3 5 16] [4,5]
def bod210:ACode:=(.block 1 (Q (I.R [A 17 0 4,A 18 3 4,M 6 17,M 7 18] [5,6,7]) (Q (.draw [M 19 6,M 20 6,M 21 6,M 22 6,g 23 (.nilchk (t 22)),A 24 0 23,L 25 24,A 26 0 5,L 27 26,g 28 (.minmax false [(t 25),(t 27)]),M 29 6,g 30 (.nilchk (t 29)),A 31 1 30,L 32 31,A 33 1 5,L 34 33,g 35 (.minmax false [(t 32),(t 34)]),M 36 6,g 37 (.nilchk (t 36)),A 38 2 37,L 39 38,A 40 2 5,L 41 40,g 42 (.minmax false [(t 39),(t 41)]),g 43 (.nilchk (t 19)),A 44 0 43,S 1 44 28,g 45 (.nilchk (t 20)),A 46 1 45,S 1 46 35,g 47 (.nilchk (t 21)),A 48 2 47,S 1 48 42] [0,1,2,3,4,5,6,7,8,9,10,11,12,13,14,15,16,17,18,19,20,21,22,23,24,25,26,27,28,29,30,31,32] [0,0,0,0,8,24,56,0,128,504,0,1024,3072,7168,0,16384,64512,0,131072,393216,917504,0,2097152,8257536,1982457,18759673,52314105,119537659,253755387,522190843,1073741823,2147483647,4294967295] [5,7])
 (.draw [M 49 7,M 50 7,M 51 7,M 52 7,g 53 (.nilchk (t 52)),A 54 0 53,L 55 54,A 56 0 5,L 57 56,g 58 (.minmax true [(t 55),(t 57)]),M 59 7,g 60 (.nilchk (t 59)),A 61 1 60,L 62 61,A 63 1 5,L 64 63,g 65 (.minmax true [(t 62),(t 64)]),M 66 7,g 67 (.nilchk (t 66)),A 68 2 67,L 69 68,A 70 2 5,L 71 70,g 72 (.minmax true [(t 69),(t 71)]),g 73 (.nilchk (t 49)),A 74 0 73,S 1 74 58,g 75 (.nilchk (t 50)),A 76 1 75,S 1 76 65,g 77 (.nilchk (t 51)),A 78 2 77,S 1 78 72] [0,1,2,3,4,5,6,7,8,9,10,11,12,13,14,15,16,17,18,19,20,21,22,23,24,25,26,27,28,29,30,31,32] [0,0,0,0,8,24,56,0,128,504,0,1024,3072,7168,0,16384,64512,0,131072,393216,917504,0,2097152,8257536,1982457,18759673,52314105,119537659,253755387,522190843,1073741823,2147483647,4294967295] []))))
end
set_option maxHeartbeats 16000000 in
theorem bx_round(hp:primAS T){H:Heap}(hr:Rdy H){q l lo N:Nat}{fv fv2:Value}{b:Bx}{c:Ce}(hlo:lo≤q)(hql:q<l)(hlN:l<N)
 (gl:H.get l=some (.loop [(2,fv2),(4, .pointer (some ⟨q,0,none⟩)),(15,fv)] [16] asg210 bod210 0 .normal))
 (go:H.get q=some (.cells (bxL b) true 1)){S:Heap→Prop}:
 FW T (.yield l) [ceV c] H fun r H'=>(∀z∈H'.log,lo≤z∧z<N)∧(r= .ret (.bool true)∧(H'.get q=some (.cells (bxL (bxUp b c)) true 1)∧(∀z,z<H.next→z≠q→H'.get z=H.get z)∧H.next≤H'.next)∨r= .ret (.bool false)∧l∈H'.log∧S H'):=by
 have no:q≠l:=by omega
 have ko:=hr.wf.get_lt go
 have kl:=hr.wf.get_lt gl
 refine FW.yieldX hp (R:=fun H'=>H'.get q=some (.cells (bxL (bxUp b c)) true 1)∧(∀z,z<H.next→z≠q→H'.get z=H.get z)∧H.next≤H'.next) gl rfl kl ⟨by omega,hlN⟩ ?_
 unfold asg210
 refine wE_region ?_;refine wO_val (a_new) ?_;refine yS ?_;refine wO_nil ?_
 refine y1 ?_
 refine⟨rfl,by(simp(disch:=first|omega|(simp only[z1,z2];omega))only[z3,z4,z5,z6,z7,z1,z2,gl,go];exact rfl),?_⟩
 unfold bod210
 refine wE_block ?_
 refine WE.genC ?_
 intro hA hAe
 have A1:∀z,z<H.next→z≠l→H.get z=hA.get z:=fun z hz hne=>by rw[hAe];symm;simp(disch:=first|omega|(simp only[z1,z2];omega))only[z5,z4]
 have A3:hA.get H.next=some (.cells (ceL c) true 1):=by rw[hAe];(simp(disch:=first|omega|(simp only[z1,z2];omega))only[z3,z4,z5,z6,z7,z1,z2,gl,go];exact rfl)
 have A2:hA.get l=some (.loop [(2,fv2),(4, .pointer (some ⟨q,0,none⟩)),(15,fv)] [16] asg210 bod210 1 .normal):=by rw[hAe];(simp(disch:=first|omega|(simp only[z1,z2];omega))only[z3,z4,z5,z6,z7,z1,z2,gl,go,A3];exact rfl)
 have A5:hA.next=H.next+1:=by rw[hAe];rfl
 have A6:hA.log=[]:=by rw[hAe];simp(disch:=first|omega|(simp only[z1,z2];omega))only[Heap.log_wr_new,Heap.log_push];exact hr.log
 have A7:WF hA:=by rw[hAe];exact(((hr.wf.push _).as (AS.wr _ _ _ _)).as (AS.wr _ _ _ _))
 clear hAe
 have Bo:=(A1 q ko no).symm.trans go
 obtain⟨⟨x1,y1',z1'⟩,⟨x2,y2',z2'⟩⟩:=b
 obtain⟨cx,cy,cz⟩:=c
 unfold bxL ceL at Bo
 dsimp only[List.cons_append,List.nil_append]at Bo
 unfold ceL at A3
 dsimp only at A3
 clear go
 refine y4 ?_;refine yF ?_;refine yF ?_;refine yM ?_;refine yM ?_;refine y3 ?_;refine wE_seq ?_;refine wE_draw ?_
 refine qM ?_;refine qM ?_;refine qM ?_;refine qM ?_
 refine wD_quiet rfl rfl rfl (by exact rfl) (by exact rfl) (by exact rfl) (a_nilchk (by exact rfl)) ?_;refine qF ?_;refine qL ?_
 refine qF ?_;refine qL ?_;refine wD_quiet rfl rfl rfl (by exact rfl) (by exact rfl) (by exact rfl) (a_minI (by exact rfl) (by exact rfl)) ?_
 refine qM ?_;refine wD_quiet rfl rfl rfl (by exact rfl) (by exact rfl) (by exact rfl) (a_nilchk (by exact rfl)) ?_;refine qF ?_
 refine qL ?_;refine qF ?_;refine qL ?_
 refine wD_quiet rfl rfl rfl (by exact rfl) (by exact rfl) (by exact rfl) (a_minI (by exact rfl) (by exact rfl)) ?_;refine qM ?_;refine wD_quiet rfl rfl rfl (by exact rfl) (by exact rfl) (by exact rfl) (a_nilchk (by exact rfl)) ?_
 refine qF ?_;refine qL ?_;refine qF ?_
 refine qL ?_;refine wD_quiet rfl rfl rfl (by exact rfl) (by exact rfl) (by exact rfl) (a_minI (by exact rfl) (by exact rfl)) ?_;refine wD_quiet rfl rfl rfl (by exact rfl) (by exact rfl) (by exact rfl) (a_nilchk (by exact rfl)) ?_
 refine qF ?_
 refine wD_storeA (vs:=[.int .i64 x1, .int .i64 y1', .int .i64 z1', .int .i64 x2, .int .i64 y2', .int .i64 z2']) (ws:=[.int .i64 (mi x1 cx), .int .i64 y1', .int .i64 z1', .int .i64 x2, .int .i64 y2', .int .i64 z2']) rfl rfl rfl (by exact rfl) (by exact rfl) (by exact rfl) (Bo) (by exact rfl) (by exact rfl) (by show q<hA.next;omega) (by apply ra_dropC rfl;apply ra_dropC rfl;apply ra_keepC rfl (rq_quiet rfl (a_minI (by exact rfl) (by exact rfl)) (by exact sv_int _ _)) rfl;apply ra_keepC rfl (rq_quiet rfl (a_load (by exact rfl) (by(simp(disch:=first|omega|(simp only[z1,z2];omega))only[z3,z4,z5,z6,z7,z1,z2,gl,A2,Bo,A3];exact rfl)) (by exact rfl)) (by exact sv_int _ _)) rfl;apply ra_keepC rfl (rq_quiet rfl (a_faddr (by exact rfl)) (by exact sv_ptr _)) rfl;apply ra_dropC rfl;apply ra_dropC rfl;apply ra_dropC rfl;apply ra_dropC rfl;apply ra_keepC rfl (rq_quiet rfl (a_minI (by exact rfl) (by exact rfl)) (by exact sv_int _ _)) rfl;apply ra_keepC rfl (rq_quiet rfl (a_load (by exact rfl) (by(simp(disch:=first|omega|(simp only[z1,z2];omega))only[z3,z4,z5,z6,z7,z1,z2,gl,A2,Bo,A3];exact rfl)) (by exact rfl)) (by exact sv_int _ _)) rfl;apply ra_keepC rfl (rq_quiet rfl (a_faddr (by exact rfl)) (by exact sv_ptr _)) rfl;apply ra_dropC rfl;apply ra_dropC rfl;apply ra_dropC rfl;apply ra_dropC rfl;apply ra_dropC rfl;apply ra_dropC rfl;apply ra_dropC rfl;apply ra_dropC rfl;apply ra_dropC rfl;apply ra_dropC rfl;apply ra_dropC rfl;apply ra_keepC rfl (rq_quiet rfl (a_mov (by exact rfl)) (by exact sv_ptr _)) rfl;apply ra_keepC rfl (rq_quiet rfl (a_mov (by exact rfl)) (by exact sv_ptr _)) rfl;apply ra_dropC rfl;exact ra_nil) ?_
 refine wD_quiet rfl rfl rfl (by exact rfl) (by exact rfl) (by exact rfl) (a_nilchk (by exact rfl)) ?_;refine qF ?_
 refine wD_storeA (vs:=[.int .i64 (mi x1 cx), .int .i64 y1', .int .i64 z1', .int .i64 x2, .int .i64 y2', .int .i64 z2']) (ws:=[.int .i64 (mi x1 cx), .int .i64 (mi y1' cy), .int .i64 z1', .int .i64 x2, .int .i64 y2', .int .i64 z2']) rfl rfl rfl (by exact rfl) (by exact rfl) (by exact rfl) (Heap.get_wr_new (Bo)) (by exact rfl) (by exact rfl) (by show q<hA.next;omega) (by apply ra_dropC rfl;apply ra_dropC rfl;apply ra_keepC rfl (rq_quiet rfl (a_minI (by exact rfl) (by exact rfl)) (by exact sv_int _ _)) rfl;apply ra_keepC rfl (rq_quiet rfl (a_load (by exact rfl) (by(simp(disch:=first|omega|(simp only[z1,z2];omega))only[z3,z4,z5,z6,z7,z1,z2,gl,A2,Bo,A3];exact rfl)) (by exact rfl)) (by exact sv_int _ _)) rfl;apply ra_keepC rfl (rq_quiet rfl (a_faddr (by exact rfl)) (by exact sv_ptr _)) rfl;apply ra_dropC rfl;apply ra_dropC rfl;apply ra_dropC rfl;apply ra_keepC rfl (rq_quiet rfl (a_mov (by exact rfl)) (by exact sv_ptr _)) rfl;apply ra_dropC rfl;exact ra_nil) ?_
 refine wD_quiet rfl rfl rfl (by exact rfl) (by exact rfl) (by exact rfl) (a_nilchk (by exact rfl)) ?_;refine qF ?_
 refine wD_storeA (vs:=[.int .i64 (mi x1 cx), .int .i64 (mi y1' cy), .int .i64 z1', .int .i64 x2, .int .i64 y2', .int .i64 z2']) (ws:=[.int .i64 (mi x1 cx), .int .i64 (mi y1' cy), .int .i64 (mi z1' cz), .int .i64 x2, .int .i64 y2', .int .i64 z2']) rfl rfl rfl (by exact rfl) (by exact rfl) (by exact rfl) (Heap.get_wr_new (Heap.get_wr_new (Bo))) (by exact rfl) (by exact rfl) (by show q<hA.next;omega) (by apply ra_dropC rfl;apply ra_dropC rfl;apply ra_dropC rfl;apply ra_dropC rfl;apply ra_dropC rfl;apply ra_dropC rfl;exact ra_nil) ?_
 refine wD_nil ?_;refine y1 ?_;refine kS_n ?_;refine wE_draw ?_;refine qM ?_;refine qM ?_
 refine qM ?_;refine qM ?_;refine wD_quiet rfl rfl rfl (by exact rfl) (by exact rfl) (by exact rfl) (a_nilchk (by exact rfl)) ?_
 refine qF ?_
 refine qL ?_
 refine qF ?_
 refine qL ?_
 refine wD_quiet rfl rfl rfl (by exact rfl) (by exact rfl) (by exact rfl) (a_max (by exact rfl) (by exact rfl)) ?_;refine qM ?_;refine wD_quiet rfl rfl rfl (by exact rfl) (by exact rfl) (by exact rfl) (a_nilchk (by exact rfl)) ?_
 refine qF ?_
 refine qL ?_
 refine qF ?_
 refine qL ?_
 refine wD_quiet rfl rfl rfl (by exact rfl) (by exact rfl) (by exact rfl) (a_max (by exact rfl) (by exact rfl)) ?_;refine qM ?_;refine wD_quiet rfl rfl rfl (by exact rfl) (by exact rfl) (by exact rfl) (a_nilchk (by exact rfl)) ?_
 refine qF ?_
 refine qL ?_
 refine qF ?_
 refine qL ?_
 refine wD_quiet rfl rfl rfl (by exact rfl) (by exact rfl) (by exact rfl) (a_max (by exact rfl) (by exact rfl)) ?_;refine wD_quiet rfl rfl rfl (by exact rfl) (by exact rfl) (by exact rfl) (a_nilchk (by exact rfl)) ?_;refine qF ?_
 refine wD_storeA (vs:=[.int .i64 (mi x1 cx), .int .i64 (mi y1' cy), .int .i64 (mi z1' cz), .int .i64 x2, .int .i64 y2', .int .i64 z2']) (ws:=[.int .i64 (mi x1 cx), .int .i64 (mi y1' cy), .int .i64 (mi z1' cz), .int .i64 (mx x2 cx), .int .i64 y2', .int .i64 z2']) rfl rfl rfl (by exact rfl) (by exact rfl) (by exact rfl) (Heap.get_wr_new (Heap.get_wr_new (Heap.get_wr_new (Bo)))) (by exact rfl) (by exact rfl) (by show q<hA.next;omega) (by apply ra_dropC rfl;apply ra_dropC rfl;apply ra_keepC rfl (rq_quiet rfl (a_max (by exact rfl) (by exact rfl)) (by exact sv_int _ _)) rfl;apply ra_keepC rfl (rq_quiet rfl (a_load (by exact rfl) (by(simp(disch:=first|omega|(simp only[z1,z2];omega))only[z3,z4,z5,z6,z7,z1,z2,gl,A2,Bo,A3];exact rfl)) (by exact rfl)) (by exact sv_int _ _)) rfl;apply ra_keepC rfl (rq_quiet rfl (a_faddr (by exact rfl)) (by exact sv_ptr _)) rfl;apply ra_dropC rfl;apply ra_dropC rfl;apply ra_dropC rfl;apply ra_dropC rfl;apply ra_keepC rfl (rq_quiet rfl (a_max (by exact rfl) (by exact rfl)) (by exact sv_int _ _)) rfl;apply ra_keepC rfl (rq_quiet rfl (a_load (by exact rfl) (by(simp(disch:=first|omega|(simp only[z1,z2];omega))only[z3,z4,z5,z6,z7,z1,z2,gl,A2,Bo,A3];exact rfl)) (by exact rfl)) (by exact sv_int _ _)) rfl;apply ra_keepC rfl (rq_quiet rfl (a_faddr (by exact rfl)) (by exact sv_ptr _)) rfl;apply ra_dropC rfl;apply ra_dropC rfl;apply ra_dropC rfl;apply ra_dropC rfl;apply ra_dropC rfl;apply ra_dropC rfl;apply ra_dropC rfl;apply ra_dropC rfl;apply ra_dropC rfl;apply ra_dropC rfl;apply ra_dropC rfl;apply ra_keepC rfl (rq_quiet rfl (a_mov (by exact rfl)) (by exact sv_ptr _)) rfl;apply ra_keepC rfl (rq_quiet rfl (a_mov (by exact rfl)) (by exact sv_ptr _)) rfl;apply ra_dropC rfl;exact ra_nil) ?_
 refine wD_quiet rfl rfl rfl (by exact rfl) (by exact rfl) (by exact rfl) (a_nilchk (by exact rfl)) ?_;refine qF ?_
 refine wD_storeA (vs:=[.int .i64 (mi x1 cx), .int .i64 (mi y1' cy), .int .i64 (mi z1' cz), .int .i64 (mx x2 cx), .int .i64 y2', .int .i64 z2']) (ws:=[.int .i64 (mi x1 cx), .int .i64 (mi y1' cy), .int .i64 (mi z1' cz), .int .i64 (mx x2 cx), .int .i64 (mx y2' cy), .int .i64 z2']) rfl rfl rfl (by exact rfl) (by exact rfl) (by exact rfl) (Heap.get_wr_new (Heap.get_wr_new (Heap.get_wr_new (Heap.get_wr_new (Bo))))) (by exact rfl) (by exact rfl) (by show q<hA.next;omega) (by apply ra_dropC rfl;apply ra_dropC rfl;apply ra_keepC rfl (rq_quiet rfl (a_max (by exact rfl) (by exact rfl)) (by exact sv_int _ _)) rfl;apply ra_keepC rfl (rq_quiet rfl (a_load (by exact rfl) (by(simp(disch:=first|omega|(simp only[z1,z2];omega))only[z3,z4,z5,z6,z7,z1,z2,gl,A2,Bo,A3];exact rfl)) (by exact rfl)) (by exact sv_int _ _)) rfl;apply ra_keepC rfl (rq_quiet rfl (a_faddr (by exact rfl)) (by exact sv_ptr _)) rfl;apply ra_dropC rfl;apply ra_dropC rfl;apply ra_dropC rfl;apply ra_keepC rfl (rq_quiet rfl (a_mov (by exact rfl)) (by exact sv_ptr _)) rfl;apply ra_dropC rfl;exact ra_nil) ?_
 refine wD_quiet rfl rfl rfl (by exact rfl) (by exact rfl) (by exact rfl) (a_nilchk (by exact rfl)) ?_;refine qF ?_
 refine wD_storeA (vs:=[.int .i64 (mi x1 cx), .int .i64 (mi y1' cy), .int .i64 (mi z1' cz), .int .i64 (mx x2 cx), .int .i64 (mx y2' cy), .int .i64 z2']) (ws:=[.int .i64 (mi x1 cx), .int .i64 (mi y1' cy), .int .i64 (mi z1' cz), .int .i64 (mx x2 cx), .int .i64 (mx y2' cy), .int .i64 (mx z2' cz)]) rfl rfl rfl (by exact rfl) (by exact rfl) (by exact rfl) (Heap.get_wr_new (Heap.get_wr_new (Heap.get_wr_new (Heap.get_wr_new (Heap.get_wr_new (Bo)))))) (by exact rfl) (by exact rfl) (by show q<hA.next;omega) (by apply ra_dropC rfl;apply ra_dropC rfl;apply ra_dropC rfl;apply ra_dropC rfl;apply ra_dropC rfl;apply ra_dropC rfl;exact ra_nil) ?_
 refine wD_nil ?_;refine y1 ?_;refine kB_n ?_
 refine⟨⟨_,by(simp(disch:=first|omega|(simp only[z1,z2];omega))only[z3,z4,z5,z6,z7,z1,z2,gl,A2,Bo,A3];exact rfl),rfl⟩,fun z hz=> ?_, .inl ⟨rfl,fun h5 hn h5e h5l=> ?_⟩⟩
 ·have key:z=q:=by
   rcases wr_log_old hz with h|hz
   ·exact h
   rcases wr_log_old hz with h|hz
   ·exact h
   rcases wr_log_old hz with h|hz
   ·exact h
   rcases wr_log_old hz with h|hz
   ·exact h
   rcases wr_log_old hz with h|hz
   ·exact h
   rcases wr_log_old hz with h|hz
   ·exact h
   rw[A6]at hz;cases hz
  subst key
  exact⟨hlo,by omega⟩
 ·refine⟨(h5e q ko no).trans (Heap.get_wr_new (Heap.get_wr_new (Heap.get_wr_new (Heap.get_wr_new (Heap.get_wr_new (Heap.get_wr_new (Bo))))))),fun z hz hne=> ?_,hn⟩
  by_cases hl:z=l
  ·subst hl
   rw[gl];exact h5l
  ·refine(h5e z hz hl).trans ?_
   refine Eq.trans ?_ (A1 z hz hl).symm
   simp only[z5 hne]
structure PXo (l q:Nat) (H0:Heap) (L:AObj) (f:List Ce→List Value) (done:List Ce) (H:Heap):Prop where
 old:∀z,z<l→z≠q→H.get z=H0.get z
 loop:H.get l=some L
 val:H.get q=some (.cells (f done) true 1)
theorem PXo.stable{l q:Nat}{H0:Heap}{L:AObj}{f:List Ce→List Value}(hq:q<l)(done:List Ce)(H H':Heap)(p:PXo l q H0 L f done H)(_:l+1≤H'.next)(h:∀x,x<l+1→H'.get x=H.get x):PXo l q H0 L f done H':=
 ⟨fun z hz hne=>(h z (by omega)).trans (p.old z hz hne),(h l (by omega)).trans p.loop,(h q (by omega)).trans p.val⟩
def bndS(s:List Nat):Bx×Bool:=if s=s0 then(⟨c0,c0⟩,false)else(bxS (cellsTo s 512),true)
def bndV(p:Bx×Bool):Value:= .tuple #[bxV p.1, .bool p.2]
structure FnsBd (T:Nat→Option AFunc):Prop where
 cp:FnsCp T
 f210:T 210=some f210
set_option maxHeartbeats 16000000 in
theorem bounds210(F:FnsBd T){h:Heap}(hr:Rdy h)(hg:Tab h)(h2:2<h.next){s:List Nat}(hs:IsS s):Pu T 210 [sv s] h (bndV (bndS s)):=by
 have hp:=F.cp.p
 refine .of hp F.f210 hr rfl ?_
 have k8:=us_llen hs.len
 have k9:=us_take8 hs.len
 have x0:Ext h ((h.push (.cells (cellsOf (sv s)) true 1)).push (.cells [I.O,I.O,I.O,I.O,I.O,I.O] true 1)):=((Ext.refl h).push _).push _
 have g0:((h.push (.cells (cellsOf (sv s)) true 1)).push (.cells [I.O,I.O,I.O,I.O,I.O,I.O] true 1)).get h.next=some (.cells (us s) true 1):=(z4 (Nat.lt_succ_self _)).trans (z3 h _)
 have g1:((h.push (.cells (cellsOf (sv s)) true 1)).push (.cells [I.O,I.O,I.O,I.O,I.O,I.O] true 1)).get (h.next+1)=some (.cells [I.O,I.O,I.O,I.O,I.O,I.O] true 1):=z3 _ _
 have n0:((h.push (.cells (cellsOf (sv s)) true 1)).push (.cells [I.O,I.O,I.O,I.O,I.O,I.O] true 1)).next=h.next+2:=rfl
 refine y4 ?_;refine yB ?_;refine wO_val (a_new) ?_;refine yM ?_;refine y3 ?_
 generalize((h.push (.cells (cellsOf (sv s)) true 1)).push (.cells [I.O,I.O,I.O,I.O,I.O,I.O] true 1))=H at*
 have W:=x0.wf hr.wf
 have hL:=x0.log.trans hr.log
 unfold bndS
 by_cases he:s=s0
 ·rw[if_pos he]
  have ck0:ltake 6 (ldrop 0 (bxL ⟨c0,c0⟩))=bxL ⟨c0,c0⟩:=rfl
  refine wE_seq ?_;refine y4 ?_;refine wO_val (a_loadN (by exact rfl) (by assumption) (by assumption) (by assumption)) ?_;refine wO_val (a_build (by exact rfl)) ?_
  refine wO_val (a_eqS (b:=s0) (by exact rfl) (by exact rfl) hs.len rfl) ?_
  rw[decide_eq_true he]
  refine y3 ?_;refine yY ?_;refine y4 ?_;refine wO_val (a_build (by exact rfl)) ?_;refine yS ?_;refine yM ?_
  refine y3 ?_;refine wE_ret ?_;refine kS_r ?_
  refine endP_ret ?_ (res_cells (own:=true) (s:=1) (l:=bxL ⟨c0,c0⟩) rfl ?_ ck0 rfl rfl) rfl
  ·rw[Heap.log_wr_new (by show h.next≤h.next+1;omega)];exact hL
  ·(simp(disch:=first|omega|(simp only[z1,z2];omega))only[z3,z4,z5,z6,z7,z1,z2,g0,g1];exact rfl)
 ·rw[if_neg he]
  have x1:=ext_pw (h:=H) (base:=h.next) (by omega) (.cells [I.O,I.O,I.O,I.O,I.O,I.O] true 1) (.cells (bxL bx0) true 1)
  have q1:=get_pw (h:=H) (base:=h.next) [I.O,I.O,I.O,I.O,I.O,I.O] (bxL bx0)
  refine wE_seq ?_;refine y4 ?_;refine wO_val (a_loadN (by exact rfl) (by assumption) (by assumption) (by assumption)) ?_;refine wO_val (a_build (by exact rfl)) ?_
  refine wO_val (a_eqS (b:=s0) (by exact rfl) (by exact rfl) hs.len rfl) ?_
  rw[decide_eq_false he]
  refine y3 ?_;refine yX ?_;refine wE_skip ?_;refine kS_n ?_
  refine wE_cutP (E0:=[(1, .pointer (some ⟨h.next,0,none⟩)),(2, .pointer (some ⟨h.next+1,0,none⟩)),(4, .pointer (some ⟨H.next,0,none⟩))]) (P:=fun h'=>Ext H h'∧h'.next=H.next+1∧h'.get H.next=some (.cells (bxL bx0) true 1)) ?_ ?_
  ·refine wE_region ?_;refine wO_val (a_build (by exact rfl)) ?_;refine wO_val (a_build (by exact rfl)) ?_;refine wO_val (a_new) ?_
   refine yS ?_;refine wO_nil ?_
   refine y1 ?_
   exact⟨rfl,rfl,rfl,ext_pw (by omega) _ _,rfl,get_pw _ _⟩
  rintro H1 ⟨x1,n1,q1⟩
  have ey1':=x0.trans x1
  have W1:=ey1'.wf hr.wf
  have hL1:=ey1'.log.trans hr.log
  have ga:=(x1.old _ (by omega)).trans g0
  have gb:=(x1.old _ (by omega)).trans g1
  have C:=cells214 F.cp (h:={H1 with log:=[]}) (.of W1) hs
  clear g0 g1
  refine wE_seq ?_;refine y4 ?_;refine wO_val (a_loadN (by exact rfl) (by assumption) (by assumption) (by assumption)) ?_
  refine yC ?_
  refine FW.al C (fun v h' m q=>q) ?_
  rintro _ H2 x2 ⟨q,rfl,gq,q2,q3⟩
  clear C
  have q2:H1.next≤q:=q2
  have ey2':=ey1'.trans x2
  have W2:=ey2'.wf hr.wf
  have hL2:=ey2'.log.trans hr.log
  have n2:=x2.next
  have gb2:=(x2.old _ (by omega)).trans gb
  have q12:=(x2.old _ (by omega)).trans q1
  have hg2:Tab H2:=hg.ext ey2' h2
  clear ga gb q1
  refine y3 ?_;refine wE_block ?_
  refine wE_rangeX (lo:=H.next) (P:=PXo H2.next H.next H2 (.loop [(2, .pointer (some ⟨h.next+1,0,none⟩)),(4, .pointer (some ⟨H.next,0,none⟩)),(15,fnC q)] [16] asg210 bod210 0 .normal) (fun d=>bxL (bxS d)) (cellsTo s 512)) (S:=fun _=>False) rfl (by rfl) (by rw[F.cp.f265];rfl) (by omega) (by omega) hL2 W2 ?_ (fun H p=>⟨_,_,_,_,p.loop⟩) (fun H p=>p.elim) ?_ (fun _ _ _ _ _ _ _ p=>p.elim)
  ·have Y:YldX T H.next (H2.next+1) H2.next ceV (cellsTo s 512) (PXo H2.next H.next H2 (.loop [(2, .pointer (some ⟨h.next+1,0,none⟩)),(4, .pointer (some ⟨H.next,0,none⟩)),(15,fnC q)] [16] asg210 bod210 0 .normal) (fun d=>bxL (bxS d))) (fun _=>False):=by
    refine⟨fun done x Hh hx hrH hN hP=> ?_,PXo.stable (by omega),fun _ _ h=>h,fun _ h=>h.elim⟩
    refine FW.mono' (bx_round hp hrH (lo:=H.next) (N:=H2.next+1) (S:=fun _=>False) (Nat.le_refl _) (by omega) (by omega) hP.loop hP.val) ?_
    rintro r' H' ⟨r1,r2⟩
    refine⟨r1,r2.imp (fun⟨e,g,o,_⟩=>⟨e,fun z hz hne=>(o z (by omega) hne).trans (hP.old z hz hne),(o _ (by omega) (by omega)).trans hP.loop,?_⟩) id⟩
    rw[bxS_snoc];exact g
   exact cells265X F.cp (.of (W2.push _)) (q0:=q) (l:=H2.next) (N:=H2.next+1) (lo:=H.next) hs (Nat.le_refl _) (by show H.next≤H2.next+1;omega) (Nat.lt_succ_self _) Y ((z4 (by omega)).trans gq) (fun d H' hP=>(hP.old 2 (by omega) (by omega)).trans hg2)
    ⟨fun z hz _=>z4 hz,z3 _ _,(z4 (by omega)).trans q12⟩
  intro h4 h5 k1 k2 k3 k4 k5 hP
  have D:=(k5 H.next (by omega)).trans hP.val
  have D2:=(k5 (h.next+1) (by omega)).trans ((hP.old _ (by omega) (by omega)).trans gb2)
  generalize bxS (cellsTo s 512)=b at*
  have ck:ltake 6 (ldrop 0 (bxL b))=bxL b:=rfl
  have ckl:Nat.beq (llen (bxL b)) 6=true:=rfl
  refine kB_n ?_;refine kS_n ?_;refine y4 ?_;refine yN ?_;refine yS ?_;refine yM ?_;refine y3 ?_;refine wE_ret ?_
  refine endP_ret ?_ (res_cells (own:=true) (s:=1) (l:=bxL b) rfl ?_ ck ckl rfl) rfl
  ·rw[Heap.log_wr_new (by show h.next≤h.next+1;omega)];exact k1
  ·(simp(disch:=first|omega|(simp only[z1,z2];omega))only[z3,z4,z5,z6,z7,z1,z2,q1,gq,gb2,q12,D2,D];exact rfl)
end Go.A.Pk
end
section
set_option maxRecDepth 100000
namespace Go.A.Pk
variable {T:Nat→Option AFunc}
def rollC:Nat→Ce→Ce
 |0,c=>c
 |1,c=>⟨c.x,7-c.z,c.y⟩
 |2,c=>⟨c.x,7-c.y,7-c.z⟩
 |3,c=>⟨c.x,c.z,7-c.y⟩
 |4,c=>⟨c.z,c.y,7-c.x⟩
 |_,c=>⟨7-c.z,c.y,c.x⟩
def rotC(c:Ce):Ce:=⟨7-c.y,c.x,c.z⟩
def rotN:Nat→Ce→Ce
 |0,c=>c
 |n+1,c=>rotC (rotN n c)
def turnC(t:Nat)(c:Ce):Ce:=rotN (t % 4) (rollC (t / 4) c)
structure InB (c:Ce):Prop where
 x:0≤c.x∧c.x≤7
 y:0≤c.y∧c.y≤7
 z:0≤c.z∧c.z≤7
theorem inB_iff{c:Ce}:inG c=true↔InB c:=by
 unfold inG
 rw[decide_eq_true_eq]
 exact⟨fun h=>⟨h.1,h.2.1,h.2.2⟩,fun h=>⟨h.x,h.y,h.z⟩⟩
theorem InB.roll{c:Ce}(h:InB c)(k:Nat):InB (rollC k c):=by
 obtain⟨h1,h2,h3⟩:=h
 unfold rollC
 split<;>(constructor<;>(first|omega|(dsimp only;omega)))
theorem InB.rot{c:Ce}(h:InB c):∀n,InB (rotN n c)
 |0=>h
 |n+1=>by
  obtain⟨h1,h2,h3⟩:=h.rot n
  unfold rotN rotC
  exact⟨by dsimp only;omega,h1,h3⟩
theorem InB.turn{c:Ce}(h:InB c)(t:Nat):InB (turnC t c):=(h.roll _).rot _
theorem m_sub7{a:Int}(h:0≤a∧a≤7):numOp .sub (.int .i64 7) (.int .i64 a)=some (.int .i64 (7-a)):=m_sub (wrapA_i64 (by omega) (by omega))
theorem m_rem4{a:Nat}:numOp .rem (.int .i64 a) (.int .i64 4)=some (.int .i64 ((a % 4:Nat):Int)):=by
 have e:(a:Int).tmod 4=((a % 4:Nat):Int):=by rw[Int.tmod_eq_emod_of_nonneg (by omega)];omega
 simp[numOp,arith,e]
theorem m_quo4{a:Nat}(h1:a<9223372036854775808):numOp .quo (.int .i64 a) (.int .i64 4)=some (.int .i64 ((a / 4:Nat):Int)):=by
 have e:wrapA .i64 ((a:Int).tdiv 4)=((a / 4:Nat):Int):=by
  rw[Int.tdiv_eq_ediv_of_nonneg (by omega),wrapA_i64 (by omega) (by omega)];omega
 have e2:numOp .quo (.int .i64 a) (.int .i64 4)=some (.int .i64 (wrapA .i64 ((a:Int).tdiv 4))):=rfl
 rw[e2,e]
structure FnsTu (T:Nat→Option AFunc):Prop where
 p:primAS T
 f263:T 263=some f263
 f317:T 317=some f317
 f318:T 318=some f318
 f319:T 319=some f319
 f320:T 320=some f320
 f321:T 321=some f321
 f322:T 322=some f322
theorem roll0(F:FnsTu T){h:Heap}(hr:Rdy h)(v:Value){c:Ce}(hc:InB c):Pu T 317 [v,ceV c] h (ceV (rollC 0 c)):=by
 refine .of F.p F.f317 hr rfl ?_
 obtain⟨cx,cy,cz⟩:=c
 obtain⟨hx,hy,hz⟩:=hc
 dsimp only at hx hy hz
 have mx:=m_sub7 hx
 have my:=m_sub7 hy
 have mz:=m_sub7 hz
 have ck:ltake 3 (ldrop 0 (ceL (rollC 0 ⟨cx,cy,cz⟩)))=ceL (rollC 0 ⟨cx,cy,cz⟩):=rfl
 refine y4 ?_;refine yB ?_;refine wO_val (a_new) ?_;refine y3 ?_;refine y4 ?_
 refine yN ?_
 refine yS ?_;refine y3 ?_;refine wE_ret ?_
 refine endP_ret ?_ (res_cells (own:=true) (s:=1) rfl ?_ ck rfl rfl) rfl
 ·rw[Heap.log_wr_new (by show h.next≤h.next+1;omega)];exact hr.log
 ·(simp(disch:=first|omega|(simp only[z1,z2];omega)|(simp only[z1,z2];done)|fail)only[z8,z4,z5,z9,z7,z1,z2];exact rfl)
theorem roll1(F:FnsTu T){h:Heap}(hr:Rdy h)(v:Value){c:Ce}(hc:InB c):Pu T 318 [v,ceV c] h (ceV (rollC 1 c)):=by
 refine .of F.p F.f318 hr rfl ?_
 obtain⟨cx,cy,cz⟩:=c
 obtain⟨hx,hy,hz⟩:=hc
 dsimp only at hx hy hz
 have mx:=m_sub7 hx
 have my:=m_sub7 hy
 have mz:=m_sub7 hz
 have ck:ltake 3 (ldrop 0 (ceL (rollC 1 ⟨cx,cy,cz⟩)))=ceL (rollC 1 ⟨cx,cy,cz⟩):=rfl
 refine y4 ?_;refine yB ?_;refine wO_val (a_new) ?_;refine y3 ?_;refine y4 ?_;refine yF ?_
 refine yL ?_;refine yF ?_
 refine yL ?_;refine wO_val (a_num (by exact rfl) (by exact rfl) (by with_reducible assumption)) ?_
 refine yF ?_;refine yL ?_;refine wO_val (a_build (by exact rfl)) ?_
 refine yS ?_;refine y3 ?_;refine wE_ret ?_
 refine endP_ret ?_ (res_cells (own:=true) (s:=1) rfl ?_ ck rfl rfl) rfl
 ·rw[Heap.log_wr_new (by show h.next≤h.next+1;omega)];exact hr.log
 ·(simp(disch:=first|omega|(simp only[z1,z2];omega)|(simp only[z1,z2];done)|fail)only[z8,z4,z5,z9,z7,z1,z2];exact rfl)
theorem roll2(F:FnsTu T){h:Heap}(hr:Rdy h)(v:Value){c:Ce}(hc:InB c):Pu T 319 [v,ceV c] h (ceV (rollC 2 c)):=by
 refine .of F.p F.f319 hr rfl ?_
 obtain⟨cx,cy,cz⟩:=c
 obtain⟨hx,hy,hz⟩:=hc
 dsimp only at hx hy hz
 have mx:=m_sub7 hx
 have my:=m_sub7 hy
 have mz:=m_sub7 hz
 have ck:ltake 3 (ldrop 0 (ceL (rollC 2 ⟨cx,cy,cz⟩)))=ceL (rollC 2 ⟨cx,cy,cz⟩):=rfl
 refine y4 ?_;refine yB ?_;refine wO_val (a_new) ?_;refine y3 ?_;refine y4 ?_;refine yF ?_
 refine yL ?_;refine yF ?_
 refine yL ?_;refine wO_val (a_num (by exact rfl) (by exact rfl) (by with_reducible assumption)) ?_
 refine yF ?_;refine yL ?_
 refine wO_val (a_num (by exact rfl) (by exact rfl) (by with_reducible assumption)) ?_;refine wO_val (a_build (by exact rfl)) ?_
 refine yS ?_;refine y3 ?_;refine wE_ret ?_
 refine endP_ret ?_ (res_cells (own:=true) (s:=1) rfl ?_ ck rfl rfl) rfl
 ·rw[Heap.log_wr_new (by show h.next≤h.next+1;omega)];exact hr.log
 ·(simp(disch:=first|omega|(simp only[z1,z2];omega)|(simp only[z1,z2];done)|fail)only[z8,z4,z5,z9,z7,z1,z2];exact rfl)
theorem roll3(F:FnsTu T){h:Heap}(hr:Rdy h)(v:Value){c:Ce}(hc:InB c):Pu T 320 [v,ceV c] h (ceV (rollC 3 c)):=by
 refine .of F.p F.f320 hr rfl ?_
 obtain⟨cx,cy,cz⟩:=c
 obtain⟨hx,hy,hz⟩:=hc
 dsimp only at hx hy hz
 have mx:=m_sub7 hx
 have my:=m_sub7 hy
 have mz:=m_sub7 hz
 have ck:ltake 3 (ldrop 0 (ceL (rollC 3 ⟨cx,cy,cz⟩)))=ceL (rollC 3 ⟨cx,cy,cz⟩):=rfl
 refine y4 ?_;refine yB ?_;refine wO_val (a_new) ?_;refine y3 ?_;refine y4 ?_;refine yF ?_
 refine yL ?_;refine yF ?_
 refine yL ?_;refine yF ?_
 refine yL ?_;refine wO_val (a_num (by exact rfl) (by exact rfl) (by with_reducible assumption)) ?_
 refine wO_val (a_build (by exact rfl)) ?_
 refine yS ?_;refine y3 ?_;refine wE_ret ?_
 refine endP_ret ?_ (res_cells (own:=true) (s:=1) rfl ?_ ck rfl rfl) rfl
 ·rw[Heap.log_wr_new (by show h.next≤h.next+1;omega)];exact hr.log
 ·(simp(disch:=first|omega|(simp only[z1,z2];omega)|(simp only[z1,z2];done)|fail)only[z8,z4,z5,z9,z7,z1,z2];exact rfl)
theorem roll4(F:FnsTu T){h:Heap}(hr:Rdy h)(v:Value){c:Ce}(hc:InB c):Pu T 321 [v,ceV c] h (ceV (rollC 4 c)):=by
 refine .of F.p F.f321 hr rfl ?_
 obtain⟨cx,cy,cz⟩:=c
 obtain⟨hx,hy,hz⟩:=hc
 dsimp only at hx hy hz
 have mx:=m_sub7 hx
 have my:=m_sub7 hy
 have mz:=m_sub7 hz
 have ck:ltake 3 (ldrop 0 (ceL (rollC 4 ⟨cx,cy,cz⟩)))=ceL (rollC 4 ⟨cx,cy,cz⟩):=rfl
 refine y4 ?_;refine yB ?_;refine wO_val (a_new) ?_;refine y3 ?_;refine y4 ?_;refine yF ?_
 refine yL ?_;refine yF ?_
 refine yL ?_;refine yF ?_
 refine yL ?_;refine wO_val (a_num (by exact rfl) (by exact rfl) (by with_reducible assumption)) ?_
 refine wO_val (a_build (by exact rfl)) ?_
 refine yS ?_;refine y3 ?_;refine wE_ret ?_
 refine endP_ret ?_ (res_cells (own:=true) (s:=1) rfl ?_ ck rfl rfl) rfl
 ·rw[Heap.log_wr_new (by show h.next≤h.next+1;omega)];exact hr.log
 ·(simp(disch:=first|omega|(simp only[z1,z2];omega)|(simp only[z1,z2];done)|fail)only[z8,z4,z5,z9,z7,z1,z2];exact rfl)
theorem roll5(F:FnsTu T){h:Heap}(hr:Rdy h)(v:Value){c:Ce}(hc:InB c):Pu T 322 [v,ceV c] h (ceV (rollC 5 c)):=by
 refine .of F.p F.f322 hr rfl ?_
 obtain⟨cx,cy,cz⟩:=c
 obtain⟨hx,hy,hz⟩:=hc
 dsimp only at hx hy hz
 have mx:=m_sub7 hx
 have my:=m_sub7 hy
 have mz:=m_sub7 hz
 have ck:ltake 3 (ldrop 0 (ceL (rollC 5 ⟨cx,cy,cz⟩)))=ceL (rollC 5 ⟨cx,cy,cz⟩):=rfl
 refine y4 ?_;refine yB ?_;refine wO_val (a_new) ?_;refine y3 ?_;refine y4 ?_;refine yF ?_
 refine yL ?_;refine wO_val (a_num (by exact rfl) (by exact rfl) (by with_reducible assumption)) ?_
 refine yF ?_;refine yL ?_;refine yF ?_
 refine yL ?_;refine wO_val (a_build (by exact rfl)) ?_
 refine yS ?_;refine y3 ?_;refine wE_ret ?_
 refine endP_ret ?_ (res_cells (own:=true) (s:=1) rfl ?_ ck rfl rfl) rfl
 ·rw[Heap.log_wr_new (by show h.next≤h.next+1;omega)];exact hr.log
 ·(simp(disch:=first|omega|(simp only[z1,z2];omega)|(simp only[z1,z2];done)|fail)only[z8,z4,z5,z9,z7,z1,z2];exact rfl)
theorem rollK(F:FnsTu T){h:Heap}(hr:Rdy h)(v:Value){c:Ce}(hc:InB c):∀k,k<6→Pu T (317+k) [v,ceV c] h (ceV (rollC k c))
 |0,_=>roll0 F hr v hc
 |1,_=>roll1 F hr v hc
 |2,_=>roll2 F hr v hc
 |3,_=>roll3 F hr v hc
 |4,_=>roll4 F hr v hc
 |5,_=>roll5 F hr v hc
 |k+6,h=>by omega
def rollV(k:Nat):Value:= .func (.func (317+k)) #[.int .i64 0] #[]
def rollsL:List Value:=[rollV 0,rollV 1,rollV 2,rollV 3,rollV 4,rollV 5]
theorem rolls_at:∀k,k<6→lget rollsL (0+k*1)=some (rollV k)
 |0,_=>rfl
 |1,_=>rfl
 |2,_=>rfl
 |3,_=>rfl
 |4,_=>rfl
 |5,_=>rfl
 |k+6,h=>by omega
set_option maxHeartbeats 8000000 in
theorem turned263(F:FnsTu T){h:Heap}(hr:Rdy h){c:Ce}(hc:InB c){t:Nat}(ht:t<24):Pu T 263 [ceV c, .int .i64 (t:Nat)] h (ceV (turnC t c)):=by
 refine .of F.p F.f263 hr rfl ?_
 have x0:Ext h ((h.push (.cells (cellsOf (ceV c)) true 1)).push (.cells [I.O,I.O,I.O] true 1)):=((Ext.refl h).push _).push _
 have g0:((h.push (.cells (cellsOf (ceV c)) true 1)).push (.cells [I.O,I.O,I.O] true 1)).get h.next=some (.cells (ceL c) true 1):=(z4 (Nat.lt_succ_self _)).trans (z3 h _)
 have g1:((h.push (.cells (cellsOf (ceV c)) true 1)).push (.cells [I.O,I.O,I.O] true 1)).get (h.next+1)=some (.cells [I.O,I.O,I.O] true 1):=z3 _ _
 have n0:((h.push (.cells (cellsOf (ceV c)) true 1)).push (.cells [I.O,I.O,I.O] true 1)).next=h.next+2:=rfl
 refine y4 ?_;refine yB ?_;refine wO_val (a_new) ?_;refine y3 ?_
 generalize((h.push (.cells (cellsOf (ceV c)) true 1)).push (.cells [I.O,I.O,I.O] true 1))=H at*
 have W:=x0.wf hr.wf
 have hL:=x0.log.trans hr.log
 refine y4 ?_;refine yM ?_;refine y3 ?_
 refine wE_cutP (E0:=[(1, .int .i64 (t:Nat)),(2, .pointer (some ⟨h.next,0,none⟩)),(4, .pointer (some ⟨h.next+1,0,none⟩)),(6, .pointer (some ⟨H.next,0,none⟩))]) (P:=fun h'=>Ext H h'∧h'.next=H.next+1∧h'.get H.next=some (.cells rollsL true 1)) ?_ ?_
 ·refine wE_region ?_;refine yM ?_;refine wO_val (a_mkFunc (by exact rfl) (by exact rfl)) ?_;refine yM ?_;refine wO_val (a_mkFunc (by exact rfl) (by exact rfl)) ?_;refine yM ?_;refine wO_val (a_mkFunc (by exact rfl) (by exact rfl)) ?_;refine yM ?_
  refine wO_val (a_mkFunc (by exact rfl) (by exact rfl)) ?_;refine yM ?_;refine wO_val (a_mkFunc (by exact rfl) (by exact rfl)) ?_;refine yM ?_;refine wO_val (a_mkFunc (by exact rfl) (by exact rfl)) ?_;refine wO_val (a_build (by exact rfl)) ?_;refine wO_val (a_new) ?_
  refine yS ?_;refine wO_nil ?_
  refine y1 ?_
  exact⟨rfl,rfl,rfl,ext_pw (by omega) _ _,rfl,get_pw _ _⟩
 rintro H1 ⟨x1,n1,q1⟩
 have ey1':=x0.trans x1
 have W1:=ey1'.wf hr.wf
 have hL1:=ey1'.log.trans hr.log
 have ga:=(x1.old _ (by omega)).trans g0
 have gb:=(x1.old _ (by omega)).trans g1
 have hk:t / 4<6:=by omega
 have m1:numOp .quo (.int .i64 (t:Nat)) (.int .i64 4)=some (.int .i64 ((t / 4:Nat):Int)):=m_quo4 (by omega)
 have m2:numOp .rem (.int .i64 (t:Nat)) (.int .i64 4)=some (.int .i64 ((t % 4:Nat):Int)):=m_rem4
 have e1:=rolls_at (t / 4) hk
 have C:=rollK F (h:={H1 with log:=[]}) (.of W1) (.int .i64 0) hc (t / 4) hk
 have hb:=hc.roll (t / 4)
 have hr4:t % 4<4:=by omega
 have ck:ltake 3 (ldrop 0 (ceL c))=ceL c:=rfl
 have ckl:Nat.beq (llen (ceL c)) 3=true:=rfl
 unfold turnC
 generalize hq:rollC (t / 4) c=d at*
 generalize t / 4=k at*
 generalize t % 4=r at*
 unfold rollV at e1
 clear g0 g1
 refine wE_seq ?_;refine wE_draw ?_;refine qM ?_;refine wD_quiet rfl rfl rfl (by exact rfl) (by exact rfl) (by exact rfl) (a_num (by exact rfl) (by exact rfl) (by with_reducible assumption)) ?_
 refine wD_quiet rfl rfl rfl (by exact rfl) (by exact rfl) (by exact rfl) (a_iaddrA (by exact rfl) (by exact rfl) (by omega)) ?_;refine wD_quiet rfl rfl rfl (by exact rfl) (by exact rfl) (by exact rfl) (a_load (by exact rfl) (by assumption) (by assumption)) ?_
 refine qN ?_
 refine qC ?_
 refine FW.puD C (by apply ra_dropC rfl;apply ra_dropC rfl;apply ra_dropC rfl;apply ra_dropC rfl;apply ra_dropC rfl;exact ra_nil) ?_
 clear C
 refine wD_store rfl rfl rfl (by exact rfl) (by exact rfl) (by exact rfl) (by assumption) (by exact rfl) (by exact rfl) (by omega) (by omega) (by exact ra_nil) ?_;refine wD_nil ?_;refine y1 ?_;refine kS_n ?_;refine wE_seq ?_;refine y4 ?_;refine yM ?_
 refine wO_val (a_num (by exact rfl) (by exact rfl) (by with_reducible assumption)) ?_;refine yM ?_;refine y3 ?_;refine wE_block ?_
 refine wE_loop (fun m e ds h'=>∃j:Nat,j≤r∧r-j=m∧e=[(2, .pointer (some ⟨h.next,0,none⟩)),(4, .pointer (some ⟨h.next+1,0,none⟩)),(27, .int .i64 (r:Nat)),(28, .int .i64 (j:Nat))]∧ds=[]∧Ext h h'∧h.next+2≤h'.next∧h'.get h.next=some (.cells (ceL (rotN j d)) true 1)∧h'.get (h.next+1)=some (.cells [I.O,I.O,I.O] true 1))
  ⟨0,Nat.zero_le _,rfl,rfl,rfl,⟨ey1'.next,(Heap.log_wr_new (by omega)).trans ey1'.log,fun b hb=>(z5 (by omega)).trans (ey1'.old b hb),fun w=>(ey1'.wf w).as (AS.wr h.next _ _ _)⟩,by show h.next+2≤H1.next;omega,by rw[z6,ga];rfl,(z5 (by omega)).trans gb⟩ ?_
 rintro m e ds h' ⟨j,hj,rfl,rfl,rfl,x,hn,gc,gd⟩
 have hbj:=hb.rot j
 by_cases hlt:j<r
 ·have hro:rotN (j+1) d=rotC (rotN j d):=rfl
  generalize rotN j d=b at*
  obtain⟨bx,by',bz⟩:=b
  obtain⟨_,hy,_⟩:=hbj
  dsimp only at hy
  have my:=m_sub7 hy
  unfold rotC at hro
  dsimp only at hro
  refine y4 ?_;refine yt ?_;refine y3 ?_;refine wE_seq ?_;refine yY ?_;refine wE_skip ?_;refine kS_n ?_;refine wE_seq ?_;refine wE_block ?_
  refine wE_region ?_;refine yF ?_;refine yL ?_;refine wO_val (a_num (by exact rfl) (by exact rfl) (by with_reducible assumption)) ?_;refine yF ?_;refine yL ?_;refine yF ?_
  refine yL ?_;refine wO_val (a_build (by exact rfl)) ?_;refine yS ?_;refine wO_nil ?_;refine y1 ?_;refine kB_n ?_;refine kS_n ?_;refine wE_region ?_
  refine yinc ?_;refine yM ?_;refine y3 ?_
  refine⟨r-(j+1),by omega,j+1,by omega,rfl,rfl,rfl,⟨x.next,(Heap.log_wr_new (by omega)).trans x.log,fun b hb=>(z5 (by omega)).trans (x.old b hb),fun w=>(x.wf w).as (AS.wr h.next _ _ _)⟩,hn,?_,(z5 (by omega)).trans gd⟩
  rw[z6,gc,hro];rfl
 ·obtain rfl:j=r:=by omega
  generalize rotN j d=b at*
  have ckb:ltake 3 (ldrop 0 (ceL b))=ceL b:=rfl
  have ckbl:Nat.beq (llen (ceL b)) 3=true:=rfl
  refine y4 ?_;refine yf ?_;refine y3 ?_;refine wE_seq ?_;refine yX ?_;refine wE_exit ?_;refine kS_e ?_;refine kS_e ?_;refine kB_e ?_;refine kS_n ?_
  refine y4 ?_;refine yN ?_;refine yS ?_;refine y3 ?_;refine wE_ret ?_
  refine endP_ret ?_ (res_cells (own:=true) (s:=1) rfl ?_ ckb ckbl rfl) rfl
  ·rw[Heap.log_wr_new (by show h.next≤h.next+1;omega)];exact x.log.trans hr.log
  ·(simp(disch:=first|omega|(simp only[z1,z2];omega))only[z3,z4,z5,z6,z7,z1,z2,q1,ga,gb,gd,gc];exact rfl)
end Go.A.Pk
end
section
set_option maxRecDepth 100000
namespace Go.A.Pk
variable {T:Nat→Option AFunc}
def putC(o:List Nat)(c:Ce):List Nat:=o.set c.z.toNat (Nat.lor (o.getD c.z.toNat 0) (2 ^ (8*c.y.toNat+c.x.toNat)))
theorem putC_of(o:List Nat){z i:Nat}(hi:i<64):putC o (ceOf z i)=o.set z (Nat.lor (o.getD z 0) (2 ^ i)):=by
 unfold putC ceOf
 dsimp only
 rw[show((z:Nat):Int).toNat=z by omega,show 8*((i / 8:Nat):Int).toNat+((i % 8:Nat):Int).toNat=i by omega]
theorem IsS.putC{o:List Nat}(h:IsS o){c:Ce}(hc:inG c=true):IsS (Pk.putC o c):=by
 obtain⟨z,i,hz,hi,rfl⟩:=inG_form hc
 rw[putC_of o hi]
 refine⟨by rw[List.length_set];exact h.len,fun x hx=> ?_⟩
 rcases List.mem_or_eq_of_mem_set hx with h1|h1
 ·exact h.lt x h1
 ·rw[h1];exact lor_lt (h.getD_lt z) (pow_lt64 hi)
def mapD(f:Ce→Ce)(l:List Ce):List Nat:=l.foldl (fun o c=>putC o (f c)) s0
def mapS(f:Ce→Ce)(s:List Nat):List Nat:=mapD f (cellsTo s 512)
theorem mapD_snoc(f:Ce→Ce)(l:List Ce)(c:Ce):mapD f (l++[c])=putC (mapD f l) (f c):=by unfold mapD;rw[List.foldl_append];rfl
theorem mapD_ok{f:Ce→Ce}:∀{l:List Ce},(∀c∈l,inG (f c)=true)→IsS (mapD f l):=by
 intro l
 have:∀(l:List Ce) (o:List Nat),IsS o→(∀c∈l,inG (f c)=true)→IsS (l.foldl (fun o c=>putC o (f c)) o):=by
  intro l
  induction l with
  |nil=>intro o ho _;exact ho
  |cons c l ih=>intro o ho hl;exact ih _ (ho.putC (hl c List.mem_cons_self)) fun x hx=>hl x (List.mem_cons_of_mem _ hx)
 exact fun hl=>this l s0 s0_ok hl
theorem us_put{o:List Nat}{z v:Nat}(hz:z<o.length):lputs (us o) (0+z*1) (cellsOf (.int .u64 (v:Nat)))=us (o.set z v):=by
 show lputs (us o) (0+z*1) [.int .u64 (v:Nat)]=_
 rw[Nat.zero_add,Nat.mul_one,lputs_mid (by rw[us_length];simp;omega)]
 unfold us
 rw[List.map_set,List.set_eq_take_append_cons_drop,if_pos (by simpa using hz)]
 simp
section
open I
def asg261:ACode:=I.R [g 7 (.new [O,O,O]),S 3 7 11] [3,4,5,6,7]
def bod261:ACode:=(.block 1 (Q (I.R [L 12 3,N 13 3 7,g 14 (.call (t 12) [(t 13)]),g 8 (.new [O,O,O]),S 3 8 14] [4,5,6,8])
 (Q (.seq (I.R [N 15 3 8,g 16 (.call (.func 126) [(t 15)]),g 17 (.un .not (t 16))] [4,5,6,8,17])
 (.cond (t 17) (Q (I.R [g 18 (.build (lrep 8 (.int .u64 0)) []),S 8 4 18,⟨none, .store 1 (t 5) (.const (.bool false)),none⟩] [])
 .ret) .skip))
 (.draw [A 19 2 8,L 20 19,g 21 (.iaddrA 8 1 (t 6) (t 20)),L 22 21,N 23 3 8,g 24 (.call (.func 127) [(t 23)]),B 25 .or 22 24,g 26 (.iaddrA 8 1 (t 6) (t 20)),S 1 26 25] [0,1,2,3,4,5,6,7,8] [0,1,3,7,0,16,63,127,255] []))))
end
structure FnsMp (T:Nat→Option AFunc):Prop where
 cp:FnsCp T
 tu:FnsTu T
 f126:T 126=some f126
 f127:T 127=some f127
 f211:T 211=some f211
 f215:T 215=some f215
 f261:T 261=some f261
 f262:T 262=some f262
set_option maxHeartbeats 16000000 in
theorem map_round(F:FnsMp T){H:Heap}(hr:Rdy H){q l lo N b3 b4 b5 gf:Nat}{cap fv:Value}{o:List Nat}(ho:IsS o){c d:Ce}(hd:inG d=true)(hlo:lo≤q)(hql:q<l)(hlN:l<N)(h3q:b3<q)
 (gl:H.get l=some (.loop [(3, .pointer (some ⟨b3,0,none⟩)),(4, .pointer (some ⟨b4,0,none⟩)),(5, .pointer (some ⟨b5,0,none⟩)),(6, .pointer (some ⟨q,0,none⟩)),(10,fv)] [11] asg261 bod261 0 .normal))
 (g3:H.get b3=some (.cells [.func (.func gf) #[] #[cap]] true 1))
 (hto:∀H':Heap,WF H'→(∀z,z<b3→H'.get z=H.get z)→Pu T gf [ceV c,cap] {H' with log:=[]} (ceV d))
 (go:H.get q=some (.cells (us o) true 1)){S:Heap→Prop}:
 FW T (.yield l) [ceV c] H fun r H'=>(∀z∈H'.log,lo≤z∧z<N)∧(r= .ret (.bool true)∧(H'.get q=some (.cells (us (putC o d)) true 1)∧(∀z,z<H.next→z≠q→H'.get z=H.get z)∧H.next≤H'.next)∨r= .ret (.bool false)∧l∈H'.log∧S H'):=by
 have hp:=F.cp.p
 have no:q≠l:=by omega
 have ko:=hr.wf.get_lt go
 have kl:=hr.wf.get_lt gl
 have k3:=hr.wf.get_lt g3
 refine FW.yieldX hp (R:=fun H'=>H'.get q=some (.cells (us (putC o d)) true 1)∧(∀z,z<H.next→z≠q→H'.get z=H.get z)∧H.next≤H'.next) gl rfl kl ⟨by omega,hlN⟩ ?_
 unfold asg261
 refine wE_region ?_;refine wO_val (a_new) ?_;refine yS ?_;refine wO_nil ?_
 refine y1 ?_
 refine⟨rfl,by(simp(disch:=first|omega|(simp only[z1,z2];omega))only[z3,z4,z5,z6,z7,z1,z2,gl,g3,go];exact rfl),?_⟩
 unfold bod261
 refine wE_block ?_
 refine WE.genC ?_
 intro hA hAe
 have A1:∀z,z<H.next→z≠l→H.get z=hA.get z:=fun z hz hne=>by rw[hAe];symm;simp(disch:=first|omega|(simp only[z1,z2];omega))only[z5,z4]
 have A3:hA.get H.next=some (.cells (ceL c) true 1):=by rw[hAe];(simp(disch:=first|omega|(simp only[z1,z2];omega))only[z3,z4,z5,z6,z7,z1,z2,gl,g3,go];exact rfl)
 have A2:hA.get l=some (.loop [(3, .pointer (some ⟨b3,0,none⟩)),(4, .pointer (some ⟨b4,0,none⟩)),(5, .pointer (some ⟨b5,0,none⟩)),(6, .pointer (some ⟨q,0,none⟩)),(10,fv)] [11] asg261 bod261 1 .normal):=by rw[hAe];(simp(disch:=first|omega|(simp only[z1,z2];omega))only[z3,z4,z5,z6,z7,z1,z2,gl,g3,go,A3];exact rfl)
 have A5:hA.next=H.next+1:=by rw[hAe];rfl
 have A6:hA.log=[]:=by rw[hAe];simp(disch:=first|omega|(simp only[z1,z2];omega))only[Heap.log_wr_new,Heap.log_push];exact hr.log
 have A7:WF hA:=by rw[hAe];exact(((hr.wf.push _).as (AS.wr _ _ _ _)).as (AS.wr _ _ _ _))
 clear hAe
 have Bo:=(A1 q ko no).symm.trans go
 have B3:=(A1 b3 k3 (by omega)).symm.trans g3
 have C1:=hto hA A7 fun z hz=>(A1 z (by omega) (by omega)).symm
 have ck:ltake 3 (ldrop 0 (ceL c))=ceL c:=rfl
 have ckl:Nat.beq (llen (ceL c)) 3=true:=rfl
 clear go hto
 refine wE_cutP (E0:=[(4, .pointer (some ⟨b4,0,none⟩)),(5, .pointer (some ⟨b5,0,none⟩)),(6, .pointer (some ⟨q,0,none⟩)),(8, .pointer (some ⟨hA.next,0,none⟩))]) (P:=fun h'=>Ext hA h'∧h'.next=hA.next+1∧h'.get hA.next=some (.cells (ceL d) true 1)) ?_ ?_
 ·refine wE_region ?_;refine yL ?_;refine yN ?_
  refine yC ?_
  refine FW.pu C1 ?_
  clear C1
  refine wO_val (a_new) ?_;refine yS ?_;refine wO_nil ?_
  refine y1 ?_
  exact⟨rfl,rfl,rfl,ext_pw (by omega) _ _,rfl,get_pw _ _⟩
 rintro hB ⟨xB,nB,gB⟩
 clear C1 A3
 have WB:=xB.wf A7
 have LB:=xB.log.trans A6
 have Bo2:=(xB.old _ (by omega)).trans Bo
 have Bl2:=(xB.old _ (by omega)).trans A2
 have C2:=inside126 hp F.f126 F.f215 (h:={hB with log:=[]}) (.of WB) d
 rw[hd]at C2
 obtain⟨z,i,hz,hi,rfl⟩:=inG_form hd
 have C3:=bit127 hp F.f127 (h:={hB with log:=[]}) (.of WB) (z:=z) hi
 have ckd:ltake 3 (ldrop 0 (ceL (ceOf z i)))=ceL (ceOf z i):=rfl
 have ckdl:Nat.beq (llen (ceL (ceOf z i))) 3=true:=rfl
 have lz:lget (ceL (ceOf z i)) (0+2)=some (.int .i64 ((z:Nat):Int)):=rfl
 have e1:=us_get (getD_at (s:=o) (i:=z) (by rw[ho.len];exact hz))
 have m1:=m_or (a:=o.getD z 0) (b:=2 ^ i) (ho.getD_lt z) (pow_lt64 hi)
 have kw:=us_put (o:=o) (z:=z) (v:=Nat.lor (o.getD z 0) (2 ^ i)) (by rw[ho.len];exact hz)
 rw[←putC_of o hi]at kw
 have kc:(Nat.beq (llen (cellsOf (.int .u64 ((Nat.lor (o.getD z 0) (2 ^ i):Nat):Int)))) 1&&Nat.ble (0+z*1+1) (llen (us o))&&ones (cellsOf (.int .u64 ((Nat.lor (o.getD z 0) (2 ^ i):Nat):Int))))=true:=by
  rw[llen_eq (us o),us_length,ho.len,nble_of (by omega)];rfl
 clear Bo A2 B3 g3
 refine wE_seq ?_;refine y4 ?_;refine yN ?_
 refine yC ?_
 refine FW.pu C2 ?_
 clear C2
 refine yA ?_;refine y3 ?_;refine yX ?_;refine wE_skip ?_;refine kS_n ?_;refine wE_draw ?_;refine qF ?_
 refine qL ?_;refine wD_quiet rfl rfl rfl (by exact rfl) (by exact rfl) (by exact rfl) (a_iaddrA (by exact rfl) (by exact rfl) (by omega)) ?_;refine wD_quiet rfl rfl rfl (by exact rfl) (by exact rfl) (by exact rfl) (a_load (by exact rfl) (by assumption) (by assumption)) ?_
 refine qN ?_
 refine qC ?_
 refine FW.puD C3 (by apply ra_dropC rfl;apply ra_keepC rfl (rq_quiet rfl (a_load (by exact rfl) (by assumption) (by assumption)) (by exact sv_int _ _)) rfl;apply ra_keepC rfl (rq_quiet rfl (a_iaddrA (by exact rfl) (by exact rfl) (by omega)) (by exact sv_ptr _)) rfl;apply ra_keepC rfl (rq_quiet rfl (a_load (by exact rfl) (by assumption) (by exact rfl)) (by exact sv_int _ _)) rfl;apply ra_keepC rfl (rq_quiet rfl (a_faddr (by exact rfl)) (by exact sv_ptr _)) rfl;exact ra_nil) ?_
 clear C3
 refine wD_quiet rfl rfl rfl (by exact rfl) (by exact rfl) (by exact rfl) (a_num (by exact rfl) (by exact rfl) (by with_reducible assumption)) ?_;refine wD_quiet rfl rfl rfl (by exact rfl) (by exact rfl) (by exact rfl) (a_iaddrA (by exact rfl) (by exact rfl) (by omega)) ?_
 refine wD_storeA (vs:=us o) (ws:=us (putC o (ceOf z i))) rfl rfl rfl (by exact rfl) (by exact rfl) (by exact rfl) Bo2 kc kw (by omega) (by apply ra_dropC rfl;apply ra_dropC rfl;apply ra_dropC rfl;apply ra_dropC rfl;apply ra_dropC rfl;apply ra_dropC rfl;exact ra_nil) ?_
 refine wD_nil ?_;refine y1 ?_;refine kB_n ?_
 refine⟨⟨_,by(simp(disch:=first|omega|(simp only[z1,z2];omega))only[z3,z4,z5,z6,z7,z1,z2,gl,Bo2,Bl2,gB];exact rfl),rfl⟩,fun z hz=> ?_, .inl ⟨rfl,fun h5 hn h5e h5l=> ?_⟩⟩
 ·have key:z=q:=by
   rcases wr_log_old hz with h|hz
   ·exact h
   rw[LB]at hz;cases hz
  subst key
  exact⟨hlo,by omega⟩
 ·refine⟨(h5e q ko no).trans (Heap.get_wr_new Bo2),fun z hz hne=> ?_,hn⟩
  by_cases hl:z=l
  ·subst hl
   rw[gl];exact h5l
  ·refine(h5e z hz hl).trans ?_
   rw[z5 hne,xB.old z (by omega)]
   exact(A1 z hz hl).symm
end Go.A.Pk
end
