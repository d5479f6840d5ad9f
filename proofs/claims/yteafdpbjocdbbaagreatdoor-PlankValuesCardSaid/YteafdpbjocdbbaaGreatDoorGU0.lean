/- Walks of functions, plain laws, the table. -/
import Derived.Test.YteafdpbjocdbbaaGreatDoorGD
import Derived.Test.YteafdpbjocdbbaaGreatDoorGG
set_option linter.all false
section
set_option maxRecDepth 100000
namespace Go.A.Pk
variable {T:Nat→Option AFunc}
structure Kd where
 id:Int
 w:Int
 h:Int
 worth:Int
 turn:Bool
def kc(k:Kd):List Value:=[.int .i64 k.id, .int .i64 k.w, .int .i64 k.h, .int .i64 k.worth, .bool k.turn]
def kcs:List Kd→List Value
 |[]=>[]
 |k::l=>kc k++kcs l
def ka(k:Kd):Value:= .agg #[.int .i64 k.id, .int .i64 k.w, .int .i64 k.h, .int .i64 k.worth, .bool k.turn]
def Right(k:Kd):Prop:=(1≤k.id∧k.id≤1000000)∧(1≤k.w∧k.w≤16)∧(1≤k.h∧k.h≤16)∧(0≤k.worth∧k.worth≤1000000)
instance(k:Kd):Decidable (Right k):=by unfold Right;infer_instance
theorem kcs_length:∀(l:List Kd),(kcs l).length=l.length*5
 |[]=>rfl
 |k::l=>by simp[kcs,kc,kcs_length l];omega
theorem kcs_drop:∀(l:List Kd) (i:Nat),(kcs l).drop (i*5)=kcs (l.drop i)
 |[],i=>by simp[kcs]
 |k::l,0=>by simp
 |k::l,i+1=>by
  rw[List.drop_succ_cons,←kcs_drop l i,show(i+1)*5=5+i*5 by omega,←List.drop_drop]
  rfl
theorem kcs_take:∀(l:List Kd) (i:Nat),(kcs l).take (i*5)=kcs (l.take i)
 |[],i=>by simp[kcs]
 |k::l,0=>by simp[kcs]
 |k::l,i+1=>by
  rw[List.take_succ_cons]
  show(kc k++kcs l).take _=kc k++kcs (l.take i)
  rw[←kcs_take l i,show(i+1)*5=(kc k).length+i*5 by simp[kc];omega,List.take_length_add_append]
theorem slice_elem{h:Heap}{b o n:Nat}{l:List Kd}(s:SliceAt h b o n 5 (kcs l)){i:Nat}{k:Kd}(hi:l[i]? =some k):∃vs own t,h.get b=some (.cells vs own t)∧ltake 5 (ldrop (o+i*5) vs)=kc k:=by
 obtain⟨vs,own,t,h1,h2⟩:=s.obj
 refine⟨vs,own,t,h1,?_⟩
 rw[ltake_eq,ldrop_eq]at h2⊢
 have hl:=s.len
 rw[kcs_length]at hl
 have hin:i<l.length:=(List.getElem?_eq_some_iff.1 hi).1
 have h3:(vs.drop (o+i*5)).take 5=(((vs.drop o).take (n*5)).drop (i*5)).take 5:=by
  rw[List.drop_take,List.drop_drop,List.take_take,Nat.min_eq_left (by omega)]
 rw[h3,h2,kcs_drop]
 have:l.drop i=k::l.drop (i+1):=by
  rw[List.drop_eq_getElem_cons hin]
  congr 1
  rw[List.getElem?_eq_getElem hin]at hi
  injection hi
 rw[this]
 rfl
theorem in77T(hp:primAS T)(hf:T 77=some f77){h:Heap}(hr:Rdy h){n a b:Int}(hn:a≤n∧n≤b):Pu T 77 [.int .i64 n, .int .i64 a, .int .i64 b] h (.bool true):=by
 refine .of hp hf hr rfl ?_
 refine y4 ?_;refine yM ?_;refine y3 ?_;refine y4 ?_;refine yM ?_;refine yM ?_
 refine yt ?_;refine yM ?_;refine yO ?_;refine yM ?_;refine yO ?_;refine yM ?_;refine yO ?_;refine yt ?_
 refine yT ?_;refine yM ?_;refine y3 ?_;refine wE_ret ?_
 exact endP_ret hr.log rfl rfl
theorem in77F(hp:primAS T)(hf:T 77=some f77){h:Heap}(hr:Rdy h){n a b:Int}(hn:¬ (a≤n∧n≤b)):Pu T 77 [.int .i64 n, .int .i64 a, .int .i64 b] h (.bool false):=by
 refine .of hp hf hr rfl ?_
 by_cases h1:a≤n
 ·refine y4 ?_;refine yM ?_;refine y3 ?_;refine y4 ?_;refine yM ?_;refine yM ?_
  refine yt ?_;refine yM ?_;refine yO ?_;refine yM ?_;refine yO ?_;refine yM ?_;refine yO ?_;refine yf ?_
  refine yT ?_;refine yM ?_;refine y3 ?_;refine wE_ret ?_
  exact endP_ret hr.log rfl rfl
 ·refine y4 ?_;refine yM ?_;refine y3 ?_;refine y4 ?_;refine yM ?_;refine yM ?_
  refine yf ?_;refine yM ?_;refine yP ?_;refine yP ?_;refine yP ?_;refine yU ?_;refine yM ?_;refine y3 ?_;refine wE_ret ?_
  exact endP_ret hr.log rfl rfl
theorem in80T(hp:primAS T)(hf:T 80=some f80){h:Heap}(hr:Rdy h){n a b:Int}(hn:a≤n∧n≤b):Pu T 80 [.int .i64 n, .int .i64 a, .int .i64 b] h (.bool true):=by
 refine .of hp hf hr rfl ?_
 refine y4 ?_;refine yM ?_;refine y3 ?_;refine y4 ?_;refine yM ?_;refine yM ?_
 refine yt ?_;refine yM ?_;refine yO ?_;refine yM ?_;refine yO ?_;refine yM ?_;refine yO ?_;refine yt ?_
 refine yT ?_;refine yM ?_;refine y3 ?_;refine wE_ret ?_
 exact endP_ret hr.log rfl rfl
theorem in80F(hp:primAS T)(hf:T 80=some f80){h:Heap}(hr:Rdy h){n a b:Int}(hn:¬ (a≤n∧n≤b)):Pu T 80 [.int .i64 n, .int .i64 a, .int .i64 b] h (.bool false):=by
 refine .of hp hf hr rfl ?_
 by_cases h1:a≤n
 ·refine y4 ?_;refine yM ?_;refine y3 ?_;refine y4 ?_;refine yM ?_;refine yM ?_
  refine yt ?_;refine yM ?_;refine yO ?_;refine yM ?_;refine yO ?_;refine yM ?_;refine yO ?_;refine yf ?_
  refine yT ?_;refine yM ?_;refine y3 ?_;refine wE_ret ?_
  exact endP_ret hr.log rfl rfl
 ·refine y4 ?_;refine yM ?_;refine y3 ?_;refine y4 ?_;refine yM ?_;refine yM ?_
  refine yf ?_;refine yM ?_;refine yP ?_;refine yP ?_;refine yP ?_;refine yU ?_;refine yM ?_;refine y3 ?_;refine wE_ret ?_
  exact endP_ret hr.log rfl rfl
theorem right117(hp:primAS T)(hf:T 117=some f117)(hf7:T 77=some f77){h:Heap}(hr:Rdy h)(k:Kd):Pu T 117 [ka k] h (.bool (decide (Right k))):=by
 by_cases c:Right k
 ·rw[decide_eq_true c]
  unfold Right at c
  refine .of hp hf hr rfl ?_
  refine y4 ?_;refine yB ?_;refine yM ?_;refine y3 ?_;refine y4 ?_;refine yF ?_
  refine yL ?_
  refine yC ?_
  refine FW.pu (in77T hp hf7 (.of (hr.wf.push _)) (by omega)) ?_
  refine yM ?_;refine yO ?_;refine yF ?_;refine yO ?_
  refine yL ?_;refine yO ?_
  refine yC ?_
  refine FW.pu (in77T hp hf7 (.of (hr.wf.push _)) (by omega)) ?_
  refine yT ?_;refine yM ?_;refine yO ?_;refine yF ?_;refine yO ?_
  refine yL ?_;refine yO ?_
  refine yC ?_
  refine FW.pu (in77T hp hf7 (.of (hr.wf.push _)) (by omega)) ?_
  refine yT ?_;refine yM ?_;refine yO ?_;refine yF ?_;refine yO ?_
  refine yL ?_;refine yO ?_
  refine yC ?_
  refine FW.pu (in77T hp hf7 (.of (hr.wf.push _)) (by omega)) ?_
  refine yT ?_;refine yM ?_;refine y3 ?_;refine wE_ret ?_
  exact endP_ret hr.log rfl rfl
 ·rw[decide_eq_false c]
  unfold Right at c
  refine .of hp hf hr rfl ?_
  refine y4 ?_;refine yB ?_;refine yM ?_;refine y3 ?_;refine y4 ?_;refine yF ?_
  refine yL ?_
  refine yC ?_
  by_cases c1:1≤k.id∧k.id≤1000000
  ·refine FW.pu (in77T hp hf7 (.of (hr.wf.push _)) c1) ?_
   refine yM ?_;refine yO ?_;refine yF ?_;refine yO ?_
   refine yL ?_;refine yO ?_
   refine yC ?_
   by_cases c2:1≤k.w∧k.w≤16
   ·refine FW.pu (in77T hp hf7 (.of (hr.wf.push _)) c2) ?_
    refine yT ?_;refine yM ?_;refine yO ?_;refine yF ?_;refine yO ?_
    refine yL ?_;refine yO ?_
    refine yC ?_
    by_cases c3:1≤k.h∧k.h≤16
    ·refine FW.pu (in77T hp hf7 (.of (hr.wf.push _)) c3) ?_
     refine yT ?_;refine yM ?_;refine yO ?_;refine yF ?_;refine yO ?_
     refine yL ?_;refine yO ?_
     refine yC ?_
     refine FW.pu (in77F hp hf7 (.of (hr.wf.push _)) (by omega)) ?_
     refine yT ?_;refine yM ?_;refine y3 ?_;refine wE_ret ?_
     exact endP_ret hr.log rfl rfl
    ·refine FW.pu (in77F hp hf7 (.of (hr.wf.push _)) c3) ?_
     refine yT ?_;refine yM ?_;refine yP ?_;refine yP ?_;refine yP ?_;refine yU ?_;refine yM ?_;refine y3 ?_;refine wE_ret ?_
     exact endP_ret hr.log rfl rfl
   ·refine FW.pu (in77F hp hf7 (.of (hr.wf.push _)) c2) ?_
    refine yT ?_;refine yM ?_;refine yP ?_;refine yP ?_;refine yP ?_;refine yU ?_;refine yM ?_;refine yP ?_
    refine yP ?_;refine yP ?_;refine yU ?_;refine yM ?_;refine y3 ?_;refine wE_ret ?_
    exact endP_ret hr.log rfl rfl
  ·refine FW.pu (in77F hp hf7 (.of (hr.wf.push _)) c1) ?_
   refine yM ?_;refine yP ?_;refine yP ?_;refine yP ?_;refine yU ?_;refine yM ?_;refine yP ?_;refine yP ?_
   refine yP ?_;refine yU ?_;refine yM ?_;refine yP ?_;refine yP ?_;refine yP ?_;refine yU ?_;refine yM ?_
   refine y3 ?_;refine wE_ret ?_
   exact endP_ret hr.log rfl rfl
theorem same119(hp:primAS T)(hf:T 119=some f119){h:Heap}(hr:Rdy h)(x y:Kd){b s:Nat}{own:Bool}(hb:h.get b=some (.cells (kc y) own s))(hlt:b<h.next):Pu T 119 [ka x, .pointer (some ⟨b,0,none⟩)] h (.bool (x.id==y.id)):=by
 refine .of hp hf hr rfl ?_
 refine y4 ?_;refine yB ?_;refine yM ?_;refine y3 ?_;refine y4 ?_;refine yF ?_
 refine yL ?_;refine yF ?_
 refine yL ?_;refine wO_val (a_num (by exact rfl) (by exact rfl) (by exact m_eql)) ?_;refine yM ?_
 refine y3 ?_;refine wE_ret ?_
 exact endP_ret hr.log rfl rfl
end Go.A.Pk
end
section
set_option maxRecDepth 100000
namespace Go.A.Pk
variable {T:Nat→Option AFunc}
def idxK(p:Kd→Bool)(l:List Kd):Int:=match l.findIdx? p with
 |some i=>i
 |none=> -1
theorem idxK_at{p:Kd→Bool}{l:List Kd}{i:Nat}{k:Kd}(hi:l[i]? =some k)(hp:p k=true)(hj:∀(j:Nat) (k':Kd),j<i→l[j]? =some k'→p k'=false):idxK p l=i:=by
 have:l.findIdx? p=some i:=by
  rw[List.findIdx?_eq_some_iff_getElem]
  obtain⟨h1,h2⟩:=List.getElem?_eq_some_iff.1 hi
  refine⟨h1,by rw[h2];exact hp,fun j hji=> ?_⟩
  have:=hj j l[j] hji (List.getElem?_eq_getElem (by omega))
  simp[this]
 simp[idxK,this]
theorem idxK_none{p:Kd→Bool}{l:List Kd}(hj:∀(j:Nat) (k':Kd),l[j]? =some k'→p k'=false):idxK p l= -1:=by
 have:l.findIdx? p=none:=by
  rw[List.findIdx?_eq_none_iff]
  intro x hx
  obtain⟨j,hj1,rfl⟩:=List.mem_iff_getElem.1 hx
  exact hj j _ (List.getElem?_eq_getElem hj1)
 simp[idxK,this]
theorem idxK_any(p:Kd→Bool)(l:List Kd):decide (0≤idxK p l)=l.any p:=by
 unfold idxK
 cases h:l.findIdx? p with
 |none=>
  have:l.any p=false:=by
   rw[List.findIdx?_eq_none_iff]at h
   rw[List.any_eq_false]
   intro x hx
   simp[h x hx]
  rw[this];rfl
 |some i=>
  have:l.any p=true:=by
   rw[List.findIdx?_eq_some_iff_getElem]at h
   obtain⟨h1,h2,_⟩:=h
   rw[List.any_eq_true]
   exact⟨_,List.getElem_mem h1,h2⟩
  rw[this];simp
theorem index147(hp:primAS T)(hf:T 147=some f147){h:Heap}(hr:Rdy h){v:Value}{n:Nat}{l:List Kd}(hs:SliceOf h 5 v n (kcs l))(hn:n<1000000){g:Nat}{cap:Array Value}{p:Kd→Bool}
 (hg:∀k∈l,Pu T g (ka k::cap.toList) h (.bool (p k))):Pu T 147 [v, .func (.func g) #[] cap] h (.int .i64 (idxK p l)):=by
 obtain⟨ob,nx,lg⟩:=h
 obtain rfl:lg=[]:=hr.log
 have hlen:l.length=n:=by have:=hs.len;rw[kcs_length]at this;omega
 obtain⟨a,c,rfl⟩:=hs.form
 refine .of hp hf hr rfl ?_
 refine y4 ?_;refine yM ?_;refine y3 ?_;refine wE_seq ?_;refine y4 ?_;refine yM ?_;refine yD ?_;refine yM ?_
 refine y3 ?_;refine wE_block ?_
 refine wE_loop (fun k e ds h'=>∃i:Nat,i≤n∧k=n-i∧e=[(0, .slice a n c),(1, .func (.func g) #[] cap),(7, .int .i64 n),(8, .int .i64 i)]∧ds=[]∧h'=⟨ob,nx,[]⟩∧∀(j:Nat) (k':Kd),j<i→l[j]? =some k'→p k'=false)
  ⟨0,Nat.zero_le _,rfl,rfl,rfl,rfl,fun j k' hj=>absurd hj (Nat.not_lt_zero j)⟩ ?_
 rintro k e ds h' ⟨i,hi,rfl,rfl,rfl,rfl,hpre⟩
 by_cases hlt:i<n
 ·obtain⟨x,hx⟩:∃x,l[i]? =some x:=⟨l[i],List.getElem?_eq_getElem (by omega)⟩
  rcases hs.inv with⟨_,_,h0,_⟩|⟨b,o,cap',hv,s,_⟩
  ·omega
  ·cases hv
   obtain⟨vs,own,t,g1,g2⟩:=slice_elem s hx
   refine y4 ?_;refine yt ?_;refine y3 ?_;refine wE_seq ?_;refine yY ?_;refine wE_skip ?_;refine kS_n ?_;refine wE_seq ?_;refine wE_block ?_;refine y4 ?_;refine yM ?_;refine yM ?_;refine y3 ?_;refine y4 ?_;refine yM ?_;refine yM ?_;refine yM ?_
   refine wO_val (a_iaddrS (by exact rfl) (by exact rfl) hlt) ?_
   refine wO_val (a_loadN (by exact rfl) g1 g2 (by exact rfl)) ?_
   refine yC ?_
   refine FW.pu (hg x (List.mem_of_getElem? hx)) ?_
   cases hpx:p x with
   |true=>
    refine y3 ?_;refine yY ?_;refine y4 ?_;refine yM ?_;refine yM ?_;refine y3 ?_;refine wE_ret ?_;refine kB_r ?_;refine kS_r ?_;refine kS_r ?_;refine kB_r ?_;refine kS_r ?_
    refine endP_ret rfl rfl ?_
    show Value.int .i64 i=_
    rw[idxK_at hx hpx hpre]
   |false=>
    refine y3 ?_;refine yX ?_;refine wE_skip ?_;refine kB_n ?_;refine kS_n ?_;refine wE_region ?_;refine yinc ?_;refine yM ?_;refine y3 ?_
    refine⟨n-(i+1),by omega,i+1,by omega,rfl,rfl,rfl,rfl,fun j k' hj hk'=> ?_⟩
    by_cases hji:j<i
    ·exact hpre j k' hji hk'
    ·obtain rfl:j=i:=by omega
     rw[hx]at hk';cases hk';exact hpx
 ·obtain rfl:i=n:=by omega
  refine y4 ?_;refine yf ?_;refine y3 ?_;refine wE_seq ?_;refine yX ?_;refine wE_exit ?_;refine kS_e ?_;refine kS_e ?_;refine kB_e ?_;refine kS_n ?_
  refine y4 ?_;refine yM ?_;refine y3 ?_;refine wE_ret ?_
  refine endP_ret rfl rfl ?_
  show Value.int .i64 (-1)=_
  rw[idxK_none fun j k' hk'=>hpre j k' (by have:=(List.getElem?_eq_some_iff.1 hk').1;omega) hk']
theorem contains118(hp:primAS T)(hf:T 118=some f118)(hf7:T 147=some f147){h:Heap}(hr:Rdy h){v:Value}{n:Nat}{l:List Kd}(hs:SliceOf h 5 v n (kcs l))(hn:n<1000000){g:Nat}{cap:Array Value}{p:Kd→Bool}
 (hg:∀k∈l,Pu T g (ka k::cap.toList) h (.bool (p k))):Pu T 118 [v, .func (.func g) #[] cap] h (.bool (l.any p)):=by
 obtain⟨ob,nx,lg⟩:=h
 obtain rfl:lg=[]:=hr.log
 refine .of hp hf hr rfl ?_
 refine y4 ?_;refine yM ?_;refine y3 ?_;refine y4 ?_;refine yM ?_;refine yM ?_
 refine yC ?_
 refine FW.pu (index147 hp hf7 hr hs hn hg) ?_
 refine wO_val (a_num (by exact rfl) (by exact rfl) (by exact m_geq)) ?_;refine yM ?_;refine y3 ?_;refine wE_ret ?_
 refine endP_ret rfl rfl ?_
 show Value.bool (decide (0≤idxK p l))=_
 rw[idxK_any]
end Go.A.Pk
end
section
set_option maxRecDepth 100000
namespace Go.A.Pk
variable {T:Nat→Option AFunc}
def goodK(l:List Kd)(i:Nat):Bool:=match l[i]? with
 |some k=>decide (Right k)&& !(l.take i).any fun x=>x.id==k.id
 |none=>true
def good(kerf:Int)(l:List Kd)(i:Nat):Bool:=decide (0≤kerf∧kerf≤2)&&(List.range i).all (goodK l)
theorem good_succ(kerf:Int)(l:List Kd)(i:Nat):good kerf l (i+1)=(good kerf l i&&goodK l i):=by
 simp[good,List.range_succ,Bool.and_assoc]
def chk(kerf:Int)(l:List Kd):Int:=if 12<l.length then 2 else if good kerf l l.length then 0 else 1
structure FnsA (T:Nat→Option AFunc):Prop where
 p:primAS T
 f77:T 77=some f77
 f117:T 117=some f117
 f119:T 119=some f119
 f147:T 147=some f147
 f118:T 118=some f118
 f66:T 66=some f66
set_option maxHeartbeats 4000000 in
theorem check66(F:FnsA T){h:Heap}(hr:Rdy h){a:Option Addr}{n c:Nat}{l:List Kd}(hs:SliceOf h 5 (.slice a n c) n (kcs l))(kerf:Int)(hn:n<1000000):Pu T 66 [.agg #[.slice a n c, .int .i64 kerf]] h (.int .i64 (chk kerf l)):=by
 have hlen:l.length=n:=by have:=hs.len;rw[kcs_length]at this;omega
 refine .of F.p F.f66 hr rfl ?_
 by_cases h12:12<n
 ·refine y4 ?_;refine yB ?_;refine yM ?_;refine y3 ?_;refine wE_seq ?_;refine y4 ?_;refine yF ?_
  refine yL ?_;refine yD ?_
  refine yt ?_;refine y3 ?_;refine yY ?_;refine y4 ?_;refine yM ?_;refine y3 ?_;refine wE_ret ?_;refine kS_r ?_
  refine endP_ret hr.log rfl ?_
  show Value.int .i64 2=_
  rw[chk,if_pos (by omega)]
 ·have hchk:chk kerf l=if good kerf l n then 0 else 1:=by rw[chk,if_neg (by omega),hlen]
  rw[hchk]
  refine y4 ?_;refine yB ?_;refine yM ?_;refine y3 ?_;refine wE_seq ?_;refine y4 ?_;refine yF ?_
  refine yL ?_;refine yD ?_
  refine yf ?_;refine y3 ?_;refine yX ?_;refine wE_skip ?_;refine kS_n ?_;refine y4 ?_;refine yF ?_
  refine yL ?_
  refine yC ?_
  have c77:Pu T 77 [.int .i64 kerf, .int .i64 0, .int .i64 2] {h.push (.cells [.slice a n c, .int .i64 kerf] true 1)with log:=[]} (.bool (good kerf l 0)):=by
   have hg0:good kerf l 0=decide (0≤kerf∧kerf≤2):=by simp[good]
   rw[hg0]
   by_cases hk:0≤kerf∧kerf≤2
   ·rw[decide_eq_true hk];exact in77T F.p F.f77 (.of (hr.wf.push _)) hk
   ·rw[decide_eq_false hk];exact in77F F.p F.f77 (.of (hr.wf.push _)) hk
  refine FW.pu c77 ?_
  refine yM ?_;refine y3 ?_;refine wE_seq ?_;refine y4 ?_;refine yF ?_
  refine yL ?_;refine yD ?_;refine yM ?_;refine y3 ?_;refine wE_block ?_
  refine wE_loop (fun k e ds h'=>∃i:Nat,i≤n∧k=n-i∧e=[(1, .pointer (some ⟨h.next,0,none⟩)),(3, .bool (good kerf l i)),(14, .slice a n c),(15, .int .i64 n),(16, .int .i64 i)]∧ds=[]∧Ext (h.push (.cells [.slice a n c, .int .i64 kerf] true 1)) h')
   ⟨0,Nat.zero_le _,rfl,rfl,rfl, .refl _⟩ ?_
  rintro k e ds hi ⟨i,hin,rfl,rfl,rfl,hx⟩
  have hnx:h.next+1≤hi.next:=hx.next
  have hP:hi.get h.next=some (.cells [.slice a n c, .int .i64 kerf] true 1):=(hx.old _ (Nat.lt_succ_self _)).trans (z3 _ _)
  by_cases hlt:i<n
  ·obtain⟨x,hxl⟩:∃x,l[i]? =some x:=⟨l[i],List.getElem?_eq_getElem (by omega)⟩
   have hg1:good kerf l (i+1)=(good kerf l i&&(decide (Right x)&& !(l.take i).any fun y=>y.id==x.id)):=by rw[good_succ,goodK,hxl]
   have hs':=hs.ext (((Ext.refl h).push _).trans hx)
   rcases hs'.inv with⟨_,_,h0,_⟩|⟨b,o,cap',hv,s,hcap⟩
   ·omega
   ·cases hv
    obtain⟨vs,own,t,g1,g2⟩:=slice_elem s hxl
    have fin:∀{h':Heap} {v:Bool},v=good kerf l (i+1)→Ext (h.push (.cells [.slice (some ⟨b,o,none⟩) n c, .int .i64 kerf] true 1)) h'→∃k',k'<n-i∧∃i':Nat,i'≤n∧k'=n-i'∧
     [(1,Value.pointer (some ⟨h.next,0,none⟩)),(3, .bool v),(14, .slice (some ⟨b,o,none⟩) n c),(15, .int .i64 n),(16, .int .i64 (i+1:Nat))]=[(1, .pointer (some ⟨h.next,0,none⟩)),(3, .bool (good kerf l i')),(14, .slice (some ⟨b,o,none⟩) n c),(15, .int .i64 n),(16, .int .i64 i')]∧
     ([]:Dfs)=[]∧Ext (h.push (.cells [.slice (some ⟨b,o,none⟩) n c, .int .i64 kerf] true 1)) h':=fun hv hx'=>⟨n-(i+1),by omega,i+1,by omega,rfl,by rw[hv],rfl,hx'⟩
    cases hgd:good kerf l i with
    |false=>
     refine y4 ?_;refine yt ?_;refine y3 ?_;refine wE_seq ?_;refine yY ?_;refine wE_skip ?_;refine kS_n ?_;refine wE_seq ?_;refine wE_block ?_;refine y4 ?_;refine yM ?_
     refine wO_val (a_iaddrS (by exact rfl) (by exact rfl) hlt) ?_
     refine wO_val (a_loadN (by exact rfl) g1 g2 (by exact rfl)) ?_
     refine wO_val a_new ?_;refine yM ?_;refine yS ?_;refine y3 ?_;refine wE_region ?_;refine yM ?_;refine yM ?_;refine yP ?_;refine yP ?_;refine yU ?_
     refine yM ?_;refine yP ?_;refine yP ?_;refine yP ?_;refine yP ?_;refine yP ?_;refine yP ?_;refine yP ?_
     refine yP ?_;refine yU ?_;refine yM ?_;refine wO_nil ?_;refine y1 ?_;refine kB_n ?_;refine kS_n ?_;refine wE_region ?_;refine yinc ?_
     refine yM ?_;refine y3 ?_
     exact fin (by rw[hg1,hgd];rfl) ((hx.push _).wr hnx (by omega))
    |true=>
     refine y4 ?_;refine yt ?_;refine y3 ?_;refine wE_seq ?_;refine yY ?_;refine wE_skip ?_;refine kS_n ?_;refine wE_seq ?_;refine wE_block ?_;refine y4 ?_;refine yM ?_
     refine wO_val (a_iaddrS (by exact rfl) (by exact rfl) hlt) ?_
     refine wO_val (a_loadN (by exact rfl) g1 g2 (by exact rfl)) ?_
     refine wO_val a_new ?_;refine yM ?_;refine yS ?_;refine y3 ?_;refine wE_region ?_;refine yM ?_;refine yM ?_;refine yO ?_
     refine yN ?_;refine yO ?_
     refine yC ?_
     have hx3:=(hx.push (.cells [.int .i64 0, .int .i64 0, .int .i64 0, .int .i64 0, .bool false] true 1)).wr (base:=h.next) (o:= .cells (kc x) true 1) hnx (by omega)
     have hw3:=hx3.wf (hr.wf.push _)
     by_cases R:Right x
     ·have c117:=right117 F.p F.f117 F.f77 (.of hw3) x
      rw[decide_eq_true R]at c117
      refine FW.pu c117 ?_
      refine yT ?_;refine yM ?_;refine yO ?_;refine yF ?_;refine yO ?_
      refine yL ?_;refine yO ?_;refine yM ?_;refine yO ?_
      refine yM ?_;refine yO ?_
      refine wO_val (a_slice3 (by exact rfl) (by exact rfl) (by exact rfl) hin hcap hn (.inr ⟨_,_,rfl⟩)) ?_
      refine yO ?_;refine wO_val (a_mkFunc (by exact rfl) (by exact rfl)) ?_;refine yO ?_
      refine yC ?_
      have hsl:SliceOf {(hi.push (.cells [.int .i64 0, .int .i64 0, .int .i64 0, .int .i64 0, .bool false] true 1)).wr h.next hi.next (.cells (kc x) true 1)with log:=[]} 5 (.slice (some ⟨b,o,none⟩) i i) i (kcs (l.take i)):=by
       rw[←kcs_take]
       exact((hs.ext (((Ext.refl h).push _).trans hx3)).take hin).log _
      have c118:=contains118 F.p F.f118 F.f147 (.of hw3) hsl (by omega) (cap:= #[.pointer (some ⟨hi.next,0,none⟩)]) (g:=119) (p:=fun y=>y.id==x.id) (fun k hk=>same119 F.p F.f119 (.of hw3) k x (own:=true) (s:=1) (Heap.get_wr_new (base:=h.next) (z3 _ _)) (Nat.lt_succ_self _))
      cases hany:(l.take i).any (fun y=>y.id==x.id)with
      |true=>
       rw[hany]at c118
       refine FW.pu c118 ?_
       refine yO ?_;refine yA ?_;refine yT ?_;refine yM ?_;refine wO_nil ?_;refine y1 ?_;refine kB_n ?_;refine kS_n ?_;refine wE_region ?_
       refine yinc ?_;refine yM ?_;refine y3 ?_
       exact fin (by rw[hg1,hgd,hany,decide_eq_true R];rfl) hx3
      |false=>
       rw[hany]at c118
       refine FW.pu c118 ?_
       refine yO ?_;refine yA ?_;refine yT ?_;refine yM ?_;refine wO_nil ?_;refine y1 ?_;refine kB_n ?_;refine kS_n ?_;refine wE_region ?_
       refine yinc ?_;refine yM ?_;refine y3 ?_
       exact fin (by rw[hg1,hgd,hany,decide_eq_true R];rfl) hx3
     ·have c117:=right117 F.p F.f117 F.f77 (.of hw3) x
      rw[decide_eq_false R]at c117
      refine FW.pu c117 ?_
      refine yT ?_;refine yM ?_;refine yP ?_;refine yP ?_;refine yP ?_;refine yP ?_;refine yP ?_;refine yP ?_
      refine yP ?_;refine yP ?_;refine yU ?_;refine yM ?_;refine wO_nil ?_;refine y1 ?_;refine kB_n ?_;refine kS_n ?_;refine wE_region ?_
      refine yinc ?_;refine yM ?_;refine y3 ?_
      exact fin (by rw[hg1,hgd,decide_eq_false R];rfl) hx3
  ·obtain rfl:i=n:=by omega
   cases hgd:good kerf l i with
   |true=>
    refine y4 ?_;refine yf ?_;refine y3 ?_;refine wE_seq ?_;refine yX ?_;refine wE_exit ?_;refine kS_e ?_;refine kS_e ?_;refine kB_e ?_;refine kS_n ?_
    refine wE_seq ?_;refine y4 ?_;refine yM ?_;refine yA ?_;refine y3 ?_;refine yX ?_;refine wE_skip ?_;refine kS_n ?_;refine y4 ?_
    refine yM ?_;refine y3 ?_;refine wE_ret ?_
    refine endP_ret ?_ rfl rfl
    exact hx.log.trans hr.log
   |false=>
    refine y4 ?_;refine yf ?_;refine y3 ?_;refine wE_seq ?_;refine yX ?_;refine wE_exit ?_;refine kS_e ?_;refine kS_e ?_;refine kB_e ?_;refine kS_n ?_
    refine wE_seq ?_;refine y4 ?_;refine yM ?_;refine yA ?_;refine y3 ?_;refine yY ?_;refine y4 ?_;refine yM ?_
    refine y3 ?_;refine wE_ret ?_;refine kS_r ?_
    refine endP_ret ?_ rfl rfl
    exact hx.log.trans hr.log
end Go.A.Pk
end
section
set_option maxRecDepth 100000
namespace Go.A.Pk
variable {T:Nat→Option AFunc}
theorem good_false{kerf:Int}{l:List Kd}{i n:Nat}(hi:i<n)(hg:goodK l i=false):good kerf l n=false:=by
 unfold good
 rw[Bool.and_eq_false_iff]
 right
 rw[List.all_eq_false]
 exact⟨i,by simpa using hi,by simp[hg]⟩
theorem elem_get{vs:List Value}{q:Nat}{k:Kd}(hk:ltake 5 (ldrop q vs)=kc k)(i:Nat)(hi:i<5):lget vs (q+i)=lget (kc k) i:=by
 rw[←hk,lget_eq,lget_eq,ltake_eq,ldrop_eq,List.getElem?_take_of_lt hi,List.getElem?_drop]
structure FnsB (T:Nat→Option AFunc):Prop where
 p:primAS T
 f80:T 80=some f80
 f67:T 67=some f67
set_option maxHeartbeats 4000000 in
theorem check67(F:FnsB T){h:Heap}(hr:Rdy h){a:Option Addr}{n c:Nat}{l:List Kd}(hs:SliceOf h 5 (.slice a n c) n (kcs l))(kerf:Int)(hn:n<1000000):Pu T 67 [.agg #[.slice a n c, .int .i64 kerf]] h (.int .i64 (chk kerf l)):=by
 have hlen:l.length=n:=by have:=hs.len;rw[kcs_length]at this;omega
 refine .of F.p F.f67 hr rfl ?_
 by_cases h12:12<n
 ·refine y4 ?_;refine yB ?_;refine yM ?_;refine y3 ?_;refine wE_seq ?_;refine y4 ?_;refine yF ?_
  refine yL ?_;refine yD ?_
  refine yt ?_;refine y3 ?_;refine yY ?_;refine y4 ?_;refine yM ?_;refine y3 ?_;refine wE_ret ?_;refine kS_r ?_
  refine endP_ret hr.log rfl ?_
  show Value.int .i64 2=_
  rw[chk,if_pos (by omega)]
 ·have hchk:chk kerf l=if good kerf l n then 0 else 1:=by rw[chk,if_neg (by omega),hlen]
  rw[hchk]
  have bad:good kerf l n=false→∀{h':Heap} {e:Env},h'.log=h.log→resultsA h' e [(2,none)]=some [.int .i64 1]→endP [(2,none)] (.int .i64 (if good kerf l n then 0 else 1)) .ret e [] h':=fun hg h' e hl hres=>by
   rw[hg]
   exact endP_ret (hl.trans hr.log) hres rfl
  refine y4 ?_;refine yB ?_;refine yM ?_;refine y3 ?_;refine wE_seq ?_;refine y4 ?_;refine yF ?_
  refine yL ?_;refine yD ?_
  refine yf ?_;refine y3 ?_;refine yX ?_;refine wE_skip ?_;refine kS_n ?_;refine wE_seq ?_;refine y4 ?_;refine yM ?_
  refine y3 ?_;refine wE_block ?_
  refine wE_loop (fun k e ds h'=>∃i:Nat,i≤n∧k=n-i∧e=[(1, .pointer (some ⟨h.next,0,none⟩)),(3, .int .i64 i)]∧ds=[]∧Ext (h.push (.cells [.slice a n c, .int .i64 kerf] true 1)) h'∧∀j,j<i→goodK l j=true)
   ⟨0,Nat.zero_le _,rfl,rfl,rfl, .refl _,fun j hj=>absurd hj (Nat.not_lt_zero j)⟩ ?_
  rintro k e ds hi ⟨i,hin,rfl,rfl,rfl,hx,hpre⟩
  have hnx:h.next+1≤hi.next:=hx.next
  have hP:hi.get h.next=some (.cells [.slice a n c, .int .i64 kerf] true 1):=(hx.old _ (Nat.lt_succ_self _)).trans (z3 _ _)
  by_cases hlt:i<n
  ·obtain⟨x,hxl⟩:∃x,l[i]? =some x:=⟨l[i],List.getElem?_eq_getElem (by omega)⟩
   have hg1:goodK l i=(decide (Right x)&& !(l.take i).any fun y=>y.id==x.id):=by rw[goodK,hxl]
   have hs':=hs.ext (((Ext.refl h).push _).trans hx)
   rcases hs'.inv with⟨_,_,h0,_⟩|⟨b,o,cap',hv,s,hcap⟩
   ·omega
   ·cases hv
    obtain⟨vs,own,t,g1,g2⟩:=slice_elem s hxl
    refine wE_seq ?_;refine y4 ?_;refine yM ?_;refine yF ?_;refine yL ?_;refine yD ?_;refine yt ?_;refine y3 ?_;refine yY ?_;refine wE_skip ?_;refine kS_n ?_;refine wE_seq ?_;refine wE_block ?_;refine y4 ?_;refine yF ?_;refine yL ?_
    refine yM ?_
    refine wO_val (a_iaddrS (by exact rfl) (by exact rfl) hlt) ?_
    refine wO_val (a_loadN (by exact rfl) g1 g2 (by exact rfl)) ?_
    refine wO_val a_new ?_;refine yS ?_;refine y3 ?_;refine wE_seq ?_;refine y4 ?_;refine yF ?_
    refine yL ?_
    have hx3:=(hx.push (.cells [.int .i64 0, .int .i64 0, .int .i64 0, .int .i64 0, .bool false] true 1)).wr (base:=h.next) (o:= .cells (kc x) true 1) hnx (by omega)
    have hw3:=hx3.wf (hr.wf.push _)
    by_cases R:Right x
    ·have R':=R
     unfold Right at R'
     refine yC ?_
     refine FW.pu (in80T F.p F.f80 (.of hw3) (by omega)) ?_
     refine yA ?_;refine yM ?_;refine yO ?_;refine yF ?_;refine yO ?_
     refine yL ?_;refine yO ?_
     refine yC ?_
     refine FW.pu (in80T F.p F.f80 (.of hw3) (by omega)) ?_
     refine yO ?_;refine yA ?_;refine yU ?_;refine yM ?_;refine yO ?_;refine yF ?_;refine yO ?_
     refine yL ?_;refine yO ?_
     refine yC ?_
     refine FW.pu (in80T F.p F.f80 (.of hw3) (by omega)) ?_
     refine yO ?_;refine yA ?_;refine yU ?_;refine yM ?_;refine yO ?_;refine yF ?_;refine yO ?_
     refine yL ?_;refine yO ?_
     refine yC ?_
     refine FW.pu (in80T F.p F.f80 (.of hw3) (by omega)) ?_
     refine yO ?_;refine yA ?_;refine yU ?_;refine y3 ?_;refine yX ?_;refine wE_skip ?_;refine kS_n ?_;refine y4 ?_
     refine yM ?_;refine y3 ?_;refine wE_block ?_
     refine wE_loop (fun k e ds h'=>∃j:Nat,j≤i∧k=i-j∧e=[(1, .pointer (some ⟨h.next,0,none⟩)),(3, .int .i64 i),(4, .pointer (some ⟨hi.next,0,none⟩)),(5, .int .i64 j)]∧ds=[]∧
      h'=(hi.push (.cells [.int .i64 0, .int .i64 0, .int .i64 0, .int .i64 0, .bool false] true 1)).wr h.next hi.next (.cells (kc x) true 1)∧∀(j':Nat) (y:Kd),j'<j→l[j']? =some y→(y.id==x.id)=false)
      ⟨0,Nat.zero_le _,rfl,rfl,rfl,rfl,fun j y hj=>absurd hj (Nat.not_lt_zero j)⟩ ?_
     rintro k e ds h4 ⟨j,hji,rfl,rfl,rfl,rfl,hne⟩
     by_cases hjlt:j<i
     ·obtain⟨y,hyl⟩:∃y,l[j]? =some y:=⟨l[j],List.getElem?_eq_getElem (by omega)⟩
      obtain⟨vs',own',t',g3,g4⟩:=slice_elem (s.ext ((Ext.refl hi).push (.cells [.int .i64 0, .int .i64 0, .int .i64 0, .int .i64 0, .bool false] true 1)|>.wr (base:=h.next) (x:=hi.next) (o:= .cells (kc x) true 1) (Nat.le_refl _) (by omega))) hyl
      have e0:lget vs' (o+j*5+0)=some (.int .i64 y.id):=elem_get g4 0 (by omega)
      refine wE_seq ?_;refine y4 ?_;refine yM ?_;refine yM ?_;refine yt ?_;refine y3 ?_;refine yY ?_
      refine wE_skip ?_;refine kS_n ?_;refine wE_seq ?_;refine wE_block ?_;refine wE_seq ?_;refine wE_draw ?_;refine qF ?_
      refine qL ?_
      refine qM ?_
      refine wD_quiet rfl rfl rfl (by exact rfl) (by exact rfl) (by exact rfl) (a_iaddrS (by exact rfl) (by exact rfl) (by omega)) ?_
      refine qF ?_
      refine wD_quiet rfl rfl rfl (by exact rfl) (by exact rfl) (by exact rfl) (a_load (by exact rfl) g3 e0) ?_
      cases hyx:y.id==x.id with
      |true=>
       have hyx':y.id=x.id:=by simpa using hyx
       refine qF ?_
       refine qL ?_
       refine wD_quiet rfl rfl rfl (by exact rfl) (by exact rfl) (by exact rfl) (a_num (by exact rfl) (by exact rfl) (by exact m_eqlT (by omega))) ?_;refine wD_nil ?_;refine y1 ?_;refine kS_n ?_;refine yY ?_;refine y4 ?_;refine yM ?_
       refine y3 ?_;refine wE_ret ?_;refine kB_r ?_;refine kS_r ?_;refine kS_r ?_;refine kB_r ?_;refine kB_r ?_;refine kS_r ?_;refine kS_r ?_;refine kB_r ?_;refine kS_r ?_
       refine bad (good_false hlt ?_) hx3.log rfl
       rw[hg1]
       have:(l.take i).any (fun y=>y.id==x.id)=true:=by
        rw[List.any_eq_true]
        exact⟨y,List.mem_of_getElem? (i:=j) (by rw[List.getElem?_take_of_lt hjlt];exact hyl),hyx⟩
       rw[this];simp
      |false=>
       have hyx':y.id≠x.id:=by simpa using hyx
       refine qF ?_
       refine qL ?_
       refine wD_quiet rfl rfl rfl (by exact rfl) (by exact rfl) (by exact rfl) (a_num (by exact rfl) (by exact rfl) (by exact m_eqlF (by omega))) ?_;refine wD_nil ?_;refine y1 ?_;refine kS_n ?_;refine yX ?_;refine wE_skip ?_;refine kB_n ?_;refine kS_n ?_;refine wE_region ?_
       refine yM ?_;refine yinc ?_;refine yM ?_;refine y3 ?_
       refine⟨i-(j+1),by omega,j+1,by omega,rfl,rfl,rfl,rfl,fun j' z hj' hz=> ?_⟩
       by_cases hj2:j'<j
       ·exact hne j' z hj2 hz
       ·obtain rfl:j'=j:=by omega
        rw[hyl]at hz;cases hz;exact hyx
     ·obtain rfl:j=i:=by omega
      refine wE_seq ?_;refine y4 ?_;refine yM ?_;refine yM ?_;refine yf ?_;refine y3 ?_;refine yX ?_
      refine wE_exit ?_;refine kS_e ?_;refine kS_e ?_;refine kB_e ?_;refine kB_n ?_;refine kS_n ?_;refine wE_region ?_;refine yM ?_;refine yinc ?_;refine yM ?_;refine y3 ?_
      refine⟨n-(j+1),by omega,j+1,by omega,rfl,rfl,rfl,hx3,fun j' hj'=> ?_⟩
      by_cases hj2:j'<j
      ·exact hpre j' hj2
      ·obtain rfl:j'=j:=by omega
       rw[hg1,decide_eq_true R]
       have:(l.take j').any (fun y=>y.id==x.id)=false:=by
        rw[List.any_eq_false]
        intro y hy
        obtain⟨q,hq1,hq2⟩:=List.mem_iff_getElem.1 hy
        have hq3:q<j':=by simp at hq1;omega
        have:=hne q y hq3 (by rw[←hq2,List.getElem_take,List.getElem?_eq_getElem])
        simp[this]
       rw[this];rfl
    ·have hgf:good kerf l n=false:=good_false hlt (by rw[hg1,decide_eq_false R];rfl)
     unfold Right at R
     refine yC ?_
     by_cases c1:1≤x.id∧x.id≤1000000
     ·refine FW.pu (in80T F.p F.f80 (.of hw3) c1) ?_
      refine yA ?_;refine yM ?_;refine yO ?_;refine yF ?_;refine yO ?_
      refine yL ?_;refine yO ?_
      refine yC ?_
      by_cases c2:1≤x.w∧x.w≤16
      ·refine FW.pu (in80T F.p F.f80 (.of hw3) c2) ?_
       refine yO ?_;refine yA ?_;refine yU ?_;refine yM ?_;refine yO ?_;refine yF ?_;refine yO ?_
       refine yL ?_;refine yO ?_
       refine yC ?_
       by_cases c3:1≤x.h∧x.h≤16
       ·refine FW.pu (in80T F.p F.f80 (.of hw3) c3) ?_
        refine yO ?_;refine yA ?_;refine yU ?_;refine yM ?_;refine yO ?_;refine yF ?_;refine yO ?_
        refine yL ?_;refine yO ?_
        refine yC ?_
        refine FW.pu (in80F F.p F.f80 (.of hw3) (by omega)) ?_
        refine yO ?_;refine yA ?_;refine yU ?_;refine y3 ?_;refine yY ?_;refine y4 ?_;refine yM ?_;refine y3 ?_;refine wE_ret ?_;refine kS_r ?_;refine kB_r ?_;refine kS_r ?_;refine kS_r ?_;refine kB_r ?_;refine kS_r ?_
        exact bad hgf hx3.log rfl
       ·refine FW.pu (in80F F.p F.f80 (.of hw3) c3) ?_
        refine yO ?_;refine yA ?_;refine yU ?_;refine yM ?_;refine yP ?_;refine yP ?_;refine yP ?_;refine yP ?_
        refine yT ?_;refine y3 ?_;refine yY ?_;refine y4 ?_;refine yM ?_;refine y3 ?_;refine wE_ret ?_;refine kS_r ?_;refine kB_r ?_;refine kS_r ?_;refine kS_r ?_;refine kB_r ?_;refine kS_r ?_
        exact bad hgf hx3.log rfl
      ·refine FW.pu (in80F F.p F.f80 (.of hw3) c2) ?_
       refine yO ?_;refine yA ?_;refine yU ?_;refine yM ?_;refine yP ?_;refine yP ?_;refine yP ?_;refine yP ?_
       refine yT ?_;refine yM ?_;refine yP ?_;refine yP ?_;refine yP ?_;refine yP ?_;refine yT ?_;refine y3 ?_;refine yY ?_;refine y4 ?_;refine yM ?_;refine y3 ?_;refine wE_ret ?_;refine kS_r ?_
       refine kB_r ?_;refine kS_r ?_;refine kS_r ?_;refine kB_r ?_;refine kS_r ?_
       exact bad hgf hx3.log rfl
     ·refine FW.pu (in80F F.p F.f80 (.of hw3) c1) ?_
      refine yA ?_;refine yM ?_;refine yP ?_;refine yP ?_;refine yP ?_;refine yP ?_;refine yT ?_;refine yM ?_
      refine yP ?_;refine yP ?_;refine yP ?_;refine yP ?_;refine yT ?_;refine yM ?_;refine yP ?_;refine yP ?_
      refine yP ?_;refine yP ?_;refine yT ?_;refine y3 ?_;refine yY ?_;refine y4 ?_;refine yM ?_
      refine y3 ?_;refine wE_ret ?_;refine kS_r ?_;refine kB_r ?_;refine kS_r ?_;refine kS_r ?_;refine kB_r ?_;refine kS_r ?_
      exact bad hgf hx3.log rfl
  ·obtain rfl:i=n:=by omega
   have hall:(List.range i).all (goodK l)=true:=by
    rw[List.all_eq_true]
    intro j hj
    exact hpre j (by simpa using hj)
   refine wE_seq ?_;refine y4 ?_;refine yM ?_;refine yF ?_;refine yL ?_;refine yD ?_;refine yf ?_;refine y3 ?_;refine yX ?_;refine wE_exit ?_;refine kS_e ?_;refine kS_e ?_;refine kB_e ?_;refine kS_n ?_;refine wE_seq ?_;refine y4 ?_;refine yF ?_
   refine yL ?_
   refine yC ?_
   by_cases hk:0≤kerf∧kerf≤2
   ·refine FW.pu (in80T F.p F.f80 (.of (hx.wf (hr.wf.push _))) hk) ?_
    refine yA ?_;refine y3 ?_;refine yX ?_;refine wE_skip ?_;refine kS_n ?_;refine y4 ?_;refine yM ?_;refine y3 ?_;refine wE_ret ?_
    refine endP_ret (hx.log.trans hr.log) rfl ?_
    show Value.int .i64 0=_
    rw[good,hall,decide_eq_true hk];rfl
   ·refine FW.pu (in80F F.p F.f80 (.of (hx.wf (hr.wf.push _))) hk) ?_
    refine yA ?_;refine y3 ?_;refine yY ?_;refine y4 ?_;refine yM ?_;refine y3 ?_;refine wE_ret ?_;refine kS_r ?_
    exact bad (by rw[good,decide_eq_false hk];rfl) hx.log rfl
end Go.A.Pk
end
section
set_option maxRecDepth 100000
namespace Go.A.Pk
variable {T:Nat→Option AFunc}
def bcs(l:List Bool):List Value:=l.map .bool
theorem slice_elem1{h:Heap}{b o n:Nat}{l:List Value}(s:SliceAt h b o n 1 l){i:Nat}{x:Value}(hi:l[i]? =some x):∃vs own t,h.get b=some (.cells vs own t)∧lget vs (o+i*1)=some x:=by
 obtain⟨vs,own,t,h1,h2⟩:=s.obj
 refine⟨vs,own,t,h1,?_⟩
 rw[ltake_eq,ldrop_eq]at h2
 have hl:=s.len
 have hin:i<l.length:=(List.getElem?_eq_some_iff.1 hi).1
 rw[←h2,List.getElem?_take_of_lt (by omega),List.getElem?_drop]at hi
 rw[lget_eq,Nat.mul_one];exact hi
structure FnsC (T:Nat→Option AFunc):Prop where
 p:primAS T
 f18:T 18=some f18
 f77:T 77=some f77
 f97:T 97=some f97
 f122:T 122=some f122
 f149:T 149=some f149
theorem index149(F:FnsC T){h:Heap}(hr:Rdy h){v:Value}{n:Nat}{l:List Bool}(hs:SliceOf h 1 v n (bcs l))(hn:n<1000000):∃z:Int,Pu T 149 [v, .bool false] h (.int .i64 z)∧decide (0≤z)= !(l.all id):=by
 have hlen:l.length=n:=by have:=hs.len;simp[bcs]at this;omega
 obtain⟨a,c,rfl⟩:=hs.form
 by_cases hall:l.all id=true
 ·refine⟨-1,?_,by rw[hall];rfl⟩
  refine .of F.p F.f149 hr rfl ?_
  refine y4 ?_;refine yM ?_;refine y3 ?_;refine wE_seq ?_;refine y4 ?_;refine yM ?_;refine yD ?_;refine yM ?_
  refine y3 ?_;refine wE_block ?_
  refine wE_loop (fun k e ds h'=>∃i:Nat,i≤n∧k=n-i∧e=[(0, .slice a n c),(1, .bool false),(7, .int .i64 n),(8, .int .i64 i)]∧ds=[]∧h'=h)
   ⟨0,Nat.zero_le _,rfl,rfl,rfl,rfl⟩ ?_
  rintro k e ds h' ⟨i,hi,rfl,rfl,rfl,rfl⟩
  by_cases hlt:i<n
  ·have hxl:l[i]? =some true:=by
    rw[List.getElem?_eq_getElem (by omega)]
    rw[List.all_eq_true]at hall
    exact congrArg some (hall _ (List.getElem_mem (by omega)))
   rcases hs.inv with⟨_,_,h0,_⟩|⟨b,o,cap',hv,s,_⟩
   ·omega
   ·cases hv
    obtain⟨vs,own,t,g1,g2⟩:=slice_elem1 s (x:= .bool true) (i:=i) (by simp[bcs,hxl])
    refine y4 ?_;refine yt ?_;refine y3 ?_;refine wE_seq ?_;refine yY ?_;refine wE_skip ?_;refine kS_n ?_;refine wE_seq ?_;refine wE_block ?_;refine y4 ?_;refine yM ?_;refine yM ?_;refine y3 ?_;refine y4 ?_;refine yM ?_;refine yM ?_;refine yM ?_
    refine wO_val (a_iaddrS (by exact rfl) (by exact rfl) hlt) ?_
    refine wO_val (a_load (by exact rfl) g1 g2) ?_
    refine wO_val (a_beq (by exact rfl) (by exact rfl)) ?_
    refine y3 ?_;refine yX ?_;refine wE_skip ?_;refine kB_n ?_;refine kS_n ?_;refine wE_region ?_;refine yinc ?_;refine yM ?_;refine y3 ?_
    exact⟨n-(i+1),by omega,i+1,by omega,rfl,rfl,rfl,rfl⟩
  ·obtain rfl:i=n:=by omega
   refine y4 ?_;refine yf ?_;refine y3 ?_;refine wE_seq ?_;refine yX ?_;refine wE_exit ?_;refine kS_e ?_;refine kS_e ?_;refine kB_e ?_;refine kS_n ?_
   refine y4 ?_;refine yM ?_;refine y3 ?_;refine wE_ret ?_
   exact endP_ret hr.log rfl rfl
 ·obtain⟨m,hm1,hm2⟩:∃m:Nat,l[m]? =some false∧∀j,j<m→l[j]? =some true:=by
   have hall':l.all id=false:=by simpa using hall
   clear hall hs hlen
   induction l with
   |nil=>simp at hall'
   |cons b l ih=>
    cases b with
    |false=>exact⟨0,rfl,fun j hj=>absurd hj (Nat.not_lt_zero j)⟩
    |true=>
     obtain⟨m,h1,h2⟩:=ih (by simpa using hall')
     refine⟨m+1,by simpa using h1,fun j hj=> ?_⟩
     cases j with
     |zero=>rfl
     |succ j=>simpa using h2 j (by omega)
  have hml:m<n:=by have:=(List.getElem?_eq_some_iff.1 hm1).1;omega
  refine⟨m,?_,by rw[show l.all id=false by simpa using hall];simp⟩
  refine .of F.p F.f149 hr rfl ?_
  refine y4 ?_;refine yM ?_;refine y3 ?_;refine wE_seq ?_;refine y4 ?_;refine yM ?_;refine yD ?_;refine yM ?_
  refine y3 ?_;refine wE_block ?_
  refine wE_loop (fun k e ds h'=>∃i:Nat,i≤m∧k=n-i∧e=[(0, .slice a n c),(1, .bool false),(7, .int .i64 n),(8, .int .i64 i)]∧ds=[]∧h'=h)
   ⟨0,Nat.zero_le _,rfl,rfl,rfl,rfl⟩ ?_
  rintro k e ds h' ⟨i,hi,rfl,rfl,rfl,rfl⟩
  rcases hs.inv with⟨_,_,h0,_⟩|⟨b,o,cap',hv,s,_⟩
  ·omega
  ·cases hv
   by_cases hlt:i<m
   ·have hxl:=hm2 i hlt
    obtain⟨vs,own,t,g1,g2⟩:=slice_elem1 s (x:= .bool true) (i:=i) (by simp[bcs,hxl])
    refine y4 ?_;refine yt ?_;refine y3 ?_;refine wE_seq ?_;refine yY ?_;refine wE_skip ?_;refine kS_n ?_;refine wE_seq ?_;refine wE_block ?_;refine y4 ?_;refine yM ?_;refine yM ?_;refine y3 ?_;refine y4 ?_;refine yM ?_;refine yM ?_;refine yM ?_
    refine wO_val (a_iaddrS (by exact rfl) (by exact rfl) (by omega)) ?_
    refine wO_val (a_load (by exact rfl) g1 g2) ?_
    refine wO_val (a_beq (by exact rfl) (by exact rfl)) ?_
    refine y3 ?_;refine yX ?_;refine wE_skip ?_;refine kB_n ?_;refine kS_n ?_;refine wE_region ?_;refine yinc ?_;refine yM ?_;refine y3 ?_
    exact⟨n-(i+1),by omega,i+1,by omega,rfl,rfl,rfl,rfl⟩
   ·obtain rfl:i=m:=by omega
    obtain⟨vs,own,t,g1,g2⟩:=slice_elem1 s (x:= .bool false) (i:=i) (by simp[bcs,hm1])
    refine y4 ?_;refine yt ?_;refine y3 ?_;refine wE_seq ?_;refine yY ?_;refine wE_skip ?_;refine kS_n ?_;refine wE_seq ?_;refine wE_block ?_;refine y4 ?_;refine yM ?_;refine yM ?_;refine y3 ?_;refine y4 ?_;refine yM ?_;refine yM ?_;refine yM ?_
    refine wO_val (a_iaddrS (by exact rfl) (by exact rfl) (by omega)) ?_
    refine wO_val (a_load (by exact rfl) g1 g2) ?_
    refine wO_val (a_beq (by exact rfl) (by exact rfl)) ?_
    refine y3 ?_;refine yY ?_;refine y4 ?_;refine yM ?_;refine yM ?_;refine y3 ?_;refine wE_ret ?_;refine kB_r ?_;refine kS_r ?_;refine kS_r ?_;refine kB_r ?_;refine kS_r ?_
    exact endP_ret hr.log rfl rfl
theorem contains122(F:FnsC T){h:Heap}(hr:Rdy h){v:Value}{n:Nat}{l:List Bool}(hs:SliceOf h 1 v n (bcs l))(hn:n<1000000):Pu T 122 [v, .bool false] h (.bool !(l.all id)):=by
 obtain⟨ob,nx,lg⟩:=h
 obtain rfl:lg=[]:=hr.log
 obtain⟨z,hz,hz2⟩:=index149 F hr hs hn
 refine .of F.p F.f122 hr rfl ?_
 refine y4 ?_;refine yM ?_;refine y3 ?_;refine y4 ?_;refine yM ?_;refine yM ?_
 refine yC ?_
 refine FW.pu hz ?_
 cases hl:l.all id with
 |true=>
  rw[hl]at hz2
  have:z<0:=by simpa using hz2
  refine yf ?_;refine yM ?_;refine y3 ?_;refine wE_ret ?_
  exact endP_ret rfl rfl rfl
 |false=>
  rw[hl]at hz2
  have:0≤z:=by simpa using hz2
  refine yt ?_;refine yM ?_;refine y3 ?_;refine wE_ret ?_
  exact endP_ret rfl rfl rfl
theorem few18(F:FnsC T){h:Heap}(hr:Rdy h){a:Option Addr}{n c:Nat}(kerf:Int):Pu T 18 [.agg #[.slice a n c, .int .i64 kerf]] h (.bool (decide (n≤16))):=by
 by_cases hk:n≤16
 ·rw[decide_eq_true hk]
  refine .of F.p F.f18 hr rfl ?_
  refine y4 ?_;refine yB ?_;refine yM ?_;refine y3 ?_;refine y4 ?_;refine yF ?_
  refine yL ?_;refine yD ?_
  refine yt ?_;refine yM ?_;refine y3 ?_;refine wE_ret ?_
  exact endP_ret hr.log rfl rfl
 ·rw[decide_eq_false hk]
  refine .of F.p F.f18 hr rfl ?_
  refine y4 ?_;refine yB ?_;refine yM ?_;refine y3 ?_;refine y4 ?_;refine yF ?_
  refine yL ?_;refine yD ?_
  refine yf ?_;refine yM ?_;refine y3 ?_;refine wE_ret ?_
  exact endP_ret hr.log rfl rfl
structure FnsD (T:Nat→Option AFunc):Prop extends FnsB T where
 f79:T 79=some f79
 f99:T 99=some f99
 f123:T 123=some f123
theorem board123(F:FnsD T){h:Heap}(hr:Rdy h)(w ht:Int):Pu T 123 [.int .i64 w, .int .i64 ht] h (.bool (decide ((1≤w∧w≤16)∧(1≤ht∧ht≤16)))):=by
 obtain⟨ob,nx,lg⟩:=h
 obtain rfl:lg=[]:=hr.log
 by_cases c1:1≤w∧w≤16
 ·by_cases c2:1≤ht∧ht≤16
  ·rw[decide_eq_true ⟨c1,c2⟩]
   refine .of F.p F.f123 hr rfl ?_
   refine y4 ?_;refine yM ?_;refine y3 ?_;refine y4 ?_;refine yM ?_
   refine yC ?_
   refine FW.pu (in80T F.p F.f80 hr c1) ?_
   refine yM ?_;refine yO ?_;refine yM ?_;refine yO ?_
   refine yC ?_
   refine FW.pu (in80T F.p F.f80 hr c2) ?_
   refine yT ?_;refine yM ?_;refine y3 ?_;refine wE_ret ?_
   exact endP_ret rfl rfl rfl
  ·rw[decide_eq_false (by omega)]
   refine .of F.p F.f123 hr rfl ?_
   refine y4 ?_;refine yM ?_;refine y3 ?_;refine y4 ?_;refine yM ?_
   refine yC ?_
   refine FW.pu (in80T F.p F.f80 hr c1) ?_
   refine yM ?_;refine yO ?_;refine yM ?_;refine yO ?_
   refine yC ?_
   refine FW.pu (in80F F.p F.f80 hr c2) ?_
   refine yT ?_;refine yM ?_;refine y3 ?_;refine wE_ret ?_
   exact endP_ret rfl rfl rfl
 ·rw[decide_eq_false (by omega)]
  refine .of F.p F.f123 hr rfl ?_
  refine y4 ?_;refine yM ?_;refine y3 ?_;refine y4 ?_;refine yM ?_
  refine yC ?_
  refine FW.pu (in80F F.p F.f80 hr c1) ?_
  refine yM ?_;refine yP ?_;refine yP ?_;refine yU ?_;refine yM ?_;refine y3 ?_;refine wE_ret ?_
  exact endP_ret rfl rfl rfl
def asked(kerf:Int)(l:List Kd)(b:Prop)[Decidable b]:Int:=if chk kerf l=0 then(if b then 0 else 1)else chk kerf l
theorem asked79(F:FnsD T){h:Heap}(hr:Rdy h){a:Option Addr}{n c:Nat}{l:List Kd}(hs:SliceOf h 5 (.slice a n c) n (kcs l))(kerf w ht:Int)(hn:n<1000000):
 Pu T 79 [.agg #[.slice a n c, .int .i64 kerf], .int .i64 w, .int .i64 ht] h (.int .i64 (asked kerf l ((1≤w∧w≤16)∧(1≤ht∧ht≤16)))):=by
 refine .of F.p F.f79 hr rfl ?_
 have hx:Ext h (h.push (.cells [.slice a n c, .int .i64 kerf] true 1)):=(Ext.refl h).push _
 unfold asked
 by_cases hc:chk kerf l=0
 ·rw[if_pos hc]
  by_cases c1:(1≤w∧w≤16)∧(1≤ht∧ht≤16)
  ·rw[if_pos c1]
   refine y4 ?_;refine yB ?_;refine yM ?_;refine y3 ?_;refine y4 ?_
   refine yN ?_
   refine yC ?_
   refine FW.pu (check67 F.toFnsB (.of (hr.wf.push _)) ((hs.ext hx).log _) kerf hn) ?_
   refine yM ?_;refine y3 ?_;refine wE_seq ?_;refine y4 ?_;refine yM ?_;refine yt ?_;refine yM ?_
   refine yO ?_;refine yM ?_;refine yO ?_;refine yM ?_;refine yO ?_
   refine yC ?_
   have:=board123 F (.of (hr.wf.push (.cells [.slice a n c, .int .i64 kerf] true 1))) w ht
   rw[decide_eq_true c1]at this
   refine FW.pu this ?_
   refine yO ?_;refine yA ?_;refine yT ?_;refine y3 ?_;refine yX ?_;refine wE_skip ?_;refine kS_n ?_;refine y4 ?_
   refine yM ?_;refine yM ?_;refine y3 ?_;refine wE_ret ?_
   refine endP_ret hr.log rfl ?_
   show Value.int .i64 (chk kerf l)=_
   rw[hc]
  ·rw[if_neg c1]
   refine y4 ?_;refine yB ?_;refine yM ?_;refine y3 ?_;refine y4 ?_
   refine yN ?_
   refine yC ?_
   refine FW.pu (check67 F.toFnsB (.of (hr.wf.push _)) ((hs.ext hx).log _) kerf hn) ?_
   refine yM ?_;refine y3 ?_;refine wE_seq ?_;refine y4 ?_;refine yM ?_;refine yt ?_;refine yM ?_
   refine yO ?_;refine yM ?_;refine yO ?_;refine yM ?_;refine yO ?_
   refine yC ?_
   have:=board123 F (.of (hr.wf.push (.cells [.slice a n c, .int .i64 kerf] true 1))) w ht
   rw[decide_eq_false c1]at this
   refine FW.pu this ?_
   refine yO ?_;refine yA ?_;refine yT ?_;refine y3 ?_;refine yY ?_;refine wE_region ?_;refine yM ?_;refine y3 ?_;refine y4 ?_;refine yM ?_;refine yM ?_;refine y3 ?_;refine wE_ret ?_
   exact endP_ret hr.log rfl rfl
 ·rw[if_neg hc]
  refine y4 ?_;refine yB ?_;refine yM ?_;refine y3 ?_;refine y4 ?_
  refine yN ?_
  refine yC ?_
  refine FW.pu (check67 F.toFnsB (.of (hr.wf.push _)) ((hs.ext hx).log _) kerf hn) ?_
  refine yM ?_;refine y3 ?_;refine wE_seq ?_;refine y4 ?_;refine yM ?_;refine yf ?_;refine yM ?_
  refine yP ?_;refine yP ?_;refine yP ?_;refine yP ?_;refine yU ?_;refine y3 ?_
  refine yX ?_;refine wE_skip ?_;refine kS_n ?_;refine y4 ?_;refine yM ?_;refine yM ?_;refine y3 ?_;refine wE_ret ?_
  exact endP_ret hr.log rfl rfl
end Go.A.Pk
end
section
set_option maxRecDepth 100000
namespace Go.A.Pk
variable {T:Nat→Option AFunc}
inductive OwnK (lo:Nat) (h:Heap):Value→List Kd→Prop
 |nil:OwnK lo h (.slice none 0 0) []
 |empty {b}:lo≤b→b<h.next→h.get b=some (.cells [] true 5)→OwnK lo h (.slice (some ⟨b,0,none⟩) 0 0) []
 |full {b n l}:lo≤b→b<h.next→h.get b=some (.cells (kcs l) true 5)→n=l.length→n≠0→OwnK lo h (.slice (some ⟨b,0,none⟩) n UNK) l
theorem OwnK.slice{lo:Nat}{h:Heap}{v:Value}{l:List Kd}(s:OwnK lo h v l)(hn:l.length<1000000):SliceOf h 5 v l.length (kcs l):=by
 cases s with
 |nil=>exact .nil
 |empty h1 h2 h3=>exact .mem ⟨h2,⟨_,_,_,h3,rfl⟩,rfl⟩ (Nat.le_refl _)
 |full h1 h2 h3 h4 h5=>
  subst h4
  refine .mem ⟨h2,⟨_,_,_,h3,?_⟩,kcs_length l⟩ (by unfold UNK;omega)
  rw[ltake_eq,ldrop_eq,List.drop_zero,List.take_of_length_le (by rw[kcs_length];exact Nat.le_refl _)]
theorem OwnK.log{lo:Nat}{h:Heap}{v:Value}{l:List Kd}(s:OwnK lo h v l)(m:List Nat):OwnK lo {h with log:=m} v l:=by
 cases s with
 |nil=>exact .nil
 |empty h1 h2 h3=>exact .empty h1 h2 h3
 |full h1 h2 h3 h4 h5=>exact .full h1 h2 h3 h4 h5
theorem OwnK.low{lo lo':Nat}{h:Heap}{v:Value}{l:List Kd}(s:OwnK lo h v l)(hl:lo'≤lo):OwnK lo' h v l:=by
 cases s with
 |nil=>exact .nil
 |empty h1 h2 h3=>exact .empty (by omega) h2 h3
 |full h1 h2 h3 h4 h5=>exact .full (by omega) h2 h3 h4 h5
theorem OwnK.ext{lo:Nat}{h h':Heap}{v:Value}{l:List Kd}(s:OwnK lo h v l)(x:Ext h h'):OwnK lo h' v l:=by
 have hx:=x.next
 cases s with
 |nil=>exact .nil
 |empty h1 h2 h3=>exact .empty h1 (by omega) ((x.old _ h2).trans h3)
 |full h1 h2 h3 h4 h5=>exact .full h1 (by omega) ((x.old _ h2).trans h3) h4 h5
def SawQ(er kerf:Int)(l:List Kd)(v:Value)(h:Heap):Prop:=∃s,v= .tuple #[.agg #[s, .int .i64 kerf], .int .i64 er]∧SliceOf h 5 s l.length (kcs l)
theorem SawQ.log{er kerf:Int}{l:List Kd}(v:Value)(h':Heap)(m:List Nat)(q:SawQ er kerf l v h'):SawQ er kerf l v {h' with log:=m}:=by
 obtain⟨s,h1,h2⟩:=q
 exact⟨s,h1,h2.log m⟩
theorem SawQ.gc{er kerf:Int}{l:List Kd}{h:Heap}(v:Value)(h1:Heap)(hv:noRef v=true)(q:SawQ er kerf l v h1):SawQ er kerf l v h:=by
 obtain⟨s,rfl,h2⟩:=q
 refine⟨s,rfl,?_⟩
 generalize l.length=n at*
 generalize kcs l=cs at*
 cases h2 with
 |nil=>exact .nil
 |mem s _=>simp[noRef,flatL,flat,scalL,scal,scal1]at hv
structure FnsE (T:Nat→Option AFunc):Prop extends FnsA T,FnsC T where
 f75:T 75=some f75
 f96:T 96=some f96
 f113:T 113=some f113
theorem OwnK.gc{lo:Nat}{l:List Kd}{h:Heap}(v:Value)(h1:Heap)(hv:noRef v=true)(q:OwnK lo h1 v l):OwnK lo h v l:=by
 cases q with
 |nil=>exact .nil
 |empty=>simp[noRef,flat,scal,scal1]at hv
 |full=>simp[noRef,flat,scal,scal1]at hv
end Go.A.Pk
end
section
set_option maxRecDepth 100000
namespace Go.A.Pk
variable {T:Nat→Option AFunc}
theorem SawQ.ret{er kerf:Int}{l:List Kd}{h:Heap}{s:Value}(h2:SliceOf h 5 s l.length (kcs l)):SawQ er kerf l (oneV [.agg (List.toArray [s, .int .i64 kerf]), .int .i64 er]) h:=⟨s,rfl,h2⟩
end Go.A.Pk
end
section
set_option maxRecDepth 100000
namespace Go.A.Pk
variable {T:Nat→Option AFunc}
def startE(kerf:Int)(l:List Kd)(bl:List Bool):Int:=if chk kerf l=0 then(if bl.all id then 0 else 1)else chk kerf l
end Go.A.Pk
end
section
set_option maxRecDepth 100000
namespace Go.A.Pk
variable {T:Nat→Option AFunc}
def orErr(er:Int)(Q:Value→Heap→Prop)(v:Value)(h:Heap):Prop:=if er=0 then Q v h else SawQ er 0 [] v h
theorem orErr.gc{er:Int}{Q:Value→Heap→Prop}{h:Heap}(hQ:∀v h1,noRef v=true→Q v h1→Q v h)(v:Value)(h1:Heap)(hv:noRef v=true)(q:orErr er Q v h1):orErr er Q v h:=by
 unfold orErr at q⊢
 split
 ·rename_i h0;rw[if_pos h0]at q;exact hQ v h1 hv q
 ·rename_i h0;rw[if_neg h0]at q;exact SawQ.gc v h1 hv q
theorem startE_one(kerf:Int)(l:List Kd)(p:Prop)[Decidable p]:startE kerf l [decide p]=asked kerf l p:=by
 unfold startE asked
 by_cases hp:p<;>simp[hp]
end Go.A.Pk
end
section
set_option maxRecDepth 100000
namespace Go.A.Pk
variable {T:Nat→Option AFunc}
def wb:Value→Option Nat
 | .slice (some a) _ _=>some a.block
 |_=>none
theorem OwnK.wb{lo:Nat}{h:Heap}{v:Value}{l:List Kd}(s:OwnK lo h v l){x:Nat}(hx:h.next≤x∨x<lo):wb v≠some x:=by
 cases s with
 |nil=>simp[Pk.wb]
 |empty h1 h2=>simp only[Pk.wb,ne_eq,Option.some.injEq];omega
 |full h1 h2=>simp only[Pk.wb,ne_eq,Option.some.injEq];omega
end Go.A.Pk
end
section
set_option maxRecDepth 100000
namespace Go.A.Pk
variable {T:Nat→Option AFunc}
theorem asked_zero{kerf:Int}{l:List Kd}{p:Prop}[Decidable p](h:asked kerf l p=0):chk kerf l=0∧p:=by
 unfold asked at h
 by_cases h0:chk kerf l=0
 ·rw[if_pos h0]at h
  by_cases hp:p
  ·exact⟨h0,hp⟩
  ·rw[if_neg hp]at h;omega
 ·rw[if_neg h0]at h;exact absurd h h0
end Go.A.Pk
end
section
set_option maxRecDepth 100000
namespace Go.A.Pk
variable {T:Nat→Option AFunc}
theorem OwnK.form{lo:Nat}{h:Heap}{v:Value}{l:List Kd}(s:OwnK lo h v l):∃a c,v= .slice a l.length c:=by
 cases s with
 |nil=>exact⟨_,_,rfl⟩
 |empty=>exact⟨_,_,rfl⟩
 |full _ _ _ h4=>subst h4;exact⟨_,_,rfl⟩
end Go.A.Pk
end
section
set_option maxRecDepth 100000
namespace Go.A.Pk
variable {T:Nat→Option AFunc}
theorem chk_iff{kerf:Int}{l:List Kd}:chk kerf l=0↔l.length≤12∧(0≤kerf∧kerf≤2)∧(∀k∈l,Right k)∧l.Pairwise fun x y=>x.id≠y.id:=by
 have key:(List.range l.length).all (goodK l)=true↔(∀k∈l,Right k)∧l.Pairwise fun x y=>x.id≠y.id:=by
  rw[List.all_eq_true]
  constructor
  ·intro h
   have h1:∀(i:Nat) (hi:i<l.length),Right l[i]∧∀x∈l.take i,x.id≠l[i].id:=fun i hi=>by
    have:=h i (by simpa using hi)
    unfold goodK at this
    rw[List.getElem?_eq_getElem hi]at this
    simpa using this
   refine⟨fun k hk=> ?_,?_⟩
   ·obtain⟨i,hi,rfl⟩:=List.getElem_of_mem hk
    exact(h1 i hi).1
   ·rw[List.pairwise_iff_getElem]
    intro i j hi hj hij
    exact(h1 j hj).2 _ (by rw[List.mem_take_iff_getElem];exact⟨i,by omega,rfl⟩)
  ·rintro⟨h1,h2⟩ i hi
   have hi:i<l.length:=by simpa using hi
   unfold goodK
   rw[List.getElem?_eq_getElem hi]
   rw[List.pairwise_iff_getElem]at h2
   simp only[Bool.and_eq_true,decide_eq_true_eq,Bool.not_eq_true',List.any_eq_false,beq_iff_eq]
   refine⟨h1 _ (List.getElem_mem hi),fun x hx=> ?_⟩
   rw[List.mem_take_iff_getElem]at hx
   obtain⟨j,hj,rfl⟩:=hx
   exact h2 j i (by omega) hi (by omega)
 unfold chk good
 by_cases h12:12<l.length
 ·rw[if_pos h12]
  constructor
  ·intro h;omega
  ·intro h;omega
 ·rw[if_neg h12]
  constructor
  ·intro h
   split at h
   ·rename_i hg
    simp only[Bool.and_eq_true,decide_eq_true_eq]at hg
    exact⟨by omega,hg.1,key.1 hg.2⟩
   ·omega
  ·rintro⟨_,h1,h2⟩
   rw[if_pos]
   simp only[Bool.and_eq_true,decide_eq_true_eq]
   exact⟨h1,key.2 h2⟩
end Go.A.Pk
end
section
set_option maxRecDepth 100000
namespace Go.A.Pk
variable {T:Nat→Option AFunc}
theorem a_iaddrA{base:Nat}{h:Heap}{e:Env}{len size b o i:Nat}{k:IntKind}{x y:Operand}(hx:ev h e x=some (.pointer (some ⟨b,o,none⟩)))(hy:ev h e y=some (.int k (i:Nat)))(hi:i<len):aop h base e (.iaddrA len size x y)=some (.val (.pointer (some ⟨b,o+i*size,none⟩)) h):=by
 have e0:(.int k (i:Nat):Value)= .int k (Int.ofNat i):=rfl
 rw[e0]at hy
 simp only[aop,hx,hy,nblt_of hi,cond_true]
def nodeV(x:Nat×Nat):Value:= .agg #[.int .u8 x.1, .int .i64 x.2]
def boardV(x:Nat×Nat):Value:= .agg #[.int .i64 x.1, .int .i64 x.2]
structure Yld (T:Nat→Option AFunc) (lo N l:Nat) (V:Nat×Nat→Value) (all:List (Nat×Nat)) (P:List (Nat×Nat)→Heap→Prop):Prop where
 yields:∀done x H,x∈all→Rdy H→N≤H.next→P done H→FW T (.yield l) [V x] H fun r H'=>r= .ret (.bool true)∧(∀z∈H'.log,lo≤z∧z<N)∧P (done++[x]) H'
 stable:∀done H H',P done H→N≤H'.next→(∀x,x<N→H'.get x=H.get x)→P done H'
theorem Yld.call(hp:primAS T){lo N l:Nat}{V:Nat×Nat→Value}{all:List (Nat×Nat)}{P:List (Nat×Nat)→Heap→Prop}(Y:Yld T lo N l V all P){base:Nat}{Q:XQ}{e:Env}{ds:Dfs}{h:Heap}{K:Env→Dfs→Heap→Prop}{dst:Option Nat}{done:List (Nat×Nat)}{x:Nat×Nat}(hx:x∈all)(hw:WF h)(hlo:lo≤h.next)(hN:N≤h.next)(hP:P done h)
 (hK:∀h',Lk lo h h'→(∀z,N≤z→z<h.next→h'.get z=h.get z)→P (done++[x]) h'→K (dstE e dst (.bool true)) ds h'):FW T (.yield l) [V x] {h with log:=[]} (KO K Q base dst e ds h.log):=by
 refine FW.mono' (FW.withAS hp (Y.yields done x _ hx (.of hw) hN (Y.stable _ _ _ hP hN fun _ _=>rfl)) rfl) ?_
 rintro r h2 ⟨hA,rfl,hl,hq⟩
 have hk:Lk lo {h with log:=[]} h2:=Lk.of_as hA hlo fun z hz=>(hl z hz).1
 refine⟨hK _ hk.call (fun z h1 h3=> ?_) (Y.stable _ _ _ hq (Nat.le_trans hN hA.next) fun _ _=>rfl)⟩
 exact hA.same z h3 h3 (lhas_false fun hm=>by have:=(hl z hm).2;omega)
def row(c n:Nat):List (Nat×Nat):=(List.range n).map fun i=>(c,i+1)
theorem row_succ(c n:Nat):row c (n+1)=row c n++[(c,n+1)]:=by simp[row,List.range_succ]
theorem row_mem{c n j:Nat}(hj:j<n):(c,j+1)∈row c n:=by simp[row,hj]
def boardsL:Nat→Nat→List (Nat×Nat)
 |0,_=>[]
 |w+1,h=>boardsL w h++row (w+1) h
theorem boardsL_mem{w h i j:Nat}(hi:i<w)(hj:j<h):(i+1,j+1)∈boardsL w h:=by
 induction w with
 |zero=>omega
 |succ w ih=>
  simp only[boardsL,List.mem_append]
  by_cases h1:i<w
  ·exact .inl (ih h1)
  ·obtain rfl:i=w:=by omega
   exact .inr (row_mem hj)
def cutsL(a b:Nat):List (Nat×Nat):=row 3 (a-1)++row 4 (b-1)
theorem unit_gc{h h1 h2:Heap}{N:Nat}{P:List (Nat×Nat)→Heap→Prop}{all:List (Nat×Nat)}{v:Value}(hs:∀done H H',P done H→N≤H'.next→(∀x,x<N→H'.get x=H.get x)→P done H')(hN:N≤h.next)(hn:h.next≤h2.next)(ha:∀x,x<h.next→h2.get x=h1.get x)(q:v= .tuple #[]∧P all h1):v= .tuple #[]∧P all h2:=
 ⟨q.1,hs _ _ _ q.2 (Nat.le_trans hN hn) fun x hx=>ha x (by omega)⟩
end Go.A.Pk
end
section
set_option maxRecDepth 100000
namespace Go.A.Pk
variable {T:Nat→Option AFunc}
theorem a_idxA{base:Nat}{h:Heap}{e:Env}{len size i:Nat}{k:IntKind}{x y:Operand}{cs:Array Value}{v:Value}(hx:ev h e x=some (.agg cs))(hy:ev h e y=some (.int k (i:Nat)))(hi:i<len)(hv:lget cs.toList (i*size)=some v):aop h base e (.idxA len size none x y)=some (.val v h):=by
 have e0:(.int k (i:Nat):Value)= .int k (Int.ofNat i):=rfl
 rw[e0]at hy
 simp only[aop,hx,hy,nblt_of hi,cond_true,hv,bindV]
theorem cuts_mem3{a b j:Nat}(hj:j<a-1):(3,j+1)∈cutsL a b:=List.mem_append_left _ (row_mem hj)
theorem cuts_mem4{a b j:Nat}(hj:j<b-1):(4,j+1)∈cutsL a b:=List.mem_append_right _ (row_mem hj)
set_option maxHeartbeats 8000000 in
theorem cuts141(hp:primAS T)(hf:T 141=some f141){h:Heap}(hr:Rdy h){bx l N lo a b:Nat}{P:List (Nat×Nat)→Heap→Prop}(hN:N≤h.next)(hlo:lo≤h.next)(ha:a<1000)(hb:b<1000)(Y:Yld T lo N l nodeV (cutsL a b) P)
 (hbx:∀d H,P d H→H.get bx=some (.cells [.int .i64 a, .int .i64 b] true 1))(h0:P [] h):
 Gr T 141 [.func (.yield l) #[] #[], .pointer (some ⟨bx,0,none⟩)] h lo fun v h'=>v= .tuple #[]∧P (cutsL a b) h':=by
 refine Gr.of hp hf hlo (fun v h1 h2 _ hn ha q=>unit_gc Y.stable hN hn ha q) ?_
 refine y4 ?_;refine wO_val (a_build (by exact rfl)) ?_;refine yM ?_;refine y3 ?_;refine wE_block ?_
 refine wE_loop (fun k e ds h'=>∃i:Nat,i≤2∧k=2-i∧e=[(0, .func (.yield l) #[] #[]),(1, .pointer (some ⟨bx,0,none⟩)),(6, .agg (List.toArray [.int .u8 3, .int .u8 4])),(7, .int .i64 i)]∧ds=[]∧Lk lo h h'∧P (if i=0 then []else if i=1 then row 3 (a-1)else cutsL a b) h')
  ⟨0,Nat.zero_le _,rfl,rfl,rfl, .refl _ _,h0⟩ ?_
 rintro k e ds h' ⟨i,hi,rfl,rfl,rfl,hk,hP⟩
 obtain rfl|rfl|rfl:i=0∨i=1∨i=2:=by omega
 ·replace hP:P ([]) h':=hP
  refine y4 ?_;refine yt ?_;refine y3 ?_;refine wE_seq ?_;refine yY ?_;refine wE_skip ?_;refine kS_n ?_;refine wE_seq ?_;refine wE_block ?_;refine y4 ?_;refine yM ?_
  refine wO_val (a_idxA (i:=0) (v:= .int .u8 3) (by exact rfl) (by exact rfl) (by omega) rfl) ?_
  refine yM ?_;refine yM ?_;refine y3 ?_;refine y4 ?_;refine yM ?_;refine y3 ?_;refine wE_block ?_
  refine wE_loop (fun k e ds h''=>∃j:Nat,j≤a-1∧k=a-1-j∧e=[(0, .func (.yield l) #[] #[]),(1, .pointer (some ⟨bx,0,none⟩)),(3, .int .i64 (0:Nat)),(4, .int .u8 3),(5, .int .i64 (j+1:Nat)),(6, .agg (List.toArray [.int .u8 3, .int .u8 4])),(7, .int .i64 (0:Nat))]∧ds=[]∧Lk lo h h''∧P (row 3 j) h'')
   ⟨0,Nat.zero_le _,rfl,rfl,rfl,hk,by simpa[row]using hP⟩ ?_
  clear hP hk h'
  rintro k e ds h' ⟨j,hj,rfl,rfl,rfl,hk,hP⟩
  have g2:=hbx _ _ hP
  by_cases hjt:j<a-1
  ·refine wE_seq ?_;refine y4 ?_;refine yM ?_;refine yM ?_;refine wO_val (a_iaddrA (i:=0) (by exact rfl) (by exact rfl) (by omega)) ?_;refine yL ?_;refine yt ?_;refine y3 ?_;refine yY ?_;refine wE_skip ?_;refine kS_n ?_;refine wE_seq ?_;refine wE_block ?_;refine y4 ?_;refine yM ?_;refine yM ?_;refine yM ?_
   refine wO_val (a_build (by exact rfl)) ?_
   refine wO_call (fn:= .yield l) (args:=[nodeV (3,j+1)]) (by rfl) ?_
   refine Y.call hp (cuts_mem3 hjt) (hk.wf hr.wf) (Nat.le_trans hlo hk.next) (Nat.le_trans hN hk.next) hP ?_
   intro h2 hk2 _ hP2
   rw[←row_succ]at hP2
   refine yA ?_;refine y3 ?_;refine yX ?_;refine wE_skip ?_;refine kB_n ?_;refine kS_n ?_;refine wE_region ?_;refine yM ?_
   refine yinc ?_;refine yM ?_;refine y3 ?_
   exact⟨a-1-(j+1),by omega,j+1,by omega,rfl,rfl,rfl,hk.trans hk2,hP2⟩
  ·obtain rfl:j=a-1:=by omega
   refine wE_seq ?_;refine y4 ?_;refine yM ?_;refine yM ?_;refine wO_val (a_iaddrA (i:=0) (by exact rfl) (by exact rfl) (by omega)) ?_;refine yL ?_;refine yf ?_;refine y3 ?_;refine yX ?_;refine wE_exit ?_;refine kS_e ?_;refine kS_e ?_;refine kB_e ?_;refine kB_n ?_;refine kS_n ?_;refine wE_region ?_;refine yinc ?_;refine yM ?_
   refine y3 ?_
   exact⟨2-1,by omega,1,by omega,rfl,rfl,rfl,hk,hP⟩
 ·replace hP:P (row 3 (a-1)) h':=hP
  refine y4 ?_;refine yt ?_;refine y3 ?_;refine wE_seq ?_;refine yY ?_;refine wE_skip ?_;refine kS_n ?_;refine wE_seq ?_;refine wE_block ?_;refine y4 ?_;refine yM ?_
  refine wO_val (a_idxA (i:=1) (v:= .int .u8 4) (by exact rfl) (by exact rfl) (by omega) rfl) ?_
  refine yM ?_;refine yM ?_;refine y3 ?_;refine y4 ?_;refine yM ?_;refine y3 ?_;refine wE_block ?_
  refine wE_loop (fun k e ds h''=>∃j:Nat,j≤b-1∧k=b-1-j∧e=[(0, .func (.yield l) #[] #[]),(1, .pointer (some ⟨bx,0,none⟩)),(3, .int .i64 (1:Nat)),(4, .int .u8 4),(5, .int .i64 (j+1:Nat)),(6, .agg (List.toArray [.int .u8 3, .int .u8 4])),(7, .int .i64 (1:Nat))]∧ds=[]∧Lk lo h h''∧P (row 3 (a-1)++row 4 j) h'')
   ⟨0,Nat.zero_le _,rfl,rfl,rfl,hk,by simpa[row]using hP⟩ ?_
  clear hP hk h'
  rintro k e ds h' ⟨j,hj,rfl,rfl,rfl,hk,hP⟩
  have g2:=hbx _ _ hP
  by_cases hjt:j<b-1
  ·refine wE_seq ?_;refine y4 ?_;refine yM ?_;refine yM ?_;refine wO_val (a_iaddrA (i:=1) (by exact rfl) (by exact rfl) (by omega)) ?_;refine yL ?_;refine yt ?_;refine y3 ?_;refine yY ?_;refine wE_skip ?_;refine kS_n ?_;refine wE_seq ?_;refine wE_block ?_;refine y4 ?_;refine yM ?_;refine yM ?_;refine yM ?_
   refine wO_val (a_build (by exact rfl)) ?_
   refine wO_call (fn:= .yield l) (args:=[nodeV (4,j+1)]) (by rfl) ?_
   refine Y.call hp (cuts_mem4 hjt) (hk.wf hr.wf) (Nat.le_trans hlo hk.next) (Nat.le_trans hN hk.next) hP ?_
   intro h2 hk2 _ hP2
   rw[List.append_assoc,←row_succ]at hP2
   refine yA ?_;refine y3 ?_;refine yX ?_;refine wE_skip ?_;refine kB_n ?_;refine kS_n ?_;refine wE_region ?_;refine yM ?_
   refine yinc ?_;refine yM ?_;refine y3 ?_
   exact⟨b-1-(j+1),by omega,j+1,by omega,rfl,rfl,rfl,hk.trans hk2,hP2⟩
  ·obtain rfl:j=b-1:=by omega
   refine wE_seq ?_;refine y4 ?_;refine yM ?_;refine yM ?_;refine wO_val (a_iaddrA (i:=1) (by exact rfl) (by exact rfl) (by omega)) ?_;refine yL ?_;refine yf ?_;refine y3 ?_;refine yX ?_;refine wE_exit ?_;refine kS_e ?_;refine kS_e ?_;refine kB_e ?_;refine kB_n ?_;refine kS_n ?_;refine wE_region ?_;refine yinc ?_;refine yM ?_
   refine y3 ?_
   exact⟨2-2,by omega,2,by omega,rfl,rfl,rfl,hk,hP⟩
 ·replace hP:P (cutsL a b) h':=hP
  refine y4 ?_;refine yf ?_;refine y3 ?_;refine wE_seq ?_;refine yX ?_;refine wE_exit ?_;refine kS_e ?_;refine kS_e ?_;refine kB_e ?_
  exact endG_end (hk.log (by rw[hr.log];exact LogGe.nil _)) rfl ⟨rfl,hP⟩
def leafAt(k:Kd)(i a b:Nat):List (Nat×Nat):=(if(a:Int)=k.w∧(b:Int)=k.h then [(1,i)]else [])++(if k.turn=true∧(a:Int)=k.h∧(b:Int)=k.w then [(2,i)]else [])
def leavesL(a b:Nat):List Kd→Nat→List (Nat×Nat)
 |[],_=>[]
 |k::l,i=>leafAt k i a b++leavesL a b l (i+1)
theorem leavesL_append(a b:Nat):∀(l m:List Kd) (i:Nat),leavesL a b (l++m) i=leavesL a b l i++leavesL a b m (i+l.length)
 |[],m,i=>by simp[leavesL]
 |k::l,m,i=>by
  simp only[List.cons_append,leavesL,List.append_assoc,List.length_cons]
  rw[leavesL_append a b l m (i+1),show i+1+l.length=i+(l.length+1)by omega]
theorem leaves_succ{a b:Nat}{l:List Kd}{i:Nat}{k:Kd}(h:l[i]? =some k):leavesL a b (l.take (i+1)) 0=leavesL a b (l.take i) 0++leafAt k i a b:=by
 have hi:i<l.length:=(List.getElem?_eq_some_iff.1 h).1
 rw[List.take_add_one,h,leavesL_append]
 simp only[Option.toList,leavesL,List.append_nil,List.length_take,Nat.min_eq_left (Nat.le_of_lt hi),Nat.zero_add]
theorem leaves_mem{a b:Nat}{l:List Kd}{i:Nat}{k:Kd}(h:l[i]? =some k):∀x∈leafAt k i a b,x∈leavesL a b l 0:=by
 intro x hx
 have h1:leavesL a b l 0=leavesL a b (l.take (i+1)) 0++leavesL a b (l.drop (i+1)) (0+(l.take (i+1)).length):=by
  rw[←leavesL_append,List.take_append_drop]
 rw[h1,leaves_succ h]
 simp[hx]
theorem leaves2(x y z u:Int):leavesEq [.i .i64, .i .i64] [.int .i64 x, .int .i64 y] [.int .i64 z, .int .i64 u]=some (decide (x=z∧y=u)):=by
 by_cases h1:x=z
 ·by_cases h2:y=u
  ·subst h1;subst h2
   simp[leavesEq,leafEq]
  ·have e1:(x==z)=true:=by simpa using h1
   have e2:(y==u)=false:=by simpa using h2
   simp only[leavesEq,leafEq, ↓reduceIte,e1,e2,h2,and_false,decide_false]
 ·by_cases h2:y=u
  ·have e1:(x==z)=false:=by simpa using h1
   have e2:(y==u)=true:=by simpa using h2
   simp only[leavesEq,leafEq, ↓reduceIte,e1,e2,h1,false_and,decide_false]
  ·have e1:(x==z)=false:=by simpa using h1
   have e2:(y==u)=false:=by simpa using h2
   simp only[leavesEq,leafEq, ↓reduceIte,e1,e2,h1,false_and,decide_false]
end Go.A.Pk
end
section
set_option maxRecDepth 100000
namespace Go.A.Pk
variable {T:Nat→Option AFunc}
theorem WF.get_lt{h:Heap}(w:WF h){x:Nat}{o:AObj}(hx:h.get x=some o):x<h.next:=by
 refine w.lt x (Classical.byContradiction fun hn=> ?_)
 have:=getO_none hn
 rw[show getO h.objs x=h.get x from rfl,hx]at this
 cases this
set_option maxHeartbeats 8000000 in
theorem leaves140(hp:primAS T)(hf:T 140=some f140){h:Heap}(hr:Rdy h){pb bb px l' N lo a b n c:Nat}{sa:Option Addr}{l:List Kd}{v1 v2:Value}{P:List (Nat×Nat)→Heap→Prop}(hN:N≤h.next)(hlo:lo≤h.next)(hn:n<1000)(Y:Yld T lo N l' nodeV (leavesL a b l 0) P)
 (hpb:h.get pb=some (.cells [.pointer (some ⟨bb,0,none⟩)] true 1))(hbb:h.get bb=some (.cells [.slice sa n c,v1,v2] true 1))
 (hks:∀d H,P d H→SliceOf H 5 (.slice sa n c) n (kcs l))(hpx:∀d H,P d H→H.get px=some (.cells [.int .i64 a, .int .i64 b] true 1))(h0:P [] h):
 Gr T 140 [.func (.yield l') #[] #[], .pointer (some ⟨pb,0,none⟩), .pointer (some ⟨px,0,none⟩)] h lo fun v h'=>v= .tuple #[]∧P (leavesL a b l 0) h':=by
 refine Gr.of hp hf hlo (fun v h1 h2 _ hn ha q=>unit_gc Y.stable hN hn ha q) ?_
 have hlen:l.length=n:=by have:=(hks _ _ h0).len;rw[kcs_length]at this;omega
 refine y4 ?_;refine yL ?_;refine wO_val (a_nilchk (by exact rfl)) ?_;refine yF ?_;refine yF ?_;refine yL ?_;refine yD ?_;refine yM ?_
 refine y3 ?_;refine wE_block ?_
 refine wE_loop (fun k e ds h'=>∃i:Nat,i≤n∧k=n-i∧e=[(0, .func (.yield l') #[] #[]),(2, .pointer (some ⟨px,0,none⟩)),(10, .slice sa n c),(11, .int .i64 n),(12, .int .i64 i)]∧ds=[]∧Lk lo h h'∧P (leavesL a b (l.take i) 0) h')
  ⟨0,Nat.zero_le _,rfl,rfl,rfl, .refl _ _,by simpa[leavesL]using h0⟩ ?_
 clear hpb hbb
 rintro k e ds h' ⟨i,hi,rfl,rfl,rfl,hk,hP⟩
 by_cases hlt:i<n
 ·obtain⟨x,hxl⟩:∃x,l[i]? =some x:=⟨l[i]'(by omega),List.getElem?_eq_getElem (by omega)⟩
  have hsl:=hks _ _ hP
  rcases hsl.inv with⟨_,_,hz,_⟩|⟨b0,o0,cap,hv,s,hcap⟩
  ·omega
  ·cases hv
   obtain⟨vs,own,t0,g5,g6⟩:=slice_elem s hxl
   have hpx':=hpx _ _ hP
   refine y4 ?_;refine yt ?_;refine y3 ?_;refine wE_seq ?_;refine yY ?_;refine wE_skip ?_;refine kS_n ?_;refine wE_seq ?_;refine wE_block ?_;refine y4 ?_;refine yM ?_
   refine wO_val (a_iaddrS (by exact rfl) (by exact rfl) hlt) ?_
   refine wO_val (a_loadN (by exact rfl) g5 g6 (by exact rfl)) ?_
   have hpxl:px<h'.next:=WF.get_lt (hk.wf hr.wf) hpx'
   refine wO_val a_new ?_;refine yM ?_;refine yS ?_;refine y3 ?_;refine wE_seq ?_;refine y4 ?_
   refine yN ?_;refine yF ?_
   refine yL ?_;refine yF ?_
   refine yL ?_;refine wO_val (a_build (by exact rfl)) ?_
   have hN':N≤h'.next:=Nat.le_trans hN hk.next
   have hlo':lo≤h'.next:=Nat.le_trans hlo hk.next
   have hkq:Lk lo h' ((h'.push (.cells [.int .i64 0, .int .i64 0, .int .i64 0, .int .i64 0, .bool false] true 1)).wr h.next h'.next (.cells (kc x) true 1)):=((Lk.refl lo h').push hlo' _).wr hlo'
   have gk:(((h'.push (.cells [.int .i64 0, .int .i64 0, .int .i64 0, .int .i64 0, .bool false] true 1)).wr h.next h'.next (.cells (kc x) true 1))).get h'.next=some (.cells (kc x) true 1):=by(simp(disch:=first|omega|(simp only[z1,z2];omega))only[z3,z4,z5,z6,z7,z1,z2, *];done)
   have gp:(((h'.push (.cells [.int .i64 0, .int .i64 0, .int .i64 0, .int .i64 0, .bool false] true 1)).wr h.next h'.next (.cells (kc x) true 1))).get px=some (.cells [.int .i64 a, .int .i64 b] true 1):=by(simp(disch:=first|omega|(simp only[z1,z2];omega))only[z3,z4,z5,z6,z7,z1,z2, *];done)
   have hPq:P (leavesL a b (l.take i) 0) ((h'.push (.cells [.int .i64 0, .int .i64 0, .int .i64 0, .int .i64 0, .bool false] true 1)).wr h.next h'.next (.cells (kc x) true 1)):=Y.stable _ _ _ hP (Nat.le_succ_of_le hN') fun z hz=>(z5 (by omega)).trans (z4 (by omega))
   have hqn:h'.next<(((h'.push (.cells [.int .i64 0, .int .i64 0, .int .i64 0, .int .i64 0, .bool false] true 1)).wr h.next h'.next (.cells (kc x) true 1))).next:=Nat.lt_succ_self _
   have hmem:=leaves_mem (a:=a) (b:=b) hxl
   have hsucc:=leaves_succ (a:=a) (b:=b) hxl
   change WO T _ _ _ _ _ _ ((h'.push (.cells [.int .i64 0, .int .i64 0, .int .i64 0, .int .i64 0, .bool false] true 1)).wr h.next h'.next (.cells (kc x) true 1))
   generalize hH:Heap.wr (Heap.push h' _) _ _ _=H at*
   clear hH g5 g6 s hpx' hsl hP hpxl
   have hkH:=hk.trans hkq
   by_cases c1:(a:Int)=x.w∧(b:Int)=x.h
   ·have L1:leavesEq [.i .i64, .i .i64] [.int .i64 a, .int .i64 b] [.int .i64 x.w, .int .i64 x.h]=some true:=by rw[leaves2,decide_eq_true c1]
    refine wO_val (a_agg (b:=true) (by exact rfl) (by exact rfl) L1) ?_
    refine yM ?_;refine yO ?_;refine yM ?_;refine yO ?_;refine yM ?_;refine yO ?_;refine wO_val (a_build (by exact rfl)) ?_;refine yO ?_
    refine wO_call (fn:= .yield l') (args:=[nodeV (1,i)]) (by rfl) ?_
    refine Y.call hp (hmem _ (by simp[leafAt,c1])) (hkH.wf hr.wf) (Nat.le_trans hlo hkH.next) (Nat.le_trans hN hkH.next) hPq ?_
    intro h2 hk2 hm2 hP2
    have gk2:=(hm2 h'.next hN' hqn).trans gk
    have gp2:=hpx _ _ hP2
    have hk3:=hkH.trans hk2
    by_cases c2:x.turn=true
    ·have ga:(h2).get h'.next=some (.cells [.int .i64 x.id, .int .i64 x.w, .int .i64 x.h, .int .i64 x.worth, .bool true] true 1):=by rw[gk2,kc,c2]
     clear gk gk2
     refine yO ?_;refine yA ?_;refine yT ?_;refine y3 ?_;refine yX ?_;refine wE_skip ?_;refine kS_n ?_;refine y4 ?_
     refine yF ?_;refine yL ?_;refine yM ?_;refine yO ?_;refine yN ?_;refine yO ?_;refine yF ?_;refine yO ?_
     refine yL ?_;refine yO ?_;refine yF ?_;refine yO ?_;refine yL ?_;refine yO ?_;refine wO_val (a_build (by exact rfl)) ?_;refine yO ?_
     by_cases c3:(a:Int)=x.h∧(b:Int)=x.w
     ·have L2:leavesEq [.i .i64, .i .i64] [.int .i64 a, .int .i64 b] [.int .i64 x.h, .int .i64 x.w]=some true:=by rw[leaves2,decide_eq_true c3]
      refine wO_val (a_agg (b:=true) (by exact rfl) (by exact rfl) L2) ?_
      refine yT ?_;refine yM ?_;refine yO ?_;refine yM ?_;refine yO ?_;refine yM ?_;refine yO ?_;refine wO_val (a_build (by exact rfl)) ?_;refine yO ?_
      refine wO_call (fn:= .yield l') (args:=[nodeV (2,i)]) (by rfl) ?_
      refine Y.call hp (hmem _ (by simp[leafAt,c2,c3])) (hk3.wf hr.wf) (Nat.le_trans hlo hk3.next) (Nat.le_trans hN hk3.next) hP2 ?_
      intro h4 hk4 _ hP4
      refine yO ?_;refine yA ?_;refine yT ?_;refine y3 ?_;refine yX ?_;refine wE_skip ?_;refine kB_n ?_;refine kS_n ?_;refine wE_region ?_
      refine yinc ?_;refine yM ?_;refine y3 ?_
      refine⟨n-(i+1),by omega,i+1,by omega,rfl,rfl,rfl,hk3.trans hk4,?_⟩
      have hl:leafAt x i a b=[(1,i)]++[(2,i)]:=by unfold leafAt;rw[if_pos c1,if_pos ⟨c2,c3⟩]
      rw[hsucc,hl,←List.append_assoc];exact hP4
     ·have L2:leavesEq [.i .i64, .i .i64] [.int .i64 a, .int .i64 b] [.int .i64 x.h, .int .i64 x.w]=some false:=by rw[leaves2,decide_eq_false c3]
      refine wO_val (a_agg (b:=false) (by exact rfl) (by exact rfl) L2) ?_
      refine yT ?_;refine yM ?_;refine yP ?_;refine yP ?_;refine yP ?_;refine yP ?_;refine yP ?_;refine yU ?_
      refine y3 ?_;refine yX ?_;refine wE_skip ?_;refine kB_n ?_;refine kS_n ?_;refine wE_region ?_;refine yinc ?_;refine yM ?_;refine y3 ?_
      refine⟨n-(i+1),by omega,i+1,by omega,rfl,rfl,rfl,hk3,?_⟩
      have hl:leafAt x i a b=[(1,i)]++[]:=by unfold leafAt;rw[if_pos c1,if_neg (fun q=>c3 q.2)]
      rw[hsucc,hl,List.append_nil];exact hP2
    ·have c2:x.turn=false:=by simpa using c2
     have ga:(h2).get h'.next=some (.cells [.int .i64 x.id, .int .i64 x.w, .int .i64 x.h, .int .i64 x.worth, .bool false] true 1):=by rw[gk2,kc,c2]
     clear gk gk2
     refine yO ?_;refine yA ?_;refine yT ?_;refine y3 ?_;refine yX ?_;refine wE_skip ?_;refine kS_n ?_;refine y4 ?_
     refine yF ?_;refine yL ?_;refine yM ?_;refine yP ?_;refine yP ?_;refine yP ?_;refine yP ?_;refine yP ?_
     refine yP ?_;refine yP ?_;refine yU ?_;refine yM ?_;refine yP ?_;refine yP ?_;refine yP ?_;refine yP ?_
     refine yP ?_;refine yU ?_;refine y3 ?_;refine yX ?_;refine wE_skip ?_;refine kB_n ?_;refine kS_n ?_;refine wE_region ?_
     refine yinc ?_;refine yM ?_;refine y3 ?_
     refine⟨n-(i+1),by omega,i+1,by omega,rfl,rfl,rfl,hk3,?_⟩
     have hl:leafAt x i a b=[(1,i)]++[]:=by unfold leafAt;rw[if_pos c1,if_neg (fun q=>by rw[c2]at q;cases q.1)]
     rw[hsucc,hl,List.append_nil];exact hP2
   ·have L1:leavesEq [.i .i64, .i .i64] [.int .i64 a, .int .i64 b] [.int .i64 x.w, .int .i64 x.h]=some false:=by rw[leaves2,decide_eq_false c1]
    refine wO_val (a_agg (b:=false) (by exact rfl) (by exact rfl) L1) ?_
    by_cases c2:x.turn=true
    ·have ga:(H).get h'.next=some (.cells [.int .i64 x.id, .int .i64 x.w, .int .i64 x.h, .int .i64 x.worth, .bool true] true 1):=by rw[gk,kc,c2]
     clear gk
     refine yM ?_;refine yP ?_;refine yP ?_;refine yP ?_;refine yP ?_;refine yP ?_;refine yU ?_;refine y3 ?_;refine yX ?_;refine wE_skip ?_;refine kS_n ?_;refine y4 ?_;refine yF ?_;refine yL ?_;refine yM ?_
     refine yO ?_;refine yN ?_;refine yO ?_;refine yF ?_;refine yO ?_;refine yL ?_;refine yO ?_;refine yF ?_
     refine yO ?_;refine yL ?_;refine yO ?_;refine wO_val (a_build (by exact rfl)) ?_;refine yO ?_
     by_cases c3:(a:Int)=x.h∧(b:Int)=x.w
     ·have L2:leavesEq [.i .i64, .i .i64] [.int .i64 a, .int .i64 b] [.int .i64 x.h, .int .i64 x.w]=some true:=by rw[leaves2,decide_eq_true c3]
      refine wO_val (a_agg (b:=true) (by exact rfl) (by exact rfl) L2) ?_
      refine yT ?_;refine yM ?_;refine yO ?_;refine yM ?_;refine yO ?_;refine yM ?_;refine yO ?_;refine wO_val (a_build (by exact rfl)) ?_;refine yO ?_
      refine wO_call (fn:= .yield l') (args:=[nodeV (2,i)]) (by rfl) ?_
      refine Y.call hp (hmem _ (by simp[leafAt,c2,c3])) (hkH.wf hr.wf) (Nat.le_trans hlo hkH.next) (Nat.le_trans hN hkH.next) hPq ?_
      intro h4 hk4 _ hP4
      refine yO ?_;refine yA ?_;refine yT ?_;refine y3 ?_;refine yX ?_;refine wE_skip ?_;refine kB_n ?_;refine kS_n ?_;refine wE_region ?_
      refine yinc ?_;refine yM ?_;refine y3 ?_
      refine⟨n-(i+1),by omega,i+1,by omega,rfl,rfl,rfl,hkH.trans hk4,?_⟩
      have hl:leafAt x i a b=[]++[(2,i)]:=by unfold leafAt;rw[if_neg c1,if_pos ⟨c2,c3⟩]
      rw[hsucc,hl,List.nil_append];exact hP4
     ·have L2:leavesEq [.i .i64, .i .i64] [.int .i64 a, .int .i64 b] [.int .i64 x.h, .int .i64 x.w]=some false:=by rw[leaves2,decide_eq_false c3]
      refine wO_val (a_agg (b:=false) (by exact rfl) (by exact rfl) L2) ?_
      refine yT ?_;refine yM ?_;refine yP ?_;refine yP ?_;refine yP ?_;refine yP ?_;refine yP ?_;refine yU ?_
      refine y3 ?_;refine yX ?_;refine wE_skip ?_;refine kB_n ?_;refine kS_n ?_;refine wE_region ?_;refine yinc ?_;refine yM ?_;refine y3 ?_
      refine⟨n-(i+1),by omega,i+1,by omega,rfl,rfl,rfl,hkH,?_⟩
      have hl:leafAt x i a b=[]++[]:=by unfold leafAt;rw[if_neg c1,if_neg (fun q=>c3 q.2)]
      rw[hsucc,hl,List.append_nil,List.append_nil];exact hPq
    ·have c2:x.turn=false:=by simpa using c2
     have ga:(H).get h'.next=some (.cells [.int .i64 x.id, .int .i64 x.w, .int .i64 x.h, .int .i64 x.worth, .bool false] true 1):=by rw[gk,kc,c2]
     clear gk
     refine yM ?_;refine yP ?_;refine yP ?_;refine yP ?_;refine yP ?_;refine yP ?_;refine yU ?_;refine y3 ?_;refine yX ?_;refine wE_skip ?_;refine kS_n ?_;refine y4 ?_;refine yF ?_;refine yL ?_;refine yM ?_
     refine yP ?_;refine yP ?_;refine yP ?_;refine yP ?_;refine yP ?_;refine yP ?_;refine yP ?_;refine yU ?_
     refine yM ?_;refine yP ?_;refine yP ?_;refine yP ?_;refine yP ?_;refine yP ?_;refine yU ?_;refine y3 ?_;refine yX ?_;refine wE_skip ?_;refine kB_n ?_;refine kS_n ?_;refine wE_region ?_;refine yinc ?_;refine yM ?_;refine y3 ?_
     refine⟨n-(i+1),by omega,i+1,by omega,rfl,rfl,rfl,hkH,?_⟩
     have hl:leafAt x i a b=[]++[]:=by unfold leafAt;rw[if_neg c1,if_neg (fun q=>by rw[c2]at q;cases q.1)]
     rw[hsucc,hl,List.append_nil,List.append_nil];exact hPq
 ·obtain rfl:i=n:=by omega
  have hfull:l.take i=l:=List.take_of_length_le (by omega)
  rw[hfull]at hP
  refine y4 ?_;refine yf ?_;refine y3 ?_;refine wE_seq ?_;refine yX ?_;refine wE_exit ?_;refine kS_e ?_;refine kS_e ?_;refine kB_e ?_
  exact endG_end (hk.log (by rw[hr.log];exact LogGe.nil _)) rfl ⟨rfl,hP⟩
end Go.A.Pk
end
section
set_option maxRecDepth 100000
namespace Go.A.Pk
variable {T:Nat→Option AFunc}
def fn2(f p q:Nat):Value:= .func (.func f) #[] #[.pointer (some ⟨p,0,none⟩), .pointer (some ⟨q,0,none⟩)]
def fn1(f p:Nat):Value:= .func (.func f) #[] #[.pointer (some ⟨p,0,none⟩)]
theorem boards94(hp:primAS T)(hf:T 94=some f94){h:Heap}(hr:Rdy h)(w ht:Int):Al T 94 [.int .i64 w, .int .i64 ht] h fun v h'=>v=fn2 136 h.next (h.next+1)∧h'.next=h.next+2∧h'.get h.next=some (.cells [.int .i64 w] true 1)∧h'.get (h.next+1)=some (.cells [.int .i64 ht] true 1):=by
 refine .of hp hf hr (fun v h1 hv q=>by rw[q.1]at hv;cases hv) ?_
 refine y4 ?_;refine yB ?_;refine yB ?_;refine yM ?_;refine y3 ?_;refine y4 ?_
 refine wO_val (a_mkFunc (by exact rfl) (by exact rfl)) ?_;refine yM ?_;refine y3 ?_;refine wE_ret ?_
 exact endA_ret hr.log (by rfl) ⟨rfl,rfl,by(simp(disch:=first|omega|(simp only[z1,z2];omega))only[z3,z4,z5,z6,z7,z1,z2, *];exact rfl),by(simp(disch:=first|omega|(simp only[z1,z2];omega)|(simp only[z1,z2];done)|fail)only[z8,z4,z5,z9,z7,z1,z2, *];exact rfl)⟩
theorem leaves104(hp:primAS T)(hf:T 104=some f104){h:Heap}(hr:Rdy h)(bb:Nat)(a b:Int):Al T 104 [.pointer (some ⟨bb,0,none⟩), .agg #[.int .i64 a, .int .i64 b]] h fun v h'=>v=fn2 140 h.next (h.next+1)∧h'.next=h.next+2∧h'.get h.next=some (.cells [.pointer (some ⟨bb,0,none⟩)] true 1)∧h'.get (h.next+1)=some (.cells [.int .i64 a, .int .i64 b] true 1):=by
 refine .of hp hf hr (fun v h1 hv q=>by rw[q.1]at hv;cases hv) ?_
 refine y4 ?_;refine yB ?_;refine yB ?_;refine yM ?_;refine y3 ?_;refine y4 ?_
 refine wO_val (a_mkFunc (by exact rfl) (by exact rfl)) ?_;refine yM ?_;refine y3 ?_;refine wE_ret ?_
 exact endA_ret hr.log (by rfl) ⟨rfl,rfl,by(simp(disch:=first|omega|(simp only[z1,z2];omega))only[z3,z4,z5,z6,z7,z1,z2, *];exact rfl),by(simp(disch:=first|omega|(simp only[z1,z2];omega)|(simp only[z1,z2];done)|fail)only[z8,z4,z5,z9,z7,z1,z2, *];exact rfl)⟩
theorem cuts105(hp:primAS T)(hf:T 105=some f105){h:Heap}(hr:Rdy h)(bb:Value)(a b:Int):Al T 105 [bb, .agg #[.int .i64 a, .int .i64 b]] h fun v h'=>v=fn1 141 h.next∧h'.next=h.next+1∧h'.get h.next=some (.cells [.int .i64 a, .int .i64 b] true 1):=by
 refine .of hp hf hr (fun v h1 hv q=>by rw[q.1]at hv;cases hv) ?_
 refine y4 ?_;refine yB ?_;refine yM ?_;refine y3 ?_;refine y4 ?_;refine wO_val (a_mkFunc (by exact rfl) (by exact rfl)) ?_
 refine yM ?_;refine y3 ?_;refine wE_ret ?_
 exact endA_ret hr.log (by rfl) ⟨rfl,rfl,by(simp(disch:=first|omega|(simp only[z1,z2];omega))only[z3,z4,z5,z6,z7,z1,z2, *];exact rfl)⟩
def oneB(x:Nat×Nat)(a b:Nat):Int×Int:=if x.1=3 then(x.2,b)else(a,x.2)
def twoB(kerf:Int)(x:Nat×Nat)(a b:Nat):Int×Int:=if x.1=3 then((a:Int)-x.2-kerf,b)else(a,(b:Int)-x.2-kerf)
def pairV(x:Int×Int):Value:= .agg #[.int .i64 x.1, .int .i64 x.2]
set_option maxHeartbeats 4000000 in
theorem split106(hp:primAS T)(hf:T 106=some f106){h:Heap}(hr:Rdy h){bb:Nat}{s ws:Value}{own:Bool}{kerf:Int}(hb:h.get bb=some (.cells [s, .int .i64 kerf,ws] own 1))(hlt:bb<h.next)(hk:0≤kerf∧kerf≤100){x:Nat×Nat}{a b:Nat}(hx:x.1=3∨x.1=4)(hx2:x.2<1000)(ha:a<1000)(hbb:b<1000):
 Pu T 106 [.pointer (some ⟨bb,0,none⟩),boardV (a,b),nodeV x] h (.tuple #[pairV (oneB x a b),pairV (twoB kerf x a b)]):=by
 refine .of hp hf hr rfl ?_
 obtain⟨x1,x2⟩:=x
 unfold boardV nodeV
 simp only at hx hx2
 rcases hx with rfl|rfl
 ·refine y4 ?_;refine yB ?_;refine yB ?_;refine wO_val a_new ?_;refine wO_val a_new ?_;refine y3 ?_;refine wE_seq ?_;refine y4 ?_
  refine yF ?_;refine yL ?_
  refine yt ?_;refine y3 ?_;refine yY ?_;refine wE_seq ?_;refine wE_draw ?_;refine qF ?_
  refine qL ?_
  refine wD_quiet rfl rfl rfl (by exact rfl) (by exact rfl) (by exact rfl) (a_iaddrA (i:=1) (by exact rfl) (by exact rfl) (by omega)) ?_
  refine qL ?_
  refine wD_quiet rfl rfl rfl (by exact rfl) (by exact rfl) (by exact rfl) (a_build (by exact rfl)) ?_;refine wD_quiet rfl rfl rfl (by exact rfl) (by exact rfl) (by exact rfl) (a_iaddrA (i:=0) (by exact rfl) (by exact rfl) (by omega)) ?_
  refine qL ?_
  refine qF ?_
  refine qL ?_
  refine wD_quiet rfl rfl rfl (by exact rfl) (by exact rfl) (by exact rfl) (a_num (by exact rfl) (by exact rfl) (by exact m_sub (wrapA_i64 (by omega) (by omega)))) ?_;refine qM ?_;refine wD_quiet rfl rfl rfl (by exact rfl) (by exact rfl) (by exact rfl) (a_nilchk (by exact rfl)) ?_
  refine qF ?_;refine qF ?_
  refine qL ?_
  refine wD_quiet rfl rfl rfl (by exact rfl) (by exact rfl) (by exact rfl) (a_num (by exact rfl) (by exact rfl) (by exact m_sub (wrapA_i64 (by omega) (by omega)))) ?_;refine wD_quiet rfl rfl rfl (by exact rfl) (by exact rfl) (by exact rfl) (a_iaddrA (i:=1) (by exact rfl) (by exact rfl) (by omega)) ?_
  refine qL ?_
  refine wD_quiet rfl rfl rfl (by exact rfl) (by exact rfl) (by exact rfl) (a_build (by exact rfl)) ?_
  refine wD_store rfl rfl rfl (by exact rfl) (by exact rfl) (by exact rfl) (by(simp(disch:=first|omega|(simp only[z1,z2];omega)|(simp only[z1,z2];done)|fail)only[z8,z4,z5,z9,z7,z1,z2, *];exact rfl)) (by exact rfl) (by exact rfl) (by(simp only[z1,z2];omega)) (by(simp only[z1,z2];omega)) (by apply ra_keepC rfl (rq_quiet rfl (a_build (by exact rfl)) (by exact sv_agg (by refine sl_cons (s1_int _ _) ?_;refine sl_cons (s1_int _ _) ?_;exact sl_nil))) rfl;apply ra_keepC rfl (rq_quiet rfl (a_load (by exact rfl) (by(simp(disch:=first|omega|(simp only[z1,z2];omega))only[z3,z4,z5,z6,z7,z1,z2, *];exact rfl)) (by exact rfl)) (by exact sv_int _ _)) rfl;apply ra_keepC rfl (rq_quiet rfl (a_iaddrA (i:=1) (by exact rfl) (by exact rfl) (by omega)) (by exact sv_ptr _)) rfl;apply ra_keepC rfl (rq_quiet rfl (a_num (by exact rfl) (by exact rfl) (by exact m_sub (wrapA_i64 (by omega) (by omega)))) (by exact sv_int _ _)) rfl;apply ra_keepC rfl (rq_quiet rfl (a_load (by exact rfl) (by(simp(disch:=first|omega|(simp only[z1,z2];omega))only[z3,z4,z5,z6,z7,z1,z2, *];exact rfl)) (by exact rfl)) (by exact sv_int _ _)) rfl;apply ra_keepC rfl (rq_quiet rfl (a_faddr (by exact rfl)) (by exact sv_ptr _)) rfl;apply ra_keepC rfl (rq_quiet rfl (a_faddr (by exact rfl)) (by exact sv_ptr _)) rfl;apply ra_keepC rfl (rq_quiet rfl (a_nilchk (by exact rfl)) (by exact sv_ptr _)) rfl;apply ra_keepC rfl (rq_quiet rfl (a_mov (by exact rfl)) (by exact sv_ptr _)) rfl;apply ra_keepC rfl (rq_quiet rfl (a_num (by exact rfl) (by exact rfl) (by exact m_sub (wrapA_i64 (by omega) (by omega)))) (by exact sv_int _ _)) rfl;apply ra_keepC rfl (rq_quiet rfl (a_load (by exact rfl) (by(simp(disch:=first|omega|(simp only[z1,z2];omega)|(simp only[z1,z2];done)|fail)only[z8,z4,z5,z9,z7,z1,z2, *];exact rfl)) (by exact rfl)) (by exact sv_int _ _)) rfl;apply ra_keepC rfl (rq_quiet rfl (a_faddr (by exact rfl)) (by exact sv_ptr _)) rfl;apply ra_keepC rfl (rq_quiet rfl (a_load (by exact rfl) (by(simp(disch:=first|omega|(simp only[z1,z2];omega))only[z3,z4,z5,z6,z7,z1,z2, *];exact rfl)) (by exact rfl)) (by exact sv_int _ _)) rfl;apply ra_keepC rfl (rq_quiet rfl (a_iaddrA (i:=0) (by exact rfl) (by exact rfl) (by omega)) (by exact sv_ptr _)) rfl;apply ra_dropC rfl;apply ra_dropC rfl;apply ra_dropC rfl;apply ra_dropC rfl;apply ra_dropC rfl;exact ra_nil) ?_
  refine wD_store rfl rfl rfl (by exact rfl) (by exact rfl) (by exact rfl) (by(simp(disch:=first|omega|(simp only[z1,z2];omega)|(simp only[z1,z2];done)|fail)only[z8,z4,z5,z9,z7,z1,z2, *];exact rfl)) (by exact rfl) (by exact rfl) (by(simp only[z1,z2];omega)) (by(simp only[z1,z2];omega)) (by apply ra_dropC rfl;apply ra_dropC rfl;apply ra_dropC rfl;apply ra_dropC rfl;apply ra_dropC rfl;apply ra_dropC rfl;apply ra_dropC rfl;apply ra_dropC rfl;apply ra_dropC rfl;apply ra_dropC rfl;apply ra_dropC rfl;apply ra_dropC rfl;apply ra_dropC rfl;apply ra_dropC rfl;exact ra_nil) ?_
  refine wD_nil ?_;refine y1 ?_;refine kS_n ?_;refine wE_ret ?_;refine kS_r ?_
  refine endP_ret ((Heap.log_wr_new (by(simp only[z1,z2];omega))).trans ((Heap.log_wr_new (by(simp only[z1,z2];omega))).trans hr.log)) (vs:=[pairV (oneB (3,x2) a b),pairV (twoB kerf (3,x2) a b)]) ?_ rfl
  refine res_cells (b:=h.next+2) rfl (by(simp(disch:=first|omega|(simp only[z1,z2];omega)|(simp only[z1,z2];done)|fail)only[z8,z4,z5,z9,z7,z1,z2, *];exact rfl)) rfl rfl (res_cells (b:=h.next+3) rfl (by(simp(disch:=first|omega|(simp only[z1,z2];omega)|(simp only[z1,z2];done)|fail)only[z8,z4,z5,z9,z7,z1,z2, *];exact rfl)) rfl rfl res_nil)
 ·refine y4 ?_;refine yB ?_;refine yB ?_;refine wO_val a_new ?_;refine wO_val a_new ?_;refine y3 ?_;refine wE_seq ?_;refine y4 ?_
  refine yF ?_;refine yL ?_
  refine yf ?_;refine y3 ?_;refine yX ?_;refine wE_skip ?_;refine kS_n ?_;refine wE_seq ?_;refine wE_draw ?_
  refine wD_quiet rfl rfl rfl (by exact rfl) (by exact rfl) (by exact rfl) (a_iaddrA (i:=0) (by exact rfl) (by exact rfl) (by omega)) ?_
  refine qL ?_
  refine qF ?_
  refine qL ?_
  refine wD_quiet rfl rfl rfl (by exact rfl) (by exact rfl) (by exact rfl) (a_build (by exact rfl)) ?_;refine wD_quiet rfl rfl rfl (by exact rfl) (by exact rfl) (by exact rfl) (a_iaddrA (i:=0) (by exact rfl) (by exact rfl) (by omega)) ?_
  refine qL ?_
  refine wD_quiet rfl rfl rfl (by exact rfl) (by exact rfl) (by exact rfl) (a_iaddrA (i:=1) (by exact rfl) (by exact rfl) (by omega)) ?_
  refine qL ?_
  refine qF ?_
  refine qL ?_
  refine wD_quiet rfl rfl rfl (by exact rfl) (by exact rfl) (by exact rfl) (a_num (by exact rfl) (by exact rfl) (by exact m_sub (wrapA_i64 (by omega) (by omega)))) ?_;refine qM ?_;refine wD_quiet rfl rfl rfl (by exact rfl) (by exact rfl) (by exact rfl) (a_nilchk (by exact rfl)) ?_
  refine qF ?_;refine qF ?_
  refine qL ?_
  refine wD_quiet rfl rfl rfl (by exact rfl) (by exact rfl) (by exact rfl) (a_num (by exact rfl) (by exact rfl) (by exact m_sub (wrapA_i64 (by omega) (by omega)))) ?_;refine wD_quiet rfl rfl rfl (by exact rfl) (by exact rfl) (by exact rfl) (a_build (by exact rfl)) ?_
  refine wD_store rfl rfl rfl (by exact rfl) (by exact rfl) (by exact rfl) (by(simp(disch:=first|omega|(simp only[z1,z2];omega)|(simp only[z1,z2];done)|fail)only[z8,z4,z5,z9,z7,z1,z2, *];exact rfl)) (by exact rfl) (by exact rfl) (by(simp only[z1,z2];omega)) (by(simp only[z1,z2];omega)) (by apply ra_keepC rfl (rq_quiet rfl (a_build (by exact rfl)) (by exact sv_agg (by refine sl_cons (s1_int _ _) ?_;refine sl_cons (s1_int _ _) ?_;exact sl_nil))) rfl;apply ra_keepC rfl (rq_quiet rfl (a_num (by exact rfl) (by exact rfl) (by exact m_sub (wrapA_i64 (by omega) (by omega)))) (by exact sv_int _ _)) rfl;apply ra_keepC rfl (rq_quiet rfl (a_load (by exact rfl) (by(simp(disch:=first|omega|(simp only[z1,z2];omega))only[z3,z4,z5,z6,z7,z1,z2, *];exact rfl)) (by exact rfl)) (by exact sv_int _ _)) rfl;apply ra_keepC rfl (rq_quiet rfl (a_faddr (by exact rfl)) (by exact sv_ptr _)) rfl;apply ra_keepC rfl (rq_quiet rfl (a_faddr (by exact rfl)) (by exact sv_ptr _)) rfl;apply ra_keepC rfl (rq_quiet rfl (a_nilchk (by exact rfl)) (by exact sv_ptr _)) rfl;apply ra_keepC rfl (rq_quiet rfl (a_mov (by exact rfl)) (by exact sv_ptr _)) rfl;apply ra_keepC rfl (rq_quiet rfl (a_num (by exact rfl) (by exact rfl) (by exact m_sub (wrapA_i64 (by omega) (by omega)))) (by exact sv_int _ _)) rfl;apply ra_keepC rfl (rq_quiet rfl (a_load (by exact rfl) (by(simp(disch:=first|omega|(simp only[z1,z2];omega)|(simp only[z1,z2];done)|fail)only[z8,z4,z5,z9,z7,z1,z2, *];exact rfl)) (by exact rfl)) (by exact sv_int _ _)) rfl;apply ra_keepC rfl (rq_quiet rfl (a_faddr (by exact rfl)) (by exact sv_ptr _)) rfl;apply ra_keepC rfl (rq_quiet rfl (a_load (by exact rfl) (by(simp(disch:=first|omega|(simp only[z1,z2];omega))only[z3,z4,z5,z6,z7,z1,z2, *];exact rfl)) (by exact rfl)) (by exact sv_int _ _)) rfl;apply ra_keepC rfl (rq_quiet rfl (a_iaddrA (i:=1) (by exact rfl) (by exact rfl) (by omega)) (by exact sv_ptr _)) rfl;apply ra_keepC rfl (rq_quiet rfl (a_load (by exact rfl) (by(simp(disch:=first|omega|(simp only[z1,z2];omega))only[z3,z4,z5,z6,z7,z1,z2, *];exact rfl)) (by exact rfl)) (by exact sv_int _ _)) rfl;apply ra_keepC rfl (rq_quiet rfl (a_iaddrA (i:=0) (by exact rfl) (by exact rfl) (by omega)) (by exact sv_ptr _)) rfl;apply ra_dropC rfl;apply ra_dropC rfl;apply ra_dropC rfl;apply ra_dropC rfl;apply ra_dropC rfl;exact ra_nil) ?_
  refine wD_store rfl rfl rfl (by exact rfl) (by exact rfl) (by exact rfl) (by(simp(disch:=first|omega|(simp only[z1,z2];omega)|(simp only[z1,z2];done)|fail)only[z8,z4,z5,z9,z7,z1,z2, *];exact rfl)) (by exact rfl) (by exact rfl) (by(simp only[z1,z2];omega)) (by(simp only[z1,z2];omega)) (by apply ra_dropC rfl;apply ra_dropC rfl;apply ra_dropC rfl;apply ra_dropC rfl;apply ra_dropC rfl;apply ra_dropC rfl;apply ra_dropC rfl;apply ra_dropC rfl;apply ra_dropC rfl;apply ra_dropC rfl;apply ra_dropC rfl;apply ra_dropC rfl;apply ra_dropC rfl;apply ra_dropC rfl;exact ra_nil) ?_
  refine wD_nil ?_;refine y1 ?_;refine kS_n ?_;refine wE_ret ?_
  refine endP_ret ((Heap.log_wr_new (by(simp only[z1,z2];omega))).trans ((Heap.log_wr_new (by(simp only[z1,z2];omega))).trans hr.log)) (vs:=[pairV (oneB (4,x2) a b),pairV (twoB kerf (4,x2) a b)]) ?_ rfl
  refine res_cells (b:=h.next+2) rfl (by(simp(disch:=first|omega|(simp only[z1,z2];omega)|(simp only[z1,z2];done)|fail)only[z8,z4,z5,z9,z7,z1,z2, *];exact rfl)) rfl rfl (res_cells (b:=h.next+3) rfl (by(simp(disch:=first|omega|(simp only[z1,z2];omega)|(simp only[z1,z2];done)|fail)only[z8,z4,z5,z9,z7,z1,z2, *];exact rfl)) rfl rfl res_nil)
end Go.A.Pk
end
