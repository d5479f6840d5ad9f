/- Walks of functions, plain laws, the table. -/
import Derived.Test.YteafdpbjocdbbaaGreatDoorHD
import Derived.Test.YteafdpbjocdbbaaGreatDoorHG
set_option linter.all false
section
set_option maxRecDepth 100000
namespace Go.A.Pk
variable {T:Nat→Option ah}
structure Kd where
 id:Int
 w:Int
 h:Int
 bq:Int
 j4:Bool
def kc(k:Kd):List Value:=[.int .i64 k.id, .int .i64 k.w, .int .i64 k.h, .int .i64 k.bq, .bool k.j4]
def kcs:List Kd→List Value
 |[]=>[]
 |k::l=>kc k++kcs l
def ka(k:Kd):Value:= .agg #[.int .i64 k.id, .int .i64 k.w, .int .i64 k.h, .int .i64 k.bq, .bool k.j4]
def lW(k:Kd):Prop:=(1≤k.id∧k.id≤1000000)∧(1≤k.w∧k.w≤16)∧(1≤k.h∧k.h≤16)∧(0≤k.bq∧k.bq≤1000000)
instance(k:Kd):Decidable (lW k):=by unfold lW;infer_instance
theorem cP:∀(l:List Kd),(kcs l).length=l.length*5
 |[]=>rfl
 |k::l=>by simp[kcs,kc,cP l];omega
theorem vN:∀(l:List Kd) (i:Nat),(kcs l).drop (i*5)=kcs (l.drop i)
 |[],i=>by simp[kcs]
 |k::l,0=>by simp
 |k::l,i+1=>by
  rw[List.drop_succ_cons,←vN l i,show(i+1)*5=5+i*5 by omega,←List.drop_drop]
  rfl
theorem vW:∀(l:List Kd) (i:Nat),(kcs l).take (i*5)=kcs (l.take i)
 |[],i=>by simp[kcs]
 |k::l,0=>by simp[kcs]
 |k::l,i+1=>by
  rw[List.take_succ_cons]
  show(kc k++kcs l).take _=kc k++kcs (l.take i)
  rw[←vW l i,show(i+1)*5=(kc k).length+i*5 by simp[kc];omega,List.take_length_add_append]
theorem iE{h:Heap}{b o n:Nat}{l:List Kd}(s:ki h b o n 5 (kcs l)){i:Nat}{k:Kd}(hi:l[i]? =some k):∃vs own t,h.get b=some (.cells vs own t)∧dM 5 (dN (o+i*5) vs)=kc k:=by
 obtain⟨vs,own,t,h1,h2⟩:=s.obj
 refine⟨vs,own,t,h1,?_⟩
 rw[dj,cu]at h2⊢
 have hl:=s.len
 rw[cP]at hl
 have hin:i<l.length:=(List.getElem?_eq_some_iff.1 hi).1
 have h3:(vs.drop (o+i*5)).take 5=(((vs.drop o).take (n*5)).drop (i*5)).take 5:=by
  rw[List.drop_take,List.drop_drop,List.take_take,Nat.min_eq_left (by omega)]
 rw[h3,h2,vN]
 have:l.drop i=k::l.drop (i+1):=by
  rw[List.drop_eq_getElem_cons hin]
  congr 1
  rw[List.getElem?_eq_getElem hin]at hi
  injection hi
 rw[this]
 rfl
theorem kZ(hp:bC T)(hf:T 77=some f77){h:Heap}(hr:Rdy h){n a b:Int}(hn:a≤n∧n≤b):Pu T 77 [.int .i64 n, .int .i64 a, .int .i64 b] h (.bool true):=by
 refine .of hp hf hr rfl ?_
 refine y4 ?_;refine yM ?_;refine y3 ?_;refine y4 ?_;refine yM ?_;refine yM ?_
 refine yt ?_;refine yM ?_;refine yO ?_;refine yM ?_;refine yO ?_;refine yM ?_;refine yO ?_;refine yt ?_
 refine yT ?_;refine yM ?_;refine y3 ?_;refine aH ?_
 exact aF hr.log rfl rfl
theorem oA(hp:bC T)(hf:T 77=some f77){h:Heap}(hr:Rdy h){n a b:Int}(hn:¬ (a≤n∧n≤b)):Pu T 77 [.int .i64 n, .int .i64 a, .int .i64 b] h (.bool false):=by
 refine .of hp hf hr rfl ?_
 by_cases h1:a≤n
 ·refine y4 ?_;refine yM ?_;refine y3 ?_;refine y4 ?_;refine yM ?_;refine yM ?_
  refine yt ?_;refine yM ?_;refine yO ?_;refine yM ?_;refine yO ?_;refine yM ?_;refine yO ?_;refine yf ?_
  refine yT ?_;refine yM ?_;refine y3 ?_;refine aH ?_
  exact aF hr.log rfl rfl
 ·refine y4 ?_;refine yM ?_;refine y3 ?_;refine y4 ?_;refine yM ?_;refine yM ?_
  refine yf ?_;refine yM ?_;refine yP ?_;refine yP ?_;refine yP ?_;refine yU ?_;refine yM ?_;refine y3 ?_;refine aH ?_
  exact aF hr.log rfl rfl
theorem xj(hp:bC T)(hf:T 117=some f117)(hf7:T 77=some f77){h:Heap}(hr:Rdy h)(k:Kd):Pu T 117 [ka k] h (.bool (decide (lW k))):=by
 by_cases c:lW k
 ·rw[decide_eq_true c]
  unfold lW at c
  refine .of hp hf hr rfl ?_
  refine y4 ?_;refine yB ?_;refine yM ?_;refine y3 ?_;refine y4 ?_;refine yF ?_
  refine yL ?_
  refine yC ?_
  refine FW.pu (kZ hp hf7 (.of (hr.wf.push _)) (by omega)) ?_
  refine yM ?_;refine yO ?_;refine yF ?_;refine yO ?_
  refine yL ?_;refine yO ?_
  refine yC ?_
  refine FW.pu (kZ hp hf7 (.of (hr.wf.push _)) (by omega)) ?_
  refine yT ?_;refine yM ?_;refine yO ?_;refine yF ?_;refine yO ?_
  refine yL ?_;refine yO ?_
  refine yC ?_
  refine FW.pu (kZ hp hf7 (.of (hr.wf.push _)) (by omega)) ?_
  refine yT ?_;refine yM ?_;refine yO ?_;refine yF ?_;refine yO ?_
  refine yL ?_;refine yO ?_
  refine yC ?_
  refine FW.pu (kZ hp hf7 (.of (hr.wf.push _)) (by omega)) ?_
  refine yT ?_;refine yM ?_;refine y3 ?_;refine aH ?_
  exact aF hr.log rfl rfl
 ·rw[decide_eq_false c]
  unfold lW at c
  refine .of hp hf hr rfl ?_
  refine y4 ?_;refine yB ?_;refine yM ?_;refine y3 ?_;refine y4 ?_;refine yF ?_
  refine yL ?_
  refine yC ?_
  by_cases c1:1≤k.id∧k.id≤1000000
  ·refine FW.pu (kZ hp hf7 (.of (hr.wf.push _)) c1) ?_
   refine yM ?_;refine yO ?_;refine yF ?_;refine yO ?_
   refine yL ?_;refine yO ?_
   refine yC ?_
   by_cases c2:1≤k.w∧k.w≤16
   ·refine FW.pu (kZ hp hf7 (.of (hr.wf.push _)) c2) ?_
    refine yT ?_;refine yM ?_;refine yO ?_;refine yF ?_;refine yO ?_
    refine yL ?_;refine yO ?_
    refine yC ?_
    by_cases c3:1≤k.h∧k.h≤16
    ·refine FW.pu (kZ hp hf7 (.of (hr.wf.push _)) c3) ?_
     refine yT ?_;refine yM ?_;refine yO ?_;refine yF ?_;refine yO ?_
     refine yL ?_;refine yO ?_
     refine yC ?_
     refine FW.pu (oA hp hf7 (.of (hr.wf.push _)) (by omega)) ?_
     refine yT ?_;refine yM ?_;refine y3 ?_;refine aH ?_
     exact aF hr.log rfl rfl
    ·refine FW.pu (oA hp hf7 (.of (hr.wf.push _)) c3) ?_
     refine yT ?_;refine yM ?_;refine yP ?_;refine yP ?_;refine yP ?_;refine yU ?_;refine yM ?_;refine y3 ?_;refine aH ?_
     exact aF hr.log rfl rfl
   ·refine FW.pu (oA hp hf7 (.of (hr.wf.push _)) c2) ?_
    refine yT ?_;refine yM ?_;refine yP ?_;refine yP ?_;refine yP ?_;refine yU ?_;refine yM ?_;refine yP ?_
    refine yP ?_;refine yP ?_;refine yU ?_;refine yM ?_;refine y3 ?_;refine aH ?_
    exact aF hr.log rfl rfl
  ·refine FW.pu (oA hp hf7 (.of (hr.wf.push _)) c1) ?_
   refine yM ?_;refine yP ?_;refine yP ?_;refine yP ?_;refine yU ?_;refine yM ?_;refine yP ?_;refine yP ?_
   refine yP ?_;refine yU ?_;refine yM ?_;refine yP ?_;refine yP ?_;refine yP ?_;refine yU ?_;refine yM ?_
   refine y3 ?_;refine aH ?_
   exact aF hr.log rfl rfl
theorem HX(hp:bC T)(hf:T 119=some f119){h:Heap}(hr:Rdy h)(x y:Kd){b s:Nat}{own:Bool}(hb:h.get b=some (.cells (kc y) own s))(hlt:b<h.next):Pu T 119 [ka x, .pointer (some ⟨b,0,none⟩)] h (.bool (x.id==y.id)):=by
 refine .of hp hf hr rfl ?_
 refine y4 ?_;refine yB ?_;refine yM ?_;refine y3 ?_;refine y4 ?_;refine yF ?_
 refine yL ?_;refine yF ?_
 refine yL ?_;refine af (cE (by exact rfl) (by exact rfl) (by exact Fy)) ?_;refine yM ?_
 refine y3 ?_;refine aH ?_
 exact aF hr.log rfl rfl
end Go.A.Pk
end
section
set_option maxRecDepth 100000
namespace Go.A.Pk
variable {T:Nat→Option ah}
def wU(p:Kd→Bool)(l:List Kd):Int:=match l.findIdx? p with
 |some i=>i
 |none=> -1
theorem Gy{p:Kd→Bool}{l:List Kd}{i:Nat}{k:Kd}(hi:l[i]? =some k)(hp:p k=true)(hj:∀(j:Nat) (k':Kd),j<i→l[j]? =some k'→p k'=false):wU p l=i:=by
 have:l.findIdx? p=some i:=by
  rw[List.findIdx?_eq_some_iff_getElem]
  obtain⟨h1,h2⟩:=List.getElem?_eq_some_iff.1 hi
  refine⟨h1,by rw[h2];exact hp,fun j hji=> ?_⟩
  have:=hj j l[j] hji (List.getElem?_eq_getElem (by omega))
  simp[this]
 simp[wU,this]
theorem Cy{p:Kd→Bool}{l:List Kd}(hj:∀(j:Nat) (k':Kd),l[j]? =some k'→p k'=false):wU p l= -1:=by
 have:l.findIdx? p=none:=by
  rw[List.findIdx?_eq_none_iff]
  intro x hx
  obtain⟨j,hj1,rfl⟩:=List.mem_iff_getElem.1 hx
  exact hj j _ (List.getElem?_eq_getElem hj1)
 simp[wU,this]
theorem Dc(p:Kd→Bool)(l:List Kd):decide (0≤wU p l)=l.any p:=by
 unfold wU
 cases h:l.findIdx? p with
 |none=>
  have:l.any p=false:=by
   rw[List.findIdx?_eq_none_iff]at h
   rw[List.any_eq_false]
   intro x hx
   simp[h x hx]
  rw[this];rfl
 |some i=>
  have:l.any p=true:=by
   rw[List.findIdx?_eq_some_iff_getElem]at h
   obtain⟨h1,h2,_⟩:=h
   rw[List.any_eq_true]
   exact⟨_,List.getElem_mem h1,h2⟩
  rw[this];simp
theorem EZ(hp:bC T)(hf:T 147=some f147){h:Heap}(hr:Rdy h){v:Value}{n:Nat}{l:List Kd}(hs:aA h 5 v n (kcs l))(hn:n<1000000){g:Nat}{cap:Array Value}{p:Kd→Bool}
 (hg:∀k∈l,Pu T g (ka k::cap.toList) h (.bool (p k))):Pu T 147 [v, .func (.func g) #[] cap] h (.int .i64 (wU p l)):=by
 obtain⟨ob,nx,lg⟩:=h
 obtain rfl:lg=[]:=hr.log
 have hlen:l.length=n:=by have:=hs.len;rw[cP]at this;omega
 obtain⟨a,c,rfl⟩:=hs.form
 refine .of hp hf hr rfl ?_
 refine y4 ?_;refine yM ?_;refine y3 ?_;refine aq ?_;refine y4 ?_;refine yM ?_;refine yD ?_;refine yM ?_
 refine y3 ?_;refine aC ?_
 refine dP (fun k e ds h'=>∃i:Nat,i≤n∧k=n-i∧e=[(0, .slice a n c),(1, .func (.func g) #[] cap),(7, .int .i64 n),(8, .int .i64 i)]∧ds=[]∧h'=⟨ob,nx,[]⟩∧∀(j:Nat) (k':Kd),j<i→l[j]? =some k'→p k'=false)
  ⟨0,Nat.zero_le _,rfl,rfl,rfl,rfl,fun j k' hj=>absurd hj (Nat.not_lt_zero j)⟩ ?_
 rintro k e ds h' ⟨i,hi,rfl,rfl,rfl,rfl,hpre⟩
 by_cases hlt:i<n
 ·obtain⟨x,hx⟩:∃x,l[i]? =some x:=⟨l[i],List.getElem?_eq_getElem (by omega)⟩
  rcases hs.inv with⟨_,_,h0,_⟩|⟨b,o,cap',hv,s,_⟩
  ·omega
  ·cases hv
   obtain⟨vs,own,t,g1,g2⟩:=iE s hx
   refine y4 ?_;refine yt ?_;refine y3 ?_;refine aq ?_;refine yY ?_;refine aB ?_;refine aP ?_;refine aq ?_;refine aC ?_;refine y4 ?_;refine yM ?_;refine yM ?_;refine y3 ?_;refine y4 ?_;refine yM ?_;refine yM ?_;refine yM ?_
   refine af (aN (by exact rfl) (by exact rfl) hlt) ?_
   refine af (cS (by exact rfl) g1 g2 (by exact rfl)) ?_
   refine yC ?_
   refine FW.pu (hg x (List.mem_of_getElem? hx)) ?_
   cases hpx:p x with
   |true=>
    refine y3 ?_;refine yY ?_;refine y4 ?_;refine yM ?_;refine yM ?_;refine y3 ?_;refine aH ?_;refine iD ?_;refine ej ?_;refine ej ?_;refine iD ?_;refine ej ?_
    refine aF rfl rfl ?_
    show Value.int .i64 i=_
    rw[Gy hx hpx hpre]
   |false=>
    refine y3 ?_;refine yX ?_;refine aB ?_;refine cZ ?_;refine aP ?_;refine aD ?_;refine fV ?_;refine yM ?_;refine y3 ?_
    refine⟨n-(i+1),by omega,i+1,by omega,rfl,rfl,rfl,rfl,fun j k' hj hk'=> ?_⟩
    by_cases hji:j<i
    ·exact hpre j k' hji hk'
    ·obtain rfl:j=i:=by omega
     rw[hx]at hk';cases hk';exact hpx
 ·obtain rfl:i=n:=by omega
  refine y4 ?_;refine yf ?_;refine y3 ?_;refine aq ?_;refine yX ?_;refine cY ?_;refine dQ ?_;refine dQ ?_;refine iW ?_;refine aP ?_
  refine y4 ?_;refine yM ?_;refine y3 ?_;refine aH ?_
  refine aF rfl rfl ?_
  show Value.int .i64 (-1)=_
  rw[Cy fun j k' hk'=>hpre j k' (by have:=(List.getElem?_eq_some_iff.1 hk').1;omega) hk']
theorem vI(hp:bC T)(hf:T 118=some f118)(hf7:T 147=some f147){h:Heap}(hr:Rdy h){v:Value}{n:Nat}{l:List Kd}(hs:aA h 5 v n (kcs l))(hn:n<1000000){g:Nat}{cap:Array Value}{p:Kd→Bool}
 (hg:∀k∈l,Pu T g (ka k::cap.toList) h (.bool (p k))):Pu T 118 [v, .func (.func g) #[] cap] h (.bool (l.any p)):=by
 obtain⟨ob,nx,lg⟩:=h
 obtain rfl:lg=[]:=hr.log
 refine .of hp hf hr rfl ?_
 refine y4 ?_;refine yM ?_;refine y3 ?_;refine y4 ?_;refine yM ?_;refine yM ?_
 refine yC ?_
 refine FW.pu (EZ hp hf7 hr hs hn hg) ?_
 refine af (cE (by exact rfl) (by exact rfl) (by exact zZ)) ?_;refine yM ?_;refine y3 ?_;refine aH ?_
 refine aF rfl rfl ?_
 show Value.bool (decide (0≤wU p l))=_
 rw[Dc]
end Go.A.Pk
end
section
set_option maxRecDepth 100000
namespace Go.A.Pk
variable {T:Nat→Option ah}
def tT(l:List Kd)(i:Nat):Bool:=match l[i]? with
 |some k=>decide (lW k)&& !(l.take i).any fun x=>x.id==k.id
 |none=>true
def good(kerf:Int)(l:List Kd)(i:Nat):Bool:=decide (0≤kerf∧kerf≤2)&&(List.range i).all (tT l)
theorem BG(kerf:Int)(l:List Kd)(i:Nat):good kerf l (i+1)=(good kerf l i&&tT l i):=by
 simp[good,List.range_succ,Bool.and_assoc]
def chk(kerf:Int)(l:List Kd):Int:=if 12<l.length then 2 else if good kerf l l.length then 0 else 1
structure FnsA (T:Nat→Option ah):Prop where
 p:bC T
 f77:T 77=some f77
 f117:T 117=some f117
 f119:T 119=some f119
 f147:T 147=some f147
 f118:T 118=some f118
 f66:T 66=some f66
set_option maxHeartbeats 4000000 in
theorem Ir(F:FnsA T){h:Heap}(hr:Rdy h){a:Option Addr}{n c:Nat}{l:List Kd}(hs:aA h 5 (.slice a n c) n (kcs l))(kerf:Int)(hn:n<1000000):Pu T 66 [.agg #[.slice a n c, .int .i64 kerf]] h (.int .i64 (chk kerf l)):=by
 have hlen:l.length=n:=by have:=hs.len;rw[cP]at this;omega
 refine .of F.p F.f66 hr rfl ?_
 by_cases h12:12<n
 ·refine y4 ?_;refine yB ?_;refine yM ?_;refine y3 ?_;refine aq ?_;refine y4 ?_;refine yF ?_
  refine yL ?_;refine yD ?_
  refine yt ?_;refine y3 ?_;refine yY ?_;refine y4 ?_;refine yM ?_;refine y3 ?_;refine aH ?_;refine ej ?_
  refine aF hr.log rfl ?_
  show Value.int .i64 2=_
  rw[chk,if_pos (by omega)]
 ·have hchk:chk kerf l=if good kerf l n then 0 else 1:=by rw[chk,if_neg (by omega),hlen]
  rw[hchk]
  refine y4 ?_;refine yB ?_;refine yM ?_;refine y3 ?_;refine aq ?_;refine y4 ?_;refine yF ?_
  refine yL ?_;refine yD ?_
  refine yf ?_;refine y3 ?_;refine yX ?_;refine aB ?_;refine aP ?_;refine y4 ?_;refine yF ?_
  refine yL ?_
  refine yC ?_
  have c77:Pu T 77 [.int .i64 kerf, .int .i64 0, .int .i64 2] {h.push (.cells [.slice a n c, .int .i64 kerf] true 1)with log:=[]} (.bool (good kerf l 0)):=by
   have hg0:good kerf l 0=decide (0≤kerf∧kerf≤2):=by simp[good]
   rw[hg0]
   by_cases hk:0≤kerf∧kerf≤2
   ·rw[decide_eq_true hk];exact kZ F.p F.f77 (.of (hr.wf.push _)) hk
   ·rw[decide_eq_false hk];exact oA F.p F.f77 (.of (hr.wf.push _)) hk
  refine FW.pu c77 ?_
  refine yM ?_;refine y3 ?_;refine aq ?_;refine y4 ?_;refine yF ?_
  refine yL ?_;refine yD ?_;refine yM ?_;refine y3 ?_;refine aC ?_
  refine dP (fun k e ds h'=>∃i:Nat,i≤n∧k=n-i∧e=[(1, .pointer (some ⟨h.next,0,none⟩)),(3, .bool (good kerf l i)),(14, .slice a n c),(15, .int .i64 n),(16, .int .i64 i)]∧ds=[]∧Ext (h.push (.cells [.slice a n c, .int .i64 kerf] true 1)) h')
   ⟨0,Nat.zero_le _,rfl,rfl,rfl, .refl _⟩ ?_
  rintro k e ds hi ⟨i,hin,rfl,rfl,rfl,hx⟩
  have hnx:h.next+1≤hi.next:=hx.next
  have hP:hi.get h.next=some (.cells [.slice a n c, .int .i64 kerf] true 1):=(hx.old _ (Nat.lt_succ_self _)).trans (z3 _ _)
  by_cases hlt:i<n
  ·obtain⟨x,hxl⟩:∃x,l[i]? =some x:=⟨l[i],List.getElem?_eq_getElem (by omega)⟩
   have hg1:good kerf l (i+1)=(good kerf l i&&(decide (lW x)&& !(l.take i).any fun y=>y.id==x.id)):=by rw[BG,tT,hxl]
   have hs':=hs.ext (((Ext.refl h).push _).trans hx)
   rcases hs'.inv with⟨_,_,h0,_⟩|⟨b,o,cap',hv,s,hcap⟩
   ·omega
   ·cases hv
    obtain⟨vs,own,t,g1,g2⟩:=iE s hxl
    have fin:∀{h':Heap} {v:Bool},v=good kerf l (i+1)→Ext (h.push (.cells [.slice (some ⟨b,o,none⟩) n c, .int .i64 kerf] true 1)) h'→∃k',k'<n-i∧∃i':Nat,i'≤n∧k'=n-i'∧
     [(1,Value.pointer (some ⟨h.next,0,none⟩)),(3, .bool v),(14, .slice (some ⟨b,o,none⟩) n c),(15, .int .i64 n),(16, .int .i64 (i+1:Nat))]=[(1, .pointer (some ⟨h.next,0,none⟩)),(3, .bool (good kerf l i')),(14, .slice (some ⟨b,o,none⟩) n c),(15, .int .i64 n),(16, .int .i64 i')]∧
     ([]:Dfs)=[]∧Ext (h.push (.cells [.slice (some ⟨b,o,none⟩) n c, .int .i64 kerf] true 1)) h':=fun hv hx'=>⟨n-(i+1),by omega,i+1,by omega,rfl,by rw[hv],rfl,hx'⟩
    cases hgd:good kerf l i with
    |false=>
     refine y4 ?_;refine yt ?_;refine y3 ?_;refine aq ?_;refine yY ?_;refine aB ?_;refine aP ?_;refine aq ?_;refine aC ?_;refine y4 ?_;refine yM ?_
     refine af (aN (by exact rfl) (by exact rfl) hlt) ?_
     refine af (cS (by exact rfl) g1 g2 (by exact rfl)) ?_
     refine af cN ?_;refine yM ?_;refine yS ?_;refine y3 ?_;refine aD ?_;refine yM ?_;refine yM ?_;refine yP ?_;refine yP ?_;refine yU ?_
     refine yM ?_;refine yP ?_;refine yP ?_;refine yP ?_;refine yP ?_;refine yP ?_;refine yP ?_;refine yP ?_
     refine yP ?_;refine yU ?_;refine yM ?_;refine fo ?_;refine y1 ?_;refine cZ ?_;refine aP ?_;refine aD ?_;refine fV ?_
     refine yM ?_;refine y3 ?_
     exact fin (by rw[hg1,hgd];rfl) ((hx.push _).wr hnx (by omega))
    |true=>
     refine y4 ?_;refine yt ?_;refine y3 ?_;refine aq ?_;refine yY ?_;refine aB ?_;refine aP ?_;refine aq ?_;refine aC ?_;refine y4 ?_;refine yM ?_
     refine af (aN (by exact rfl) (by exact rfl) hlt) ?_
     refine af (cS (by exact rfl) g1 g2 (by exact rfl)) ?_
     refine af cN ?_;refine yM ?_;refine yS ?_;refine y3 ?_;refine aD ?_;refine yM ?_;refine yM ?_;refine yO ?_
     refine yN ?_;refine yO ?_
     refine yC ?_
     have hx3:=(hx.push (.cells [.int .i64 0, .int .i64 0, .int .i64 0, .int .i64 0, .bool false] true 1)).wr (base:=h.next) (o:= .cells (kc x) true 1) hnx (by omega)
     have hw3:=hx3.wf (hr.wf.push _)
     by_cases R:lW x
     ·have w9:=xj F.p F.f117 F.f77 (.of hw3) x
      rw[decide_eq_true R]at w9
      refine FW.pu w9 ?_
      refine yT ?_;refine yM ?_;refine yO ?_;refine yF ?_;refine yO ?_
      refine yL ?_;refine yO ?_;refine yM ?_;refine yO ?_
      refine yM ?_;refine yO ?_
      refine af (FL (by exact rfl) (by exact rfl) (by exact rfl) hin hcap hn (.inr ⟨_,_,rfl⟩)) ?_
      refine yO ?_;refine af (j6 (by exact rfl) (by exact rfl)) ?_;refine yO ?_
      refine yC ?_
      have hsl:aA {(hi.push (.cells [.int .i64 0, .int .i64 0, .int .i64 0, .int .i64 0, .bool false] true 1)).wr h.next hi.next (.cells (kc x) true 1)with log:=[]} 5 (.slice (some ⟨b,o,none⟩) i i) i (kcs (l.take i)):=by
       rw[←vW]
       exact((hs.ext (((Ext.refl h).push _).trans hx3)).take hin).log _
      have xT:=vI F.p F.f118 F.f147 (.of hw3) hsl (by omega) (cap:= #[.pointer (some ⟨hi.next,0,none⟩)]) (g:=119) (p:=fun y=>y.id==x.id) (fun k hk=>HX F.p F.f119 (.of hw3) k x (own:=true) (s:=1) (Heap.cr (base:=h.next) (z3 _ _)) (Nat.lt_succ_self _))
      cases hany:(l.take i).any (fun y=>y.id==x.id)with
      |true=>
       rw[hany]at xT
       refine FW.pu xT ?_
       refine yO ?_;refine yA ?_;refine yT ?_;refine yM ?_;refine fo ?_;refine y1 ?_;refine cZ ?_;refine aP ?_;refine aD ?_
       refine fV ?_;refine yM ?_;refine y3 ?_
       exact fin (by rw[hg1,hgd,hany,decide_eq_true R];rfl) hx3
      |false=>
       rw[hany]at xT
       refine FW.pu xT ?_
       refine yO ?_;refine yA ?_;refine yT ?_;refine yM ?_;refine fo ?_;refine y1 ?_;refine cZ ?_;refine aP ?_;refine aD ?_
       refine fV ?_;refine yM ?_;refine y3 ?_
       exact fin (by rw[hg1,hgd,hany,decide_eq_true R];rfl) hx3
     ·have w9:=xj F.p F.f117 F.f77 (.of hw3) x
      rw[decide_eq_false R]at w9
      refine FW.pu w9 ?_
      refine yT ?_;refine yM ?_;refine yP ?_;refine yP ?_;refine yP ?_;refine yP ?_;refine yP ?_;refine yP ?_
      refine yP ?_;refine yP ?_;refine yU ?_;refine yM ?_;refine fo ?_;refine y1 ?_;refine cZ ?_;refine aP ?_;refine aD ?_
      refine fV ?_;refine yM ?_;refine y3 ?_
      exact fin (by rw[hg1,hgd,decide_eq_false R];rfl) hx3
  ·obtain rfl:i=n:=by omega
   cases hgd:good kerf l i with
   |true=>
    refine y4 ?_;refine yf ?_;refine y3 ?_;refine aq ?_;refine yX ?_;refine cY ?_;refine dQ ?_;refine dQ ?_;refine iW ?_;refine aP ?_
    refine aq ?_;refine y4 ?_;refine yM ?_;refine yA ?_;refine y3 ?_;refine yX ?_;refine aB ?_;refine aP ?_;refine y4 ?_
    refine yM ?_;refine y3 ?_;refine aH ?_
    refine aF ?_ rfl rfl
    exact hx.log.trans hr.log
   |false=>
    refine y4 ?_;refine yf ?_;refine y3 ?_;refine aq ?_;refine yX ?_;refine cY ?_;refine dQ ?_;refine dQ ?_;refine iW ?_;refine aP ?_
    refine aq ?_;refine y4 ?_;refine yM ?_;refine yA ?_;refine y3 ?_;refine yY ?_;refine y4 ?_;refine yM ?_
    refine y3 ?_;refine aH ?_;refine ej ?_
    refine aF ?_ rfl rfl
    exact hx.log.trans hr.log
end Go.A.Pk
end
section
set_option maxRecDepth 100000
namespace Go.A.Pk
variable {T:Nat→Option ah}
theorem mY{vs:List Value}{q:Nat}{k:Kd}(hk:dM 5 (dN q vs)=kc k)(i:Nat)(hi:i<5):bG vs (q+i)=bG (kc k) i:=by
 rw[←hk,cq,cq,dj,cu,List.getElem?_take_of_lt hi,List.getElem?_drop]
end Go.A.Pk
end
section
set_option maxRecDepth 100000
namespace Go.A.Pk
variable {T:Nat→Option ah}
def bcs(l:List Bool):List Value:=l.map .bool
theorem ff{h:Heap}{b o n:Nat}{l:List Value}(s:ki h b o n 1 l){i:Nat}{x:Value}(hi:l[i]? =some x):∃vs own t,h.get b=some (.cells vs own t)∧bG vs (o+i*1)=some x:=by
 obtain⟨vs,own,t,h1,h2⟩:=s.obj
 refine⟨vs,own,t,h1,?_⟩
 rw[dj,cu]at h2
 have hl:=s.len
 have hin:i<l.length:=(List.getElem?_eq_some_iff.1 hi).1
 rw[←h2,List.getElem?_take_of_lt (by omega),List.getElem?_drop]at hi
 rw[cq,Nat.mul_one];exact hi
structure FnsC (T:Nat→Option ah):Prop where
 p:bC T
 f18:T 18=some f18
 f77:T 77=some f77
 f97:T 97=some f97
 f122:T 122=some f122
 f149:T 149=some f149
theorem FB(F:FnsC T){h:Heap}(hr:Rdy h){v:Value}{n:Nat}{l:List Bool}(hs:aA h 1 v n (bcs l))(hn:n<1000000):∃z:Int,Pu T 149 [v, .bool false] h (.int .i64 z)∧decide (0≤z)= !(l.all id):=by
 have hlen:l.length=n:=by have:=hs.len;simp[bcs]at this;omega
 obtain⟨a,c,rfl⟩:=hs.form
 by_cases hall:l.all id=true
 ·refine⟨-1,?_,by rw[hall];rfl⟩
  refine .of F.p F.f149 hr rfl ?_
  refine y4 ?_;refine yM ?_;refine y3 ?_;refine aq ?_;refine y4 ?_;refine yM ?_;refine yD ?_;refine yM ?_
  refine y3 ?_;refine aC ?_
  refine dP (fun k e ds h'=>∃i:Nat,i≤n∧k=n-i∧e=[(0, .slice a n c),(1, .bool false),(7, .int .i64 n),(8, .int .i64 i)]∧ds=[]∧h'=h)
   ⟨0,Nat.zero_le _,rfl,rfl,rfl,rfl⟩ ?_
  rintro k e ds h' ⟨i,hi,rfl,rfl,rfl,rfl⟩
  by_cases hlt:i<n
  ·have hxl:l[i]? =some true:=by
    rw[List.getElem?_eq_getElem (by omega)]
    rw[List.all_eq_true]at hall
    exact congrArg some (hall _ (List.getElem_mem (by omega)))
   rcases hs.inv with⟨_,_,h0,_⟩|⟨b,o,cap',hv,s,_⟩
   ·omega
   ·cases hv
    obtain⟨vs,own,t,g1,g2⟩:=ff s (x:= .bool true) (i:=i) (by simp[bcs,hxl])
    refine y4 ?_;refine yt ?_;refine y3 ?_;refine aq ?_;refine yY ?_;refine aB ?_;refine aP ?_;refine aq ?_;refine aC ?_;refine y4 ?_;refine yM ?_;refine yM ?_;refine y3 ?_;refine y4 ?_;refine yM ?_;refine yM ?_;refine yM ?_
    refine af (aN (by exact rfl) (by exact rfl) hlt) ?_
    refine af (bt (by exact rfl) g1 g2) ?_
    refine af (Fo (by exact rfl) (by exact rfl)) ?_
    refine y3 ?_;refine yX ?_;refine aB ?_;refine cZ ?_;refine aP ?_;refine aD ?_;refine fV ?_;refine yM ?_;refine y3 ?_
    exact⟨n-(i+1),by omega,i+1,by omega,rfl,rfl,rfl,rfl⟩
  ·obtain rfl:i=n:=by omega
   refine y4 ?_;refine yf ?_;refine y3 ?_;refine aq ?_;refine yX ?_;refine cY ?_;refine dQ ?_;refine dQ ?_;refine iW ?_;refine aP ?_
   refine y4 ?_;refine yM ?_;refine y3 ?_;refine aH ?_
   exact aF hr.log rfl rfl
 ·obtain⟨m,hm1,hm2⟩:∃m:Nat,l[m]? =some false∧∀j,j<m→l[j]? =some true:=by
   have hall':l.all id=false:=by simpa using hall
   clear hall hs hlen
   induction l with
   |nil=>simp at hall'
   |cons b l ih=>
    cases b with
    |false=>exact⟨0,rfl,fun j hj=>absurd hj (Nat.not_lt_zero j)⟩
    |true=>
     obtain⟨m,h1,h2⟩:=ih (by simpa using hall')
     refine⟨m+1,by simpa using h1,fun j hj=> ?_⟩
     cases j with
     |zero=>rfl
     |succ j=>simpa using h2 j (by omega)
  have hml:m<n:=by have:=(List.getElem?_eq_some_iff.1 hm1).1;omega
  refine⟨m,?_,by rw[show l.all id=false by simpa using hall];simp⟩
  refine .of F.p F.f149 hr rfl ?_
  refine y4 ?_;refine yM ?_;refine y3 ?_;refine aq ?_;refine y4 ?_;refine yM ?_;refine yD ?_;refine yM ?_
  refine y3 ?_;refine aC ?_
  refine dP (fun k e ds h'=>∃i:Nat,i≤m∧k=n-i∧e=[(0, .slice a n c),(1, .bool false),(7, .int .i64 n),(8, .int .i64 i)]∧ds=[]∧h'=h)
   ⟨0,Nat.zero_le _,rfl,rfl,rfl,rfl⟩ ?_
  rintro k e ds h' ⟨i,hi,rfl,rfl,rfl,rfl⟩
  rcases hs.inv with⟨_,_,h0,_⟩|⟨b,o,cap',hv,s,_⟩
  ·omega
  ·cases hv
   by_cases hlt:i<m
   ·have hxl:=hm2 i hlt
    obtain⟨vs,own,t,g1,g2⟩:=ff s (x:= .bool true) (i:=i) (by simp[bcs,hxl])
    refine y4 ?_;refine yt ?_;refine y3 ?_;refine aq ?_;refine yY ?_;refine aB ?_;refine aP ?_;refine aq ?_;refine aC ?_;refine y4 ?_;refine yM ?_;refine yM ?_;refine y3 ?_;refine y4 ?_;refine yM ?_;refine yM ?_;refine yM ?_
    refine af (aN (by exact rfl) (by exact rfl) (by omega)) ?_
    refine af (bt (by exact rfl) g1 g2) ?_
    refine af (Fo (by exact rfl) (by exact rfl)) ?_
    refine y3 ?_;refine yX ?_;refine aB ?_;refine cZ ?_;refine aP ?_;refine aD ?_;refine fV ?_;refine yM ?_;refine y3 ?_
    exact⟨n-(i+1),by omega,i+1,by omega,rfl,rfl,rfl,rfl⟩
   ·obtain rfl:i=m:=by omega
    obtain⟨vs,own,t,g1,g2⟩:=ff s (x:= .bool false) (i:=i) (by simp[bcs,hm1])
    refine y4 ?_;refine yt ?_;refine y3 ?_;refine aq ?_;refine yY ?_;refine aB ?_;refine aP ?_;refine aq ?_;refine aC ?_;refine y4 ?_;refine yM ?_;refine yM ?_;refine y3 ?_;refine y4 ?_;refine yM ?_;refine yM ?_;refine yM ?_
    refine af (aN (by exact rfl) (by exact rfl) (by omega)) ?_
    refine af (bt (by exact rfl) g1 g2) ?_
    refine af (Fo (by exact rfl) (by exact rfl)) ?_
    refine y3 ?_;refine yY ?_;refine y4 ?_;refine yM ?_;refine yM ?_;refine y3 ?_;refine aH ?_;refine iD ?_;refine ej ?_;refine ej ?_;refine iD ?_;refine ej ?_
    exact aF hr.log rfl rfl
theorem vT(F:FnsC T){h:Heap}(hr:Rdy h){v:Value}{n:Nat}{l:List Bool}(hs:aA h 1 v n (bcs l))(hn:n<1000000):Pu T 122 [v, .bool false] h (.bool !(l.all id)):=by
 obtain⟨ob,nx,lg⟩:=h
 obtain rfl:lg=[]:=hr.log
 obtain⟨z,hz,hz2⟩:=FB F hr hs hn
 refine .of F.p F.f122 hr rfl ?_
 refine y4 ?_;refine yM ?_;refine y3 ?_;refine y4 ?_;refine yM ?_;refine yM ?_
 refine yC ?_
 refine FW.pu hz ?_
 cases hl:l.all id with
 |true=>
  rw[hl]at hz2
  have:z<0:=by simpa using hz2
  refine yf ?_;refine yM ?_;refine y3 ?_;refine aH ?_
  exact aF rfl rfl rfl
 |false=>
  rw[hl]at hz2
  have:0≤z:=by simpa using hz2
  refine yt ?_;refine yM ?_;refine y3 ?_;refine aH ?_
  exact aF rfl rfl rfl
theorem xq(F:FnsC T){h:Heap}(hr:Rdy h){a:Option Addr}{n c:Nat}(kerf kind:Int)(hn:n<1000000):Pu T 97 [.agg #[.slice a n c, .int .i64 kerf], .int .i64 kind] h (.bool (decide (0≤kind∧kind<n))):=by
 have hsub:jD .i64 ((n:Int)-1)=(n:Int)-1:=bY (by omega) (by omega)
 by_cases hk:0≤kind∧kind<n
 ·rw[decide_eq_true hk]
  refine .of F.p F.f97 hr rfl ?_
  refine y4 ?_;refine yB ?_;refine yM ?_;refine y3 ?_;refine y4 ?_;refine yM ?_;refine yF ?_
  refine yL ?_;refine yD ?_
  refine af (cE (by exact rfl) (by exact rfl) (iX hsub)) ?_
  refine yC ?_
  refine FW.pu (kZ F.p F.f77 (.of (hr.wf.push _)) (by omega)) ?_
  refine yM ?_;refine y3 ?_;refine aH ?_
  exact aF hr.log rfl rfl
 ·rw[decide_eq_false hk]
  refine .of F.p F.f97 hr rfl ?_
  refine y4 ?_;refine yB ?_;refine yM ?_;refine y3 ?_;refine y4 ?_;refine yM ?_;refine yF ?_
  refine yL ?_;refine yD ?_
  refine af (cE (by exact rfl) (by exact rfl) (iX hsub)) ?_
  refine yC ?_
  refine FW.pu (oA F.p F.f77 (.of (hr.wf.push _)) (by omega)) ?_
  refine yM ?_;refine y3 ?_;refine aH ?_
  exact aF hr.log rfl rfl
theorem KC(F:FnsC T){h:Heap}(hr:Rdy h){a:Option Addr}{n c:Nat}(kerf:Int):Pu T 18 [.agg #[.slice a n c, .int .i64 kerf]] h (.bool (decide (n≤16))):=by
 by_cases hk:n≤16
 ·rw[decide_eq_true hk]
  refine .of F.p F.f18 hr rfl ?_
  refine y4 ?_;refine yB ?_;refine yM ?_;refine y3 ?_;refine y4 ?_;refine yF ?_
  refine yL ?_;refine yD ?_
  refine yt ?_;refine yM ?_;refine y3 ?_;refine aH ?_
  exact aF hr.log rfl rfl
 ·rw[decide_eq_false hk]
  refine .of F.p F.f18 hr rfl ?_
  refine y4 ?_;refine yB ?_;refine yM ?_;refine y3 ?_;refine y4 ?_;refine yF ?_
  refine yL ?_;refine yD ?_
  refine yf ?_;refine yM ?_;refine y3 ?_;refine aH ?_
  exact aF hr.log rfl rfl
def asked(kerf:Int)(l:List Kd)(b:Prop)[Decidable b]:Int:=if chk kerf l=0 then(if b then 0 else 1)else chk kerf l
end Go.A.Pk
end
section
set_option maxRecDepth 100000
namespace Go.A.Pk
variable {T:Nat→Option ah}
inductive I0 (lo:Nat) (h:Heap):Value→List Kd→Prop
 |nil:I0 lo h (.slice none 0 0) []
 |empty {b}:lo≤b→b<h.next→h.get b=some (.cells [] true 5)→I0 lo h (.slice (some ⟨b,0,none⟩) 0 0) []
 |full {b n l}:lo≤b→b<h.next→h.get b=some (.cells (kcs l) true 5)→n=l.length→n≠0→I0 lo h (.slice (some ⟨b,0,none⟩) n UNK) l
structure FnsE (T:Nat→Option ah):Prop extends FnsA T,FnsC T where
 f75:T 75=some f75
 f96:T 96=some f96
 f113:T 113=some f113
end Go.A.Pk
end
section
set_option maxRecDepth 100000
namespace Go.A.Pk
variable {T:Nat→Option ah}
end Go.A.Pk
end
section
set_option maxRecDepth 100000
namespace Go.A.Pk
variable {T:Nat→Option ah}
def rz(kerf:Int)(l:List Kd)(bl:List Bool):Int:=if chk kerf l=0 then(if bl.all id then 0 else 1)else chk kerf l
end Go.A.Pk
end
section
set_option maxRecDepth 100000
namespace Go.A.Pk
variable {T:Nat→Option ah}
theorem fk(kerf:Int)(l:List Kd)(p:Prop)[Decidable p]:rz kerf l [decide p]=asked kerf l p:=by
 unfold rz asked
 by_cases hp:p<;>simp[hp]
end Go.A.Pk
end
section
set_option maxRecDepth 100000
namespace Go.A.Pk
variable {T:Nat→Option ah}
def wb:Value→Option Nat
 | .slice (some a) _ _=>some a.block
 |_=>none
end Go.A.Pk
end
section
set_option maxRecDepth 100000
namespace Go.A.Pk
variable {T:Nat→Option ah}
theorem jc{kerf:Int}{l:List Kd}{p:Prop}[Decidable p](h:asked kerf l p=0):chk kerf l=0∧p:=by
 unfold asked at h
 by_cases h0:chk kerf l=0
 ·rw[if_pos h0]at h
  by_cases hp:p
  ·exact⟨h0,hp⟩
  ·rw[if_neg hp]at h;omega
 ·rw[if_neg h0]at h;exact absurd h h0
end Go.A.Pk
end
section
set_option maxRecDepth 100000
namespace Go.A.Pk
variable {T:Nat→Option ah}
end Go.A.Pk
end
section
set_option maxRecDepth 100000
namespace Go.A.Pk
variable {T:Nat→Option ah}
def sw(x:Kd):Kd:={x with w:=x.h,h:=x.w}
def tn:Nat→List Kd→List Kd
 |0,l=>l
 |i+1,l=>(tn i l).modify i sw
end Go.A.Pk
end
section
set_option maxRecDepth 100000
namespace Go.A.Pk
variable {T:Nat→Option ah}
theorem dY{kerf:Int}{l:List Kd}:chk kerf l=0↔l.length≤12∧(0≤kerf∧kerf≤2)∧(∀k∈l,lW k)∧l.Pairwise fun x y=>x.id≠y.id:=by
 have key:(List.range l.length).all (tT l)=true↔(∀k∈l,lW k)∧l.Pairwise fun x y=>x.id≠y.id:=by
  rw[List.all_eq_true]
  constructor
  ·intro h
   have h1:∀(i:Nat) (hi:i<l.length),lW l[i]∧∀x∈l.take i,x.id≠l[i].id:=fun i hi=>by
    have:=h i (by simpa using hi)
    unfold tT at this
    rw[List.getElem?_eq_getElem hi]at this
    simpa using this
   refine⟨fun k hk=> ?_,?_⟩
   ·obtain⟨i,hi,rfl⟩:=List.getElem_of_mem hk
    exact(h1 i hi).1
   ·rw[List.pairwise_iff_getElem]
    intro i j hi hj hij
    exact(h1 j hj).2 _ (by rw[List.mem_take_iff_getElem];exact⟨i,by omega,rfl⟩)
  ·rintro⟨h1,h2⟩ i hi
   have hi:i<l.length:=by simpa using hi
   unfold tT
   rw[List.getElem?_eq_getElem hi]
   rw[List.pairwise_iff_getElem]at h2
   simp only[Bool.and_eq_true,decide_eq_true_eq,Bool.not_eq_true',List.any_eq_false,beq_iff_eq]
   refine⟨h1 _ (List.getElem_mem hi),fun x hx=> ?_⟩
   rw[List.mem_take_iff_getElem]at hx
   obtain⟨j,hj,rfl⟩:=hx
   exact h2 j i (by omega) hi (by omega)
 unfold chk good
 by_cases h12:12<l.length
 ·rw[if_pos h12]
  constructor
  ·intro h;omega
  ·intro h;omega
 ·rw[if_neg h12]
  constructor
  ·intro h
   split at h
   ·rename_i hg
    simp only[Bool.and_eq_true,decide_eq_true_eq]at hg
    exact⟨by omega,hg.1,key.1 hg.2⟩
   ·omega
  ·rintro⟨_,h1,h2⟩
   rw[if_pos]
   simp only[Bool.and_eq_true,decide_eq_true_eq]
   exact⟨h1,key.2 h2⟩
end Go.A.Pk
end
section
set_option maxRecDepth 100000
namespace Go.A.Pk
variable {T:Nat→Option ah}
theorem bz{base:Nat}{h:Heap}{e:Env}{len size b o i:Nat}{k:IntKind}{x y:Operand}(hx:ev h e x=some (.pointer (some ⟨b,o,none⟩)))(hy:ev h e y=some (.int k (i:Nat)))(hi:i<len):aop h base e (.cQ len size x y)=some (.val (.pointer (some ⟨b,o+i*size,none⟩)) h):=by
 have e0:(.int k (i:Nat):Value)= .int k (Int.ofNat i):=rfl
 rw[e0]at hy
 simp only[aop,hx,hy,gP hi,cond_true]
def eI(x:Nat×Nat):Value:= .agg #[.int .u8 x.1, .int .i64 x.2]
def dV(x:Nat×Nat):Value:= .agg #[.int .i64 x.1, .int .i64 x.2]
structure Yld (T:Nat→Option ah) (lo N l:Nat) (V:Nat×Nat→Value) (all:List (Nat×Nat)) (P:List (Nat×Nat)→Heap→Prop):Prop where
 nN:∀done x H,x∈all→Rdy H→N≤H.next→P done H→FW T (.yield l) [V x] H fun r H'=>r= .ret (.bool true)∧(∀z∈H'.log,lo≤z∧z<N)∧P (done++[x]) H'
 eF:∀done H H',P done H→N≤H'.next→(∀x,x<N→H'.get x=H.get x)→P done H'
theorem Yld.call(hp:bC T){lo N l:Nat}{V:Nat×Nat→Value}{all:List (Nat×Nat)}{P:List (Nat×Nat)→Heap→Prop}(Y:Yld T lo N l V all P){base:Nat}{Q:XQ}{e:Env}{ds:Dfs}{h:Heap}{K:Env→Dfs→Heap→Prop}{dst:Option Nat}{done:List (Nat×Nat)}{x:Nat×Nat}(hx:x∈all)(hw:WF h)(hlo:lo≤h.next)(hN:N≤h.next)(hP:P done h)
 (hK:∀h',Lk lo h h'→(∀z,N≤z→z<h.next→h'.get z=h.get z)→P (done++[x]) h'→K (bK e dst (.bool true)) ds h'):FW T (.yield l) [V x] {h with log:=[]} (KO K Q base dst e ds h.log):=by
 refine FW.mono' (FW.pM hp (Y.nN done x _ hx (.of hw) hN (Y.eF _ _ _ hP hN fun _ _=>rfl)) rfl) ?_
 rintro r h2 ⟨hA,rfl,hl,hq⟩
 have hk:Lk lo {h with log:=[]} h2:=Lk.lY hA hlo fun z hz=>(hl z hz).1
 refine⟨hK _ hk.call (fun z h1 h3=> ?_) (Y.eF _ _ _ hq (Nat.le_trans hN hA.next) fun _ _=>rfl)⟩
 exact hA.same z h3 h3 (lU fun hm=>by have:=(hl z hm).2;omega)
def row(c n:Nat):List (Nat×Nat):=(List.range n).map fun i=>(c,i+1)
theorem ia(c n:Nat):row c (n+1)=row c n++[(c,n+1)]:=by simp[row,List.range_succ]
theorem j8{c n j:Nat}(hj:j<n):(c,j+1)∈row c n:=by simp[row,hj]
def aU:Nat→Nat→List (Nat×Nat)
 |0,_=>[]
 |w+1,h=>aU w h++row (w+1) h
theorem kg{w h i j:Nat}(hi:i<w)(hj:j<h):(i+1,j+1)∈aU w h:=by
 induction w with
 |zero=>omega
 |succ w ih=>
  simp only[aU,List.mem_append]
  by_cases h1:i<w
  ·exact .inl (ih h1)
  ·obtain rfl:i=w:=by omega
   exact .inr (j8 hj)
def dD(a b:Nat):List (Nat×Nat):=row 3 (a-1)++row 4 (b-1)
theorem uM{h h1 h2:Heap}{N:Nat}{P:List (Nat×Nat)→Heap→Prop}{all:List (Nat×Nat)}{v:Value}(hs:∀done H H',P done H→N≤H'.next→(∀x,x<N→H'.get x=H.get x)→P done H')(hN:N≤h.next)(hn:h.next≤h2.next)(ha:∀x,x<h.next→h2.get x=h1.get x)(q:v= .tuple #[]∧P all h1):v= .tuple #[]∧P all h2:=
 ⟨q.1,hs _ _ _ q.2 (Nat.le_trans hN hn) fun x hx=>ha x (by omega)⟩
set_option maxHeartbeats 4000000 in
theorem BE(hp:bC T)(hf:T 136=some f136){h:Heap}(hr:Rdy h){bw bh l N lo w ht:Nat}{P:List (Nat×Nat)→Heap→Prop}(hN:N≤h.next)(hlo:lo≤h.next)(hw16:w<1000)(hh16:ht<1000)(Y:Yld T lo N l dV (aU w ht) P)
 (hbw:∀d H,P d H→H.get bw=some (.cells [.int .i64 w] true 1))(hbh:∀d H,P d H→H.get bh=some (.cells [.int .i64 ht] true 1))(h0:P [] h):
 Gr T 136 [.func (.yield l) #[] #[], .pointer (some ⟨bw,0,none⟩), .pointer (some ⟨bh,0,none⟩)] h lo fun v h'=>v= .tuple #[]∧P (aU w ht) h':=by
 refine Gr.of hp hf hlo (fun v h1 h2 _ hn ha q=>uM Y.eF hN hn ha q) ?_
 refine y4 ?_;refine yM ?_;refine y3 ?_;refine aC ?_
 refine dP (fun k e ds h'=>∃i:Nat,i≤w∧k=w-i∧e=[(0, .func (.yield l) #[] #[]),(1, .pointer (some ⟨bw,0,none⟩)),(2, .pointer (some ⟨bh,0,none⟩)),(4, .int .i64 (i+1:Nat))]∧ds=[]∧Lk lo h h'∧P (aU i ht) h')
  ⟨0,Nat.zero_le _,rfl,rfl,rfl, .refl _ _,h0⟩ ?_
 rintro k e ds h' ⟨i,hi,rfl,rfl,rfl,hk,hP⟩
 have g1:=hbw _ _ hP
 by_cases hlt:i<w
 ·refine aq ?_;refine y4 ?_;refine yM ?_;refine yL ?_;refine yt ?_;refine y3 ?_
  refine yY ?_;refine aB ?_;refine aP ?_;refine aq ?_;refine aC ?_;refine y4 ?_;refine yM ?_;refine y3 ?_;refine aC ?_
  refine dP (fun k e ds h''=>∃j:Nat,j≤ht∧k=ht-j∧e=[(0, .func (.yield l) #[] #[]),(1, .pointer (some ⟨bw,0,none⟩)),(2, .pointer (some ⟨bh,0,none⟩)),(4, .int .i64 (i+1:Nat)),(5, .int .i64 (j+1:Nat))]∧ds=[]∧Lk lo h h''∧P (aU i ht++row (i+1) j) h'')
   ⟨0,Nat.zero_le _,rfl,rfl,rfl,hk,by simpa[row]using hP⟩ ?_
  clear g1 hP hk h'
  rintro k e ds h' ⟨j,hj,rfl,rfl,rfl,hk,hP⟩
  have g2:=hbh _ _ hP
  by_cases hjt:j<ht
  ·refine aq ?_;refine y4 ?_;refine yM ?_;refine yL ?_;refine yt ?_;refine y3 ?_
   refine yY ?_;refine aB ?_;refine aP ?_;refine aq ?_;refine aC ?_;refine y4 ?_;refine yM ?_;refine yM ?_;refine yM ?_;refine af (ck (by exact rfl)) ?_
   refine gj (fn:= .yield l) (args:=[dV (i+1,j+1)]) (by rfl) ?_
   refine Y.call hp (kg hlt hjt) (hk.wf hr.wf) (Nat.le_trans hlo hk.next) (Nat.le_trans hN hk.next) hP ?_
   intro h2 hk2 _ hP2
   rw[List.append_assoc,←ia]at hP2
   refine yA ?_;refine y3 ?_;refine yX ?_;refine aB ?_;refine cZ ?_;refine aP ?_;refine aD ?_;refine yM ?_
   refine fV ?_;refine yM ?_;refine y3 ?_
   exact⟨ht-(j+1),by omega,j+1,by omega,rfl,rfl,rfl,hk.trans hk2,hP2⟩
  ·obtain rfl:j=ht:=by omega
   refine aq ?_;refine y4 ?_;refine yM ?_;refine yL ?_;refine yf ?_;refine y3 ?_
   refine yX ?_;refine cY ?_;refine dQ ?_;refine dQ ?_;refine iW ?_;refine cZ ?_;refine aP ?_;refine aD ?_;refine yM ?_;refine fV ?_;refine yM ?_;refine y3 ?_
   exact⟨w-(i+1),by omega,i+1,by omega,rfl,rfl,rfl,hk,hP⟩
 ·obtain rfl:i=w:=by omega
  refine aq ?_;refine y4 ?_;refine yM ?_;refine yL ?_;refine yf ?_;refine y3 ?_
  refine yX ?_;refine cY ?_;refine dQ ?_;refine dQ ?_;refine iW ?_
  exact oP (hk.log (by rw[hr.log];exact dG.nil _)) rfl ⟨rfl,hP⟩
end Go.A.Pk
end
section
set_option maxRecDepth 100000
namespace Go.A.Pk
variable {T:Nat→Option ah}
theorem tv{base:Nat}{h:Heap}{e:Env}{len size i:Nat}{k:IntKind}{x y:Operand}{cs:Array Value}{v:Value}(hx:ev h e x=some (.agg cs))(hy:ev h e y=some (.int k (i:Nat)))(hi:i<len)(hv:bG cs.toList (i*size)=some v):aop h base e (.qR len size none x y)=some (.val v h):=by
 have e0:(.int k (i:Nat):Value)= .int k (Int.ofNat i):=rfl
 rw[e0]at hy
 simp only[aop,hx,hy,gP hi,cond_true,hv,bV]
theorem qb{a b j:Nat}(hj:j<a-1):(3,j+1)∈dD a b:=List.mem_append_left _ (j8 hj)
theorem pZ{a b j:Nat}(hj:j<b-1):(4,j+1)∈dD a b:=List.mem_append_right _ (j8 hj)
set_option maxHeartbeats 8000000 in
theorem Au(hp:bC T)(hf:T 141=some f141){h:Heap}(hr:Rdy h){bx l N lo a b:Nat}{P:List (Nat×Nat)→Heap→Prop}(hN:N≤h.next)(hlo:lo≤h.next)(ha:a<1000)(hb:b<1000)(Y:Yld T lo N l eI (dD a b) P)
 (hbx:∀d H,P d H→H.get bx=some (.cells [.int .i64 a, .int .i64 b] true 1))(h0:P [] h):
 Gr T 141 [.func (.yield l) #[] #[], .pointer (some ⟨bx,0,none⟩)] h lo fun v h'=>v= .tuple #[]∧P (dD a b) h':=by
 refine Gr.of hp hf hlo (fun v h1 h2 _ hn ha q=>uM Y.eF hN hn ha q) ?_
 refine y4 ?_;refine af (ck (by exact rfl)) ?_;refine yM ?_;refine y3 ?_;refine aC ?_
 refine dP (fun k e ds h'=>∃i:Nat,i≤2∧k=2-i∧e=[(0, .func (.yield l) #[] #[]),(1, .pointer (some ⟨bx,0,none⟩)),(6, .agg (List.toArray [.int .u8 3, .int .u8 4])),(7, .int .i64 i)]∧ds=[]∧Lk lo h h'∧P (if i=0 then []else if i=1 then row 3 (a-1)else dD a b) h')
  ⟨0,Nat.zero_le _,rfl,rfl,rfl, .refl _ _,h0⟩ ?_
 rintro k e ds h' ⟨i,hi,rfl,rfl,rfl,hk,hP⟩
 obtain rfl|rfl|rfl:i=0∨i=1∨i=2:=by omega
 ·replace hP:P ([]) h':=hP
  refine y4 ?_;refine yt ?_;refine y3 ?_;refine aq ?_;refine yY ?_;refine aB ?_;refine aP ?_;refine aq ?_;refine aC ?_;refine y4 ?_;refine yM ?_
  refine af (tv (i:=0) (v:= .int .u8 3) (by exact rfl) (by exact rfl) (by omega) rfl) ?_
  refine yM ?_;refine yM ?_;refine y3 ?_;refine y4 ?_;refine yM ?_;refine y3 ?_;refine aC ?_
  refine dP (fun k e ds h''=>∃j:Nat,j≤a-1∧k=a-1-j∧e=[(0, .func (.yield l) #[] #[]),(1, .pointer (some ⟨bx,0,none⟩)),(3, .int .i64 (0:Nat)),(4, .int .u8 3),(5, .int .i64 (j+1:Nat)),(6, .agg (List.toArray [.int .u8 3, .int .u8 4])),(7, .int .i64 (0:Nat))]∧ds=[]∧Lk lo h h''∧P (row 3 j) h'')
   ⟨0,Nat.zero_le _,rfl,rfl,rfl,hk,by simpa[row]using hP⟩ ?_
  clear hP hk h'
  rintro k e ds h' ⟨j,hj,rfl,rfl,rfl,hk,hP⟩
  have g2:=hbx _ _ hP
  by_cases hjt:j<a-1
  ·refine aq ?_;refine y4 ?_;refine yM ?_;refine yM ?_;refine af (bz (i:=0) (by exact rfl) (by exact rfl) (by omega)) ?_;refine yL ?_;refine yt ?_;refine y3 ?_;refine yY ?_;refine aB ?_;refine aP ?_;refine aq ?_;refine aC ?_;refine y4 ?_;refine yM ?_;refine yM ?_;refine yM ?_
   refine af (ck (by exact rfl)) ?_
   refine gj (fn:= .yield l) (args:=[eI (3,j+1)]) (by rfl) ?_
   refine Y.call hp (qb hjt) (hk.wf hr.wf) (Nat.le_trans hlo hk.next) (Nat.le_trans hN hk.next) hP ?_
   intro h2 hk2 _ hP2
   rw[←ia]at hP2
   refine yA ?_;refine y3 ?_;refine yX ?_;refine aB ?_;refine cZ ?_;refine aP ?_;refine aD ?_;refine yM ?_
   refine fV ?_;refine yM ?_;refine y3 ?_
   exact⟨a-1-(j+1),by omega,j+1,by omega,rfl,rfl,rfl,hk.trans hk2,hP2⟩
  ·obtain rfl:j=a-1:=by omega
   refine aq ?_;refine y4 ?_;refine yM ?_;refine yM ?_;refine af (bz (i:=0) (by exact rfl) (by exact rfl) (by omega)) ?_;refine yL ?_;refine yf ?_;refine y3 ?_;refine yX ?_;refine cY ?_;refine dQ ?_;refine dQ ?_;refine iW ?_;refine cZ ?_;refine aP ?_;refine aD ?_;refine fV ?_;refine yM ?_
   refine y3 ?_
   exact⟨2-1,by omega,1,by omega,rfl,rfl,rfl,hk,hP⟩
 ·replace hP:P (row 3 (a-1)) h':=hP
  refine y4 ?_;refine yt ?_;refine y3 ?_;refine aq ?_;refine yY ?_;refine aB ?_;refine aP ?_;refine aq ?_;refine aC ?_;refine y4 ?_;refine yM ?_
  refine af (tv (i:=1) (v:= .int .u8 4) (by exact rfl) (by exact rfl) (by omega) rfl) ?_
  refine yM ?_;refine yM ?_;refine y3 ?_;refine y4 ?_;refine yM ?_;refine y3 ?_;refine aC ?_
  refine dP (fun k e ds h''=>∃j:Nat,j≤b-1∧k=b-1-j∧e=[(0, .func (.yield l) #[] #[]),(1, .pointer (some ⟨bx,0,none⟩)),(3, .int .i64 (1:Nat)),(4, .int .u8 4),(5, .int .i64 (j+1:Nat)),(6, .agg (List.toArray [.int .u8 3, .int .u8 4])),(7, .int .i64 (1:Nat))]∧ds=[]∧Lk lo h h''∧P (row 3 (a-1)++row 4 j) h'')
   ⟨0,Nat.zero_le _,rfl,rfl,rfl,hk,by simpa[row]using hP⟩ ?_
  clear hP hk h'
  rintro k e ds h' ⟨j,hj,rfl,rfl,rfl,hk,hP⟩
  have g2:=hbx _ _ hP
  by_cases hjt:j<b-1
  ·refine aq ?_;refine y4 ?_;refine yM ?_;refine yM ?_;refine af (bz (i:=1) (by exact rfl) (by exact rfl) (by omega)) ?_;refine yL ?_;refine yt ?_;refine y3 ?_;refine yY ?_;refine aB ?_;refine aP ?_;refine aq ?_;refine aC ?_;refine y4 ?_;refine yM ?_;refine yM ?_;refine yM ?_
   refine af (ck (by exact rfl)) ?_
   refine gj (fn:= .yield l) (args:=[eI (4,j+1)]) (by rfl) ?_
   refine Y.call hp (pZ hjt) (hk.wf hr.wf) (Nat.le_trans hlo hk.next) (Nat.le_trans hN hk.next) hP ?_
   intro h2 hk2 _ hP2
   rw[List.append_assoc,←ia]at hP2
   refine yA ?_;refine y3 ?_;refine yX ?_;refine aB ?_;refine cZ ?_;refine aP ?_;refine aD ?_;refine yM ?_
   refine fV ?_;refine yM ?_;refine y3 ?_
   exact⟨b-1-(j+1),by omega,j+1,by omega,rfl,rfl,rfl,hk.trans hk2,hP2⟩
  ·obtain rfl:j=b-1:=by omega
   refine aq ?_;refine y4 ?_;refine yM ?_;refine yM ?_;refine af (bz (i:=1) (by exact rfl) (by exact rfl) (by omega)) ?_;refine yL ?_;refine yf ?_;refine y3 ?_;refine yX ?_;refine cY ?_;refine dQ ?_;refine dQ ?_;refine iW ?_;refine cZ ?_;refine aP ?_;refine aD ?_;refine fV ?_;refine yM ?_
   refine y3 ?_
   exact⟨2-2,by omega,2,by omega,rfl,rfl,rfl,hk,hP⟩
 ·replace hP:P (dD a b) h':=hP
  refine y4 ?_;refine yf ?_;refine y3 ?_;refine aq ?_;refine yX ?_;refine cY ?_;refine dQ ?_;refine dQ ?_;refine iW ?_
  exact oP (hk.log (by rw[hr.log];exact dG.nil _)) rfl ⟨rfl,hP⟩
def cB(k:Kd)(i a b:Nat):List (Nat×Nat):=(if(a:Int)=k.w∧(b:Int)=k.h then [(1,i)]else [])++(if k.j4=true∧(a:Int)=k.h∧(b:Int)=k.w then [(2,i)]else [])
def aZ(a b:Nat):List Kd→Nat→List (Nat×Nat)
 |[],_=>[]
 |k::l,i=>cB k i a b++aZ a b l (i+1)
theorem jX(a b:Nat):∀(l m:List Kd) (i:Nat),aZ a b (l++m) i=aZ a b l i++aZ a b m (i+l.length)
 |[],m,i=>by simp[aZ]
 |k::l,m,i=>by
  simp only[List.cons_append,aZ,List.append_assoc,List.length_cons]
  rw[jX a b l m (i+1),show i+1+l.length=i+(l.length+1)by omega]
theorem mN{a b:Nat}{l:List Kd}{i:Nat}{k:Kd}(h:l[i]? =some k):aZ a b (l.take (i+1)) 0=aZ a b (l.take i) 0++cB k i a b:=by
 have hi:i<l.length:=(List.getElem?_eq_some_iff.1 h).1
 rw[List.take_add_one,h,jX]
 simp only[Option.toList,aZ,List.append_nil,List.length_take,Nat.min_eq_left (Nat.le_of_lt hi),Nat.zero_add]
theorem ji{a b:Nat}{l:List Kd}{i:Nat}{k:Kd}(h:l[i]? =some k):∀x∈cB k i a b,x∈aZ a b l 0:=by
 intro x hx
 have h1:aZ a b l 0=aZ a b (l.take (i+1)) 0++aZ a b (l.drop (i+1)) (0+(l.take (i+1)).length):=by
  rw[←jX,List.take_append_drop]
 rw[h1,mN h]
 simp[hx]
theorem fF(x y z u:Int):aO [.i .i64, .i .i64] [.int .i64 x, .int .i64 y] [.int .i64 z, .int .i64 u]=some (decide (x=z∧y=u)):=by
 by_cases h1:x=z
 ·by_cases h2:y=u
  ·subst h1;subst h2
   simp[aO,fZ]
  ·have e1:(x==z)=true:=by simpa using h1
   have e2:(y==u)=false:=by simpa using h2
   simp only[aO,fZ, ↓reduceIte,e1,e2,h2,and_false,decide_false]
 ·by_cases h2:y=u
  ·have e1:(x==z)=false:=by simpa using h1
   have e2:(y==u)=true:=by simpa using h2
   simp only[aO,fZ, ↓reduceIte,e1,e2,h1,false_and,decide_false]
  ·have e1:(x==z)=false:=by simpa using h1
   have e2:(y==u)=false:=by simpa using h2
   simp only[aO,fZ, ↓reduceIte,e1,e2,h1,false_and,decide_false]
end Go.A.Pk
end
section
set_option maxRecDepth 100000
namespace Go.A.Pk
variable {T:Nat→Option ah}
theorem WF.aT{h:Heap}(w:WF h){x:Nat}{o:bE}(hx:h.get x=some o):x<h.next:=by
 refine w.lt x (Classical.byContradiction fun hn=> ?_)
 have:=CE hn
 rw[show fS h.bM x=h.get x from rfl,hx]at this
 cases this
set_option maxHeartbeats 8000000 in
theorem uy(hp:bC T)(hf:T 140=some f140){h:Heap}(hr:Rdy h){pb bb px l' N lo a b n c:Nat}{sa:Option Addr}{l:List Kd}{v1 v2:Value}{P:List (Nat×Nat)→Heap→Prop}(hN:N≤h.next)(hlo:lo≤h.next)(hn:n<1000)(Y:Yld T lo N l' eI (aZ a b l 0) P)
 (hpb:h.get pb=some (.cells [.pointer (some ⟨bb,0,none⟩)] true 1))(hbb:h.get bb=some (.cells [.slice sa n c,v1,v2] true 1))
 (hks:∀d H,P d H→aA H 5 (.slice sa n c) n (kcs l))(hpx:∀d H,P d H→H.get px=some (.cells [.int .i64 a, .int .i64 b] true 1))(h0:P [] h):
 Gr T 140 [.func (.yield l') #[] #[], .pointer (some ⟨pb,0,none⟩), .pointer (some ⟨px,0,none⟩)] h lo fun v h'=>v= .tuple #[]∧P (aZ a b l 0) h':=by
 refine Gr.of hp hf hlo (fun v h1 h2 _ hn ha q=>uM Y.eF hN hn ha q) ?_
 have hlen:l.length=n:=by have:=(hks _ _ h0).len;rw[cP]at this;omega
 refine y4 ?_;refine yL ?_;refine af (cC (by exact rfl)) ?_;refine yF ?_;refine yF ?_;refine yL ?_;refine yD ?_;refine yM ?_
 refine y3 ?_;refine aC ?_
 refine dP (fun k e ds h'=>∃i:Nat,i≤n∧k=n-i∧e=[(0, .func (.yield l') #[] #[]),(2, .pointer (some ⟨px,0,none⟩)),(10, .slice sa n c),(11, .int .i64 n),(12, .int .i64 i)]∧ds=[]∧Lk lo h h'∧P (aZ a b (l.take i) 0) h')
  ⟨0,Nat.zero_le _,rfl,rfl,rfl, .refl _ _,by simpa[aZ]using h0⟩ ?_
 clear hpb hbb
 rintro k e ds h' ⟨i,hi,rfl,rfl,rfl,hk,hP⟩
 by_cases hlt:i<n
 ·obtain⟨x,hxl⟩:∃x,l[i]? =some x:=⟨l[i]'(by omega),List.getElem?_eq_getElem (by omega)⟩
  have hsl:=hks _ _ hP
  rcases hsl.inv with⟨_,_,hz,_⟩|⟨b0,o0,cap,hv,s,hcap⟩
  ·omega
  ·cases hv
   obtain⟨vs,own,t0,g5,g6⟩:=iE s hxl
   have hpx':=hpx _ _ hP
   refine y4 ?_;refine yt ?_;refine y3 ?_;refine aq ?_;refine yY ?_;refine aB ?_;refine aP ?_;refine aq ?_;refine aC ?_;refine y4 ?_;refine yM ?_
   refine af (aN (by exact rfl) (by exact rfl) hlt) ?_
   refine af (cS (by exact rfl) g5 g6 (by exact rfl)) ?_
   have hpxl:px<h'.next:=WF.aT (hk.wf hr.wf) hpx'
   refine af cN ?_;refine yM ?_;refine yS ?_;refine y3 ?_;refine aq ?_;refine y4 ?_
   refine yN ?_;refine yF ?_
   refine yL ?_;refine yF ?_
   refine yL ?_;refine af (ck (by exact rfl)) ?_
   have hN':N≤h'.next:=Nat.le_trans hN hk.next
   have hlo':lo≤h'.next:=Nat.le_trans hlo hk.next
   have hkq:Lk lo h' ((h'.push (.cells [.int .i64 0, .int .i64 0, .int .i64 0, .int .i64 0, .bool false] true 1)).wr h.next h'.next (.cells (kc x) true 1)):=((Lk.refl lo h').push hlo' _).wr hlo'
   have gk:(((h'.push (.cells [.int .i64 0, .int .i64 0, .int .i64 0, .int .i64 0, .bool false] true 1)).wr h.next h'.next (.cells (kc x) true 1))).get h'.next=some (.cells (kc x) true 1):=by(simp(disch:=first|omega|(simp only[z1,z2];omega))only[z3,z4,z5,z6,z7,z1,z2, *];done)
   have gp:(((h'.push (.cells [.int .i64 0, .int .i64 0, .int .i64 0, .int .i64 0, .bool false] true 1)).wr h.next h'.next (.cells (kc x) true 1))).get px=some (.cells [.int .i64 a, .int .i64 b] true 1):=by(simp(disch:=first|omega|(simp only[z1,z2];omega))only[z3,z4,z5,z6,z7,z1,z2, *];done)
   have hPq:P (aZ a b (l.take i) 0) ((h'.push (.cells [.int .i64 0, .int .i64 0, .int .i64 0, .int .i64 0, .bool false] true 1)).wr h.next h'.next (.cells (kc x) true 1)):=Y.eF _ _ _ hP (Nat.le_succ_of_le hN') fun z hz=>(z5 (by omega)).trans (z4 (by omega))
   have hqn:h'.next<(((h'.push (.cells [.int .i64 0, .int .i64 0, .int .i64 0, .int .i64 0, .bool false] true 1)).wr h.next h'.next (.cells (kc x) true 1))).next:=Nat.lt_succ_self _
   have hmem:=ji (a:=a) (b:=b) hxl
   have hsucc:=mN (a:=a) (b:=b) hxl
   change WO T _ _ _ _ _ _ ((h'.push (.cells [.int .i64 0, .int .i64 0, .int .i64 0, .int .i64 0, .bool false] true 1)).wr h.next h'.next (.cells (kc x) true 1))
   generalize hH:Heap.wr (Heap.push h' _) _ _ _=H at*
   clear hH g5 g6 s hpx' hsl hP hpxl
   have hkH:=hk.trans hkq
   by_cases c1:(a:Int)=x.w∧(b:Int)=x.h
   ·have L1:aO [.i .i64, .i .i64] [.int .i64 a, .int .i64 b] [.int .i64 x.w, .int .i64 x.h]=some true:=by rw[fF,decide_eq_true c1]
    refine af (kf (b:=true) (by exact rfl) (by exact rfl) L1) ?_
    refine yM ?_;refine yO ?_;refine yM ?_;refine yO ?_;refine yM ?_;refine yO ?_;refine af (ck (by exact rfl)) ?_;refine yO ?_
    refine gj (fn:= .yield l') (args:=[eI (1,i)]) (by rfl) ?_
    refine Y.call hp (hmem _ (by simp[cB,c1])) (hkH.wf hr.wf) (Nat.le_trans hlo hkH.next) (Nat.le_trans hN hkH.next) hPq ?_
    intro h2 hk2 hm2 hP2
    have gk2:=(hm2 h'.next hN' hqn).trans gk
    have gp2:=hpx _ _ hP2
    have hk3:=hkH.trans hk2
    by_cases c2:x.j4=true
    ·have ga:(h2).get h'.next=some (.cells [.int .i64 x.id, .int .i64 x.w, .int .i64 x.h, .int .i64 x.bq, .bool true] true 1):=by rw[gk2,kc,c2]
     clear gk gk2
     refine yO ?_;refine yA ?_;refine yT ?_;refine y3 ?_;refine yX ?_;refine aB ?_;refine aP ?_;refine y4 ?_
     refine yF ?_;refine yL ?_;refine yM ?_;refine yO ?_;refine yN ?_;refine yO ?_;refine yF ?_;refine yO ?_
     refine yL ?_;refine yO ?_;refine yF ?_;refine yO ?_;refine yL ?_;refine yO ?_;refine af (ck (by exact rfl)) ?_;refine yO ?_
     by_cases c3:(a:Int)=x.h∧(b:Int)=x.w
     ·have L2:aO [.i .i64, .i .i64] [.int .i64 a, .int .i64 b] [.int .i64 x.h, .int .i64 x.w]=some true:=by rw[fF,decide_eq_true c3]
      refine af (kf (b:=true) (by exact rfl) (by exact rfl) L2) ?_
      refine yT ?_;refine yM ?_;refine yO ?_;refine yM ?_;refine yO ?_;refine yM ?_;refine yO ?_;refine af (ck (by exact rfl)) ?_;refine yO ?_
      refine gj (fn:= .yield l') (args:=[eI (2,i)]) (by rfl) ?_
      refine Y.call hp (hmem _ (by simp[cB,c2,c3])) (hk3.wf hr.wf) (Nat.le_trans hlo hk3.next) (Nat.le_trans hN hk3.next) hP2 ?_
      intro h4 hk4 _ hP4
      refine yO ?_;refine yA ?_;refine yT ?_;refine y3 ?_;refine yX ?_;refine aB ?_;refine cZ ?_;refine aP ?_;refine aD ?_
      refine fV ?_;refine yM ?_;refine y3 ?_
      refine⟨n-(i+1),by omega,i+1,by omega,rfl,rfl,rfl,hk3.trans hk4,?_⟩
      have hl:cB x i a b=[(1,i)]++[(2,i)]:=by unfold cB;rw[if_pos c1,if_pos ⟨c2,c3⟩]
      rw[hsucc,hl,←List.append_assoc];exact hP4
     ·have L2:aO [.i .i64, .i .i64] [.int .i64 a, .int .i64 b] [.int .i64 x.h, .int .i64 x.w]=some false:=by rw[fF,decide_eq_false c3]
      refine af (kf (b:=false) (by exact rfl) (by exact rfl) L2) ?_
      refine yT ?_;refine yM ?_;refine yP ?_;refine yP ?_;refine yP ?_;refine yP ?_;refine yP ?_;refine yU ?_
      refine y3 ?_;refine yX ?_;refine aB ?_;refine cZ ?_;refine aP ?_;refine aD ?_;refine fV ?_;refine yM ?_;refine y3 ?_
      refine⟨n-(i+1),by omega,i+1,by omega,rfl,rfl,rfl,hk3,?_⟩
      have hl:cB x i a b=[(1,i)]++[]:=by unfold cB;rw[if_pos c1,if_neg (fun q=>c3 q.2)]
      rw[hsucc,hl,List.append_nil];exact hP2
    ·have c2:x.j4=false:=by simpa using c2
     have ga:(h2).get h'.next=some (.cells [.int .i64 x.id, .int .i64 x.w, .int .i64 x.h, .int .i64 x.bq, .bool false] true 1):=by rw[gk2,kc,c2]
     clear gk gk2
     refine yO ?_;refine yA ?_;refine yT ?_;refine y3 ?_;refine yX ?_;refine aB ?_;refine aP ?_;refine y4 ?_
     refine yF ?_;refine yL ?_;refine yM ?_;refine yP ?_;refine yP ?_;refine yP ?_;refine yP ?_;refine yP ?_
     refine yP ?_;refine yP ?_;refine yU ?_;refine yM ?_;refine yP ?_;refine yP ?_;refine yP ?_;refine yP ?_
     refine yP ?_;refine yU ?_;refine y3 ?_;refine yX ?_;refine aB ?_;refine cZ ?_;refine aP ?_;refine aD ?_
     refine fV ?_;refine yM ?_;refine y3 ?_
     refine⟨n-(i+1),by omega,i+1,by omega,rfl,rfl,rfl,hk3,?_⟩
     have hl:cB x i a b=[(1,i)]++[]:=by unfold cB;rw[if_pos c1,if_neg (fun q=>by rw[c2]at q;cases q.1)]
     rw[hsucc,hl,List.append_nil];exact hP2
   ·have L1:aO [.i .i64, .i .i64] [.int .i64 a, .int .i64 b] [.int .i64 x.w, .int .i64 x.h]=some false:=by rw[fF,decide_eq_false c1]
    refine af (kf (b:=false) (by exact rfl) (by exact rfl) L1) ?_
    by_cases c2:x.j4=true
    ·have ga:(H).get h'.next=some (.cells [.int .i64 x.id, .int .i64 x.w, .int .i64 x.h, .int .i64 x.bq, .bool true] true 1):=by rw[gk,kc,c2]
     clear gk
     refine yM ?_;refine yP ?_;refine yP ?_;refine yP ?_;refine yP ?_;refine yP ?_;refine yU ?_;refine y3 ?_;refine yX ?_;refine aB ?_;refine aP ?_;refine y4 ?_;refine yF ?_;refine yL ?_;refine yM ?_
     refine yO ?_;refine yN ?_;refine yO ?_;refine yF ?_;refine yO ?_;refine yL ?_;refine yO ?_;refine yF ?_
     refine yO ?_;refine yL ?_;refine yO ?_;refine af (ck (by exact rfl)) ?_;refine yO ?_
     by_cases c3:(a:Int)=x.h∧(b:Int)=x.w
     ·have L2:aO [.i .i64, .i .i64] [.int .i64 a, .int .i64 b] [.int .i64 x.h, .int .i64 x.w]=some true:=by rw[fF,decide_eq_true c3]
      refine af (kf (b:=true) (by exact rfl) (by exact rfl) L2) ?_
      refine yT ?_;refine yM ?_;refine yO ?_;refine yM ?_;refine yO ?_;refine yM ?_;refine yO ?_;refine af (ck (by exact rfl)) ?_;refine yO ?_
      refine gj (fn:= .yield l') (args:=[eI (2,i)]) (by rfl) ?_
      refine Y.call hp (hmem _ (by simp[cB,c2,c3])) (hkH.wf hr.wf) (Nat.le_trans hlo hkH.next) (Nat.le_trans hN hkH.next) hPq ?_
      intro h4 hk4 _ hP4
      refine yO ?_;refine yA ?_;refine yT ?_;refine y3 ?_;refine yX ?_;refine aB ?_;refine cZ ?_;refine aP ?_;refine aD ?_
      refine fV ?_;refine yM ?_;refine y3 ?_
      refine⟨n-(i+1),by omega,i+1,by omega,rfl,rfl,rfl,hkH.trans hk4,?_⟩
      have hl:cB x i a b=[]++[(2,i)]:=by unfold cB;rw[if_neg c1,if_pos ⟨c2,c3⟩]
      rw[hsucc,hl,List.nil_append];exact hP4
     ·have L2:aO [.i .i64, .i .i64] [.int .i64 a, .int .i64 b] [.int .i64 x.h, .int .i64 x.w]=some false:=by rw[fF,decide_eq_false c3]
      refine af (kf (b:=false) (by exact rfl) (by exact rfl) L2) ?_
      refine yT ?_;refine yM ?_;refine yP ?_;refine yP ?_;refine yP ?_;refine yP ?_;refine yP ?_;refine yU ?_
      refine y3 ?_;refine yX ?_;refine aB ?_;refine cZ ?_;refine aP ?_;refine aD ?_;refine fV ?_;refine yM ?_;refine y3 ?_
      refine⟨n-(i+1),by omega,i+1,by omega,rfl,rfl,rfl,hkH,?_⟩
      have hl:cB x i a b=[]++[]:=by unfold cB;rw[if_neg c1,if_neg (fun q=>c3 q.2)]
      rw[hsucc,hl,List.append_nil,List.append_nil];exact hPq
    ·have c2:x.j4=false:=by simpa using c2
     have ga:(H).get h'.next=some (.cells [.int .i64 x.id, .int .i64 x.w, .int .i64 x.h, .int .i64 x.bq, .bool false] true 1):=by rw[gk,kc,c2]
     clear gk
     refine yM ?_;refine yP ?_;refine yP ?_;refine yP ?_;refine yP ?_;refine yP ?_;refine yU ?_;refine y3 ?_;refine yX ?_;refine aB ?_;refine aP ?_;refine y4 ?_;refine yF ?_;refine yL ?_;refine yM ?_
     refine yP ?_;refine yP ?_;refine yP ?_;refine yP ?_;refine yP ?_;refine yP ?_;refine yP ?_;refine yU ?_
     refine yM ?_;refine yP ?_;refine yP ?_;refine yP ?_;refine yP ?_;refine yP ?_;refine yU ?_;refine y3 ?_;refine yX ?_;refine aB ?_;refine cZ ?_;refine aP ?_;refine aD ?_;refine fV ?_;refine yM ?_;refine y3 ?_
     refine⟨n-(i+1),by omega,i+1,by omega,rfl,rfl,rfl,hkH,?_⟩
     have hl:cB x i a b=[]++[]:=by unfold cB;rw[if_neg c1,if_neg (fun q=>by rw[c2]at q;cases q.1)]
     rw[hsucc,hl,List.append_nil,List.append_nil];exact hPq
 ·obtain rfl:i=n:=by omega
  have hfull:l.take i=l:=List.take_of_length_le (by omega)
  rw[hfull]at hP
  refine y4 ?_;refine yf ?_;refine y3 ?_;refine aq ?_;refine yX ?_;refine cY ?_;refine dQ ?_;refine dQ ?_;refine iW ?_
  exact oP (hk.log (by rw[hr.log];exact dG.nil _)) rfl ⟨rfl,hP⟩
end Go.A.Pk
end
section
set_option maxRecDepth 100000
namespace Go.A.Pk
variable {T:Nat→Option ah}
def fn2(f p q:Nat):Value:= .func (.func f) #[] #[.pointer (some ⟨p,0,none⟩), .pointer (some ⟨q,0,none⟩)]
def fn1(f p:Nat):Value:= .func (.func f) #[] #[.pointer (some ⟨p,0,none⟩)]
theorem se(hp:bC T)(hf:T 94=some f94){h:Heap}(hr:Rdy h)(w ht:Int):Al T 94 [.int .i64 w, .int .i64 ht] h fun v h'=>v=fn2 136 h.next (h.next+1)∧h'.next=h.next+2∧h'.get h.next=some (.cells [.int .i64 w] true 1)∧h'.get (h.next+1)=some (.cells [.int .i64 ht] true 1):=by
 refine .of hp hf hr (fun v h1 hv q=>by rw[q.1]at hv;cases hv) ?_
 refine y4 ?_;refine yB ?_;refine yB ?_;refine yM ?_;refine y3 ?_;refine y4 ?_
 refine af (j6 (by exact rfl) (by exact rfl)) ?_;refine yM ?_;refine y3 ?_;refine aH ?_
 exact dn hr.log (by rfl) ⟨rfl,rfl,by(simp(disch:=first|omega|(simp only[z1,z2];omega))only[z3,z4,z5,z6,z7,z1,z2, *];exact rfl),by(simp(disch:=first|omega|(simp only[z1,z2];omega)|(simp only[z1,z2];done)|fail)only[z8,z4,z5,z9,z7,z1,z2, *];exact rfl)⟩
theorem pR(hp:bC T)(hf:T 104=some f104){h:Heap}(hr:Rdy h)(bb:Nat)(a b:Int):Al T 104 [.pointer (some ⟨bb,0,none⟩), .agg #[.int .i64 a, .int .i64 b]] h fun v h'=>v=fn2 140 h.next (h.next+1)∧h'.next=h.next+2∧h'.get h.next=some (.cells [.pointer (some ⟨bb,0,none⟩)] true 1)∧h'.get (h.next+1)=some (.cells [.int .i64 a, .int .i64 b] true 1):=by
 refine .of hp hf hr (fun v h1 hv q=>by rw[q.1]at hv;cases hv) ?_
 refine y4 ?_;refine yB ?_;refine yB ?_;refine yM ?_;refine y3 ?_;refine y4 ?_
 refine af (j6 (by exact rfl) (by exact rfl)) ?_;refine yM ?_;refine y3 ?_;refine aH ?_
 exact dn hr.log (by rfl) ⟨rfl,rfl,by(simp(disch:=first|omega|(simp only[z1,z2];omega))only[z3,z4,z5,z6,z7,z1,z2, *];exact rfl),by(simp(disch:=first|omega|(simp only[z1,z2];omega)|(simp only[z1,z2];done)|fail)only[z8,z4,z5,z9,z7,z1,z2, *];exact rfl)⟩
theorem uQ(hp:bC T)(hf:T 105=some f105){h:Heap}(hr:Rdy h)(bb:Value)(a b:Int):Al T 105 [bb, .agg #[.int .i64 a, .int .i64 b]] h fun v h'=>v=fn1 141 h.next∧h'.next=h.next+1∧h'.get h.next=some (.cells [.int .i64 a, .int .i64 b] true 1):=by
 refine .of hp hf hr (fun v h1 hv q=>by rw[q.1]at hv;cases hv) ?_
 refine y4 ?_;refine yB ?_;refine yM ?_;refine y3 ?_;refine y4 ?_;refine af (j6 (by exact rfl) (by exact rfl)) ?_
 refine yM ?_;refine y3 ?_;refine aH ?_
 exact dn hr.log (by rfl) ⟨rfl,rfl,by(simp(disch:=first|omega|(simp only[z1,z2];omega))only[z3,z4,z5,z6,z7,z1,z2, *];exact rfl)⟩
def cg(x:Nat×Nat)(a b:Nat):Int×Int:=if x.1=3 then(x.2,b)else(a,x.2)
def cm(kerf:Int)(x:Nat×Nat)(a b:Nat):Int×Int:=if x.1=3 then((a:Int)-x.2-kerf,b)else(a,(b:Int)-x.2-kerf)
def cT(x:Int×Int):Value:= .agg #[.int .i64 x.1, .int .i64 x.2]
set_option maxHeartbeats 4000000 in
theorem oR(hp:bC T)(hf:T 106=some f106){h:Heap}(hr:Rdy h){bb:Nat}{s ws:Value}{own:Bool}{kerf:Int}(hb:h.get bb=some (.cells [s, .int .i64 kerf,ws] own 1))(hlt:bb<h.next)(hk:0≤kerf∧kerf≤100){x:Nat×Nat}{a b:Nat}(hx:x.1=3∨x.1=4)(hx2:x.2<1000)(ha:a<1000)(hbb:b<1000):
 Pu T 106 [.pointer (some ⟨bb,0,none⟩),dV (a,b),eI x] h (.tuple #[cT (cg x a b),cT (cm kerf x a b)]):=by
 refine .of hp hf hr rfl ?_
 obtain⟨x1,x2⟩:=x
 unfold dV eI
 simp only at hx hx2
 rcases hx with rfl|rfl
 ·refine y4 ?_;refine yB ?_;refine yB ?_;refine af cN ?_;refine af cN ?_;refine y3 ?_;refine aq ?_;refine y4 ?_
  refine yF ?_;refine yL ?_
  refine yt ?_;refine y3 ?_;refine yY ?_;refine aq ?_;refine cG ?_;refine qF ?_
  refine qL ?_
  refine ak rfl rfl rfl (by exact rfl) (by exact rfl) (by exact rfl) (bz (i:=1) (by exact rfl) (by exact rfl) (by omega)) ?_
  refine qL ?_
  refine ak rfl rfl rfl (by exact rfl) (by exact rfl) (by exact rfl) (ck (by exact rfl)) ?_;refine ak rfl rfl rfl (by exact rfl) (by exact rfl) (by exact rfl) (bz (i:=0) (by exact rfl) (by exact rfl) (by omega)) ?_
  refine qL ?_
  refine qF ?_
  refine qL ?_
  refine ak rfl rfl rfl (by exact rfl) (by exact rfl) (by exact rfl) (cE (by exact rfl) (by exact rfl) (by exact iX (bY (by omega) (by omega)))) ?_;refine qM ?_;refine ak rfl rfl rfl (by exact rfl) (by exact rfl) (by exact rfl) (cC (by exact rfl)) ?_
  refine qF ?_;refine qF ?_
  refine qL ?_
  refine ak rfl rfl rfl (by exact rfl) (by exact rfl) (by exact rfl) (cE (by exact rfl) (by exact rfl) (by exact iX (bY (by omega) (by omega)))) ?_;refine ak rfl rfl rfl (by exact rfl) (by exact rfl) (by exact rfl) (bz (i:=1) (by exact rfl) (by exact rfl) (by omega)) ?_
  refine qL ?_
  refine ak rfl rfl rfl (by exact rfl) (by exact rfl) (by exact rfl) (ck (by exact rfl)) ?_
  refine ir rfl rfl rfl (by exact rfl) (by exact rfl) (by exact rfl) (by(simp(disch:=first|omega|(simp only[z1,z2];omega)|(simp only[z1,z2];done)|fail)only[z8,z4,z5,z9,z7,z1,z2, *];exact rfl)) (by exact rfl) (by exact rfl) (by(simp only[z1,z2];omega)) (by(simp only[z1,z2];omega)) (by apply aM rfl (ay rfl (ck (by exact rfl)) (by exact eU (by refine bN (dz _ _) ?_;refine bN (dz _ _) ?_;exact eW))) rfl;apply aM rfl (ay rfl (bt (by exact rfl) (by(simp(disch:=first|omega|(simp only[z1,z2];omega))only[z3,z4,z5,z6,z7,z1,z2, *];exact rfl)) (by exact rfl)) (by exact dL _ _)) rfl;apply aM rfl (ay rfl (bz (i:=1) (by exact rfl) (by exact rfl) (by omega)) (by exact dy _)) rfl;apply aM rfl (ay rfl (cE (by exact rfl) (by exact rfl) (by exact iX (bY (by omega) (by omega)))) (by exact dL _ _)) rfl;apply aM rfl (ay rfl (bt (by exact rfl) (by(simp(disch:=first|omega|(simp only[z1,z2];omega))only[z3,z4,z5,z6,z7,z1,z2, *];exact rfl)) (by exact rfl)) (by exact dL _ _)) rfl;apply aM rfl (ay rfl (iy (by exact rfl)) (by exact dy _)) rfl;apply aM rfl (ay rfl (iy (by exact rfl)) (by exact dy _)) rfl;apply aM rfl (ay rfl (cC (by exact rfl)) (by exact dy _)) rfl;apply aM rfl (ay rfl (iR (by exact rfl)) (by exact dy _)) rfl;apply aM rfl (ay rfl (cE (by exact rfl) (by exact rfl) (by exact iX (bY (by omega) (by omega)))) (by exact dL _ _)) rfl;apply aM rfl (ay rfl (bt (by exact rfl) (by(simp(disch:=first|omega|(simp only[z1,z2];omega)|(simp only[z1,z2];done)|fail)only[z8,z4,z5,z9,z7,z1,z2, *];exact rfl)) (by exact rfl)) (by exact dL _ _)) rfl;apply aM rfl (ay rfl (iy (by exact rfl)) (by exact dy _)) rfl;apply aM rfl (ay rfl (bt (by exact rfl) (by(simp(disch:=first|omega|(simp only[z1,z2];omega))only[z3,z4,z5,z6,z7,z1,z2, *];exact rfl)) (by exact rfl)) (by exact dL _ _)) rfl;apply aM rfl (ay rfl (bz (i:=0) (by exact rfl) (by exact rfl) (by omega)) (by exact dy _)) rfl;apply aa rfl;apply aa rfl;apply aa rfl;apply aa rfl;apply aa rfl;exact bT) ?_
  refine ir rfl rfl rfl (by exact rfl) (by exact rfl) (by exact rfl) (by(simp(disch:=first|omega|(simp only[z1,z2];omega)|(simp only[z1,z2];done)|fail)only[z8,z4,z5,z9,z7,z1,z2, *];exact rfl)) (by exact rfl) (by exact rfl) (by(simp only[z1,z2];omega)) (by(simp only[z1,z2];omega)) (by apply aa rfl;apply aa rfl;apply aa rfl;apply aa rfl;apply aa rfl;apply aa rfl;apply aa rfl;apply aa rfl;apply aa rfl;apply aa rfl;apply aa rfl;apply aa rfl;apply aa rfl;apply aa rfl;exact bT) ?_
  refine cF ?_;refine y1 ?_;refine aP ?_;refine aH ?_;refine ej ?_
  refine aF ((Heap.aI (by(simp only[z1,z2];omega))).trans ((Heap.aI (by(simp only[z1,z2];omega))).trans hr.log)) (vs:=[cT (cg (3,x2) a b),cT (cm kerf (3,x2) a b)]) ?_ rfl
  refine jg (b:=h.next+2) rfl (by(simp(disch:=first|omega|(simp only[z1,z2];omega)|(simp only[z1,z2];done)|fail)only[z8,z4,z5,z9,z7,z1,z2, *];exact rfl)) rfl rfl (jg (b:=h.next+3) rfl (by(simp(disch:=first|omega|(simp only[z1,z2];omega)|(simp only[z1,z2];done)|fail)only[z8,z4,z5,z9,z7,z1,z2, *];exact rfl)) rfl rfl fP)
 ·refine y4 ?_;refine yB ?_;refine yB ?_;refine af cN ?_;refine af cN ?_;refine y3 ?_;refine aq ?_;refine y4 ?_
  refine yF ?_;refine yL ?_
  refine yf ?_;refine y3 ?_;refine yX ?_;refine aB ?_;refine aP ?_;refine aq ?_;refine cG ?_
  refine ak rfl rfl rfl (by exact rfl) (by exact rfl) (by exact rfl) (bz (i:=0) (by exact rfl) (by exact rfl) (by omega)) ?_
  refine qL ?_
  refine qF ?_
  refine qL ?_
  refine ak rfl rfl rfl (by exact rfl) (by exact rfl) (by exact rfl) (ck (by exact rfl)) ?_;refine ak rfl rfl rfl (by exact rfl) (by exact rfl) (by exact rfl) (bz (i:=0) (by exact rfl) (by exact rfl) (by omega)) ?_
  refine qL ?_
  refine ak rfl rfl rfl (by exact rfl) (by exact rfl) (by exact rfl) (bz (i:=1) (by exact rfl) (by exact rfl) (by omega)) ?_
  refine qL ?_
  refine qF ?_
  refine qL ?_
  refine ak rfl rfl rfl (by exact rfl) (by exact rfl) (by exact rfl) (cE (by exact rfl) (by exact rfl) (by exact iX (bY (by omega) (by omega)))) ?_;refine qM ?_;refine ak rfl rfl rfl (by exact rfl) (by exact rfl) (by exact rfl) (cC (by exact rfl)) ?_
  refine qF ?_;refine qF ?_
  refine qL ?_
  refine ak rfl rfl rfl (by exact rfl) (by exact rfl) (by exact rfl) (cE (by exact rfl) (by exact rfl) (by exact iX (bY (by omega) (by omega)))) ?_;refine ak rfl rfl rfl (by exact rfl) (by exact rfl) (by exact rfl) (ck (by exact rfl)) ?_
  refine ir rfl rfl rfl (by exact rfl) (by exact rfl) (by exact rfl) (by(simp(disch:=first|omega|(simp only[z1,z2];omega)|(simp only[z1,z2];done)|fail)only[z8,z4,z5,z9,z7,z1,z2, *];exact rfl)) (by exact rfl) (by exact rfl) (by(simp only[z1,z2];omega)) (by(simp only[z1,z2];omega)) (by apply aM rfl (ay rfl (ck (by exact rfl)) (by exact eU (by refine bN (dz _ _) ?_;refine bN (dz _ _) ?_;exact eW))) rfl;apply aM rfl (ay rfl (cE (by exact rfl) (by exact rfl) (by exact iX (bY (by omega) (by omega)))) (by exact dL _ _)) rfl;apply aM rfl (ay rfl (bt (by exact rfl) (by(simp(disch:=first|omega|(simp only[z1,z2];omega))only[z3,z4,z5,z6,z7,z1,z2, *];exact rfl)) (by exact rfl)) (by exact dL _ _)) rfl;apply aM rfl (ay rfl (iy (by exact rfl)) (by exact dy _)) rfl;apply aM rfl (ay rfl (iy (by exact rfl)) (by exact dy _)) rfl;apply aM rfl (ay rfl (cC (by exact rfl)) (by exact dy _)) rfl;apply aM rfl (ay rfl (iR (by exact rfl)) (by exact dy _)) rfl;apply aM rfl (ay rfl (cE (by exact rfl) (by exact rfl) (by exact iX (bY (by omega) (by omega)))) (by exact dL _ _)) rfl;apply aM rfl (ay rfl (bt (by exact rfl) (by(simp(disch:=first|omega|(simp only[z1,z2];omega)|(simp only[z1,z2];done)|fail)only[z8,z4,z5,z9,z7,z1,z2, *];exact rfl)) (by exact rfl)) (by exact dL _ _)) rfl;apply aM rfl (ay rfl (iy (by exact rfl)) (by exact dy _)) rfl;apply aM rfl (ay rfl (bt (by exact rfl) (by(simp(disch:=first|omega|(simp only[z1,z2];omega))only[z3,z4,z5,z6,z7,z1,z2, *];exact rfl)) (by exact rfl)) (by exact dL _ _)) rfl;apply aM rfl (ay rfl (bz (i:=1) (by exact rfl) (by exact rfl) (by omega)) (by exact dy _)) rfl;apply aM rfl (ay rfl (bt (by exact rfl) (by(simp(disch:=first|omega|(simp only[z1,z2];omega))only[z3,z4,z5,z6,z7,z1,z2, *];exact rfl)) (by exact rfl)) (by exact dL _ _)) rfl;apply aM rfl (ay rfl (bz (i:=0) (by exact rfl) (by exact rfl) (by omega)) (by exact dy _)) rfl;apply aa rfl;apply aa rfl;apply aa rfl;apply aa rfl;apply aa rfl;exact bT) ?_
  refine ir rfl rfl rfl (by exact rfl) (by exact rfl) (by exact rfl) (by(simp(disch:=first|omega|(simp only[z1,z2];omega)|(simp only[z1,z2];done)|fail)only[z8,z4,z5,z9,z7,z1,z2, *];exact rfl)) (by exact rfl) (by exact rfl) (by(simp only[z1,z2];omega)) (by(simp only[z1,z2];omega)) (by apply aa rfl;apply aa rfl;apply aa rfl;apply aa rfl;apply aa rfl;apply aa rfl;apply aa rfl;apply aa rfl;apply aa rfl;apply aa rfl;apply aa rfl;apply aa rfl;apply aa rfl;apply aa rfl;exact bT) ?_
  refine cF ?_;refine y1 ?_;refine aP ?_;refine aH ?_
  refine aF ((Heap.aI (by(simp only[z1,z2];omega))).trans ((Heap.aI (by(simp only[z1,z2];omega))).trans hr.log)) (vs:=[cT (cg (4,x2) a b),cT (cm kerf (4,x2) a b)]) ?_ rfl
  refine jg (b:=h.next+2) rfl (by(simp(disch:=first|omega|(simp only[z1,z2];omega)|(simp only[z1,z2];done)|fail)only[z8,z4,z5,z9,z7,z1,z2, *];exact rfl)) rfl rfl (jg (b:=h.next+3) rfl (by(simp(disch:=first|omega|(simp only[z1,z2];omega)|(simp only[z1,z2];done)|fail)only[z8,z4,z5,z9,z7,z1,z2, *];exact rfl)) rfl rfl fP)
end Go.A.Pk
end
section
set_option maxRecDepth 100000
namespace Go.A.Pk
variable {T:Nat→Option ah}
set_option maxHeartbeats 8000000 in
theorem y7(hp:bC T)(hf:T 140=some f140){h:Heap}(hr:Rdy h){pb bb px l' N lo a b n c:Nat}{sa:Option Addr}{l:List Kd}{v1 v2:Value}{P:List (Nat×Nat)→Heap→Prop}{S:Heap→Prop}(hN:N≤h.next)(hlo:lo≤h.next)(hn:n<1000)(hlN:l'<N)(Y:Eg T lo N l' eI (aZ a b l 0) P S)
 (hpb:h.get pb=some (.cells [.pointer (some ⟨bb,0,none⟩)] true 1))(hbb:h.get bb=some (.cells [.slice sa n c,v1,v2] true 1))
 (hks:∀d H,P d H→aA H 5 (.slice sa n c) n (kcs l))(hpx:∀d H,P d H→H.get px=some (.cells [.int .i64 a, .int .i64 b] true 1))(h0:P [] h):
 GrX T 140 [.func (.yield l') #[] #[], .pointer (some ⟨pb,0,none⟩), .pointer (some ⟨px,0,none⟩)] h lo (P (aZ a b l 0)) S:=by
 have hlb:l'<h.next:=by omega
 refine GrX.of (l:=l') hp hf hlo hlb (fun h1 h2 hn ha q=>Y.eF _ _ _ q (Nat.le_trans hN hn) fun x hx=>ha x (by omega)) Y.Eb ?_
 have hlen:l.length=n:=by have:=(hks _ _ h0).len;rw[cP]at this;omega
 refine y4 ?_;refine yL ?_;refine af (cC (by exact rfl)) ?_;refine yF ?_;refine yF ?_;refine yL ?_;refine yD ?_;refine yM ?_
 refine y3 ?_;refine aC ?_
 refine dP (fun k e ds h'=>∃i:Nat,i≤n∧k=n-i∧e=[(0, .func (.yield l') #[] #[]),(2, .pointer (some ⟨px,0,none⟩)),(10, .slice sa n c),(11, .int .i64 n),(12, .int .i64 i)]∧ds=[]∧Lk lo h h'∧P (aZ a b (l.take i) 0) h')
  ⟨0,Nat.zero_le _,rfl,rfl,rfl, .refl _ _,by simpa[aZ]using h0⟩ ?_
 clear hpb hbb
 rintro k e ds h' ⟨i,hi,rfl,rfl,rfl,hk,hP⟩
 by_cases hlt:i<n
 ·obtain⟨x,hxl⟩:∃x,l[i]? =some x:=⟨l[i]'(by omega),List.getElem?_eq_getElem (by omega)⟩
  have hsl:=hks _ _ hP
  rcases hsl.inv with⟨_,_,hz,_⟩|⟨b0,o0,cap,hv,s,hcap⟩
  ·omega
  ·cases hv
   obtain⟨vs,own,t0,g5,g6⟩:=iE s hxl
   have hpx':=hpx _ _ hP
   refine y4 ?_;refine yt ?_;refine y3 ?_;refine aq ?_;refine yY ?_;refine aB ?_;refine aP ?_;refine aq ?_;refine aC ?_;refine y4 ?_;refine yM ?_;refine af (aN (by exact rfl) (by exact rfl) (by omega)) ?_
   refine af (cS (by exact rfl) g5 g6 (by exact rfl)) ?_
   have hpxl:px<h'.next:=WF.aT (hk.wf hr.wf) hpx'
   refine af cN ?_;refine yM ?_;refine yS ?_;refine y3 ?_;refine aq ?_;refine y4 ?_
   refine yN ?_;refine yF ?_
   refine yL ?_;refine yF ?_
   refine yL ?_;refine af (ck (by exact rfl)) ?_
   have hN':N≤h'.next:=Nat.le_trans hN hk.next
   have hlo':lo≤h'.next:=Nat.le_trans hlo hk.next
   have hkq:Lk lo h' ((h'.push (.cells [.int .i64 0, .int .i64 0, .int .i64 0, .int .i64 0, .bool false] true 1)).wr h.next h'.next (.cells (kc x) true 1)):=((Lk.refl lo h').push hlo' _).wr hlo'
   have gk:(((h'.push (.cells [.int .i64 0, .int .i64 0, .int .i64 0, .int .i64 0, .bool false] true 1)).wr h.next h'.next (.cells (kc x) true 1))).get h'.next=some (.cells (kc x) true 1):=by(simp(disch:=first|omega|(simp only[z1,z2];omega))only[z3,z4,z5,z6,z7,z1,z2, *];done)
   have gp:(((h'.push (.cells [.int .i64 0, .int .i64 0, .int .i64 0, .int .i64 0, .bool false] true 1)).wr h.next h'.next (.cells (kc x) true 1))).get px=some (.cells [.int .i64 a, .int .i64 b] true 1):=by(simp(disch:=first|omega|(simp only[z1,z2];omega))only[z3,z4,z5,z6,z7,z1,z2, *];done)
   have hPq:P (aZ a b (l.take i) 0) ((h'.push (.cells [.int .i64 0, .int .i64 0, .int .i64 0, .int .i64 0, .bool false] true 1)).wr h.next h'.next (.cells (kc x) true 1)):=Y.eF _ _ _ hP (Nat.le_succ_of_le hN') fun z hz=>(z5 (by omega)).trans (z4 (by omega))
   have hqn:h'.next<(((h'.push (.cells [.int .i64 0, .int .i64 0, .int .i64 0, .int .i64 0, .bool false] true 1)).wr h.next h'.next (.cells (kc x) true 1))).next:=Nat.lt_succ_self _
   have hmem:=ji (a:=a) (b:=b) hxl
   have hsucc:=mN (a:=a) (b:=b) hxl
   change WO T _ _ _ _ _ _ ((h'.push (.cells [.int .i64 0, .int .i64 0, .int .i64 0, .int .i64 0, .bool false] true 1)).wr h.next h'.next (.cells (kc x) true 1))
   generalize hH:Heap.wr (Heap.push h' _) _ _ _=H at*
   clear hH g5 g6 s hpx' hsl hP hpxl
   have hkH:=hk.trans hkq
   by_cases c1:(a:Int)=x.w∧(b:Int)=x.h
   ·have L1:aO [.i .i64, .i .i64] [.int .i64 a, .int .i64 b] [.int .i64 x.w, .int .i64 x.h]=some true:=by rw[fF,decide_eq_true c1]
    refine af (kf (b:=true) (by exact rfl) (by exact rfl) L1) ?_
    refine yM ?_;refine yO ?_;refine yM ?_;refine yO ?_;refine yM ?_;refine yO ?_;refine af (ck (by exact rfl)) ?_;refine yO ?_
    refine gj (fn:= .yield l') (args:=[eI (1,i)]) (by rfl) ?_
    refine Y.call hp (hmem _ (by simp[cB,c1])) (hkH.wf hr.wf) (Nat.le_trans hlo hkH.next) (Nat.le_trans hN hkH.next) hlb hPq ?_ ?_
    rotate_left
    ·intro h9 hk9 hm9 hS9
     refine yO ?_;refine yA ?_;refine yT ?_;refine y3 ?_;refine yY ?_;refine aH ?_;refine ej ?_;refine iD ?_;refine ej ?_;refine ej ?_;refine iD ?_
     exact ld ((hkH.trans hk9).log (by rw[hr.log];exact dG.nil _)) rfl hm9 hS9
    intro h2 hk2 hm2 hP2
    have gk2:=(hm2 h'.next hN' hqn).trans gk
    have gp2:=hpx _ _ hP2
    have hk3:=hkH.trans hk2
    by_cases c2:x.j4=true
    ·have ga:(h2).get h'.next=some (.cells [.int .i64 x.id, .int .i64 x.w, .int .i64 x.h, .int .i64 x.bq, .bool true] true 1):=by rw[gk2,kc,c2]
     clear gk gk2
     refine yO ?_;refine yA ?_;refine yT ?_;refine y3 ?_;refine yX ?_;refine aB ?_;refine aP ?_;refine y4 ?_
     refine yF ?_;refine yL ?_;refine yM ?_;refine yO ?_;refine yN ?_;refine yO ?_;refine yF ?_;refine yO ?_
     refine yL ?_;refine yO ?_;refine yF ?_;refine yO ?_;refine yL ?_;refine yO ?_;refine af (ck (by exact rfl)) ?_;refine yO ?_
     by_cases c3:(a:Int)=x.h∧(b:Int)=x.w
     ·have L2:aO [.i .i64, .i .i64] [.int .i64 a, .int .i64 b] [.int .i64 x.h, .int .i64 x.w]=some true:=by rw[fF,decide_eq_true c3]
      refine af (kf (b:=true) (by exact rfl) (by exact rfl) L2) ?_
      refine yT ?_;refine yM ?_;refine yO ?_;refine yM ?_;refine yO ?_;refine yM ?_;refine yO ?_;refine af (ck (by exact rfl)) ?_;refine yO ?_
      refine gj (fn:= .yield l') (args:=[eI (2,i)]) (by rfl) ?_
      refine Y.call hp (hmem _ (by simp[cB,c2,c3])) (hk3.wf hr.wf) (Nat.le_trans hlo hk3.next) (Nat.le_trans hN hk3.next) hlb hP2 ?_ ?_
      rotate_left
      ·intro h9 hk9 hm9 hS9
       refine yO ?_;refine yA ?_;refine yT ?_;refine y3 ?_;refine yY ?_;refine aH ?_;refine iD ?_;refine ej ?_;refine ej ?_;refine iD ?_
       exact ld ((hk3.trans hk9).log (by rw[hr.log];exact dG.nil _)) rfl hm9 hS9
      intro h4 hk4 _ hP4
      refine yO ?_;refine yA ?_;refine yT ?_;refine y3 ?_;refine yX ?_;refine aB ?_;refine cZ ?_;refine aP ?_;refine aD ?_
      refine fV ?_;refine yM ?_;refine y3 ?_
      refine⟨n-(i+1),by omega,i+1,by omega,rfl,rfl,rfl,hk3.trans hk4,?_⟩
      have hl:cB x i a b=[(1,i)]++[(2,i)]:=by unfold cB;rw[if_pos c1,if_pos ⟨c2,c3⟩]
      rw[hsucc,hl,←List.append_assoc];exact hP4
     ·have L2:aO [.i .i64, .i .i64] [.int .i64 a, .int .i64 b] [.int .i64 x.h, .int .i64 x.w]=some false:=by rw[fF,decide_eq_false c3]
      refine af (kf (b:=false) (by exact rfl) (by exact rfl) L2) ?_
      refine yT ?_;refine yM ?_;refine yP ?_;refine yP ?_;refine yP ?_;refine yP ?_;refine yP ?_;refine yU ?_
      refine y3 ?_;refine yX ?_;refine aB ?_;refine cZ ?_;refine aP ?_;refine aD ?_;refine fV ?_;refine yM ?_;refine y3 ?_
      refine⟨n-(i+1),by omega,i+1,by omega,rfl,rfl,rfl,hk3,?_⟩
      have hl:cB x i a b=[(1,i)]++[]:=by unfold cB;rw[if_pos c1,if_neg (fun q=>c3 q.2)]
      rw[hsucc,hl,List.append_nil];exact hP2
    ·have c2:x.j4=false:=by simpa using c2
     have ga:(h2).get h'.next=some (.cells [.int .i64 x.id, .int .i64 x.w, .int .i64 x.h, .int .i64 x.bq, .bool false] true 1):=by rw[gk2,kc,c2]
     clear gk gk2
     refine yO ?_;refine yA ?_;refine yT ?_;refine y3 ?_;refine yX ?_;refine aB ?_;refine aP ?_;refine y4 ?_
     refine yF ?_;refine yL ?_;refine yM ?_;refine yP ?_;refine yP ?_;refine yP ?_;refine yP ?_;refine yP ?_
     refine yP ?_;refine yP ?_;refine yU ?_;refine yM ?_;refine yP ?_;refine yP ?_;refine yP ?_;refine yP ?_
     refine yP ?_;refine yU ?_;refine y3 ?_;refine yX ?_;refine aB ?_;refine cZ ?_;refine aP ?_;refine aD ?_
     refine fV ?_;refine yM ?_;refine y3 ?_
     refine⟨n-(i+1),by omega,i+1,by omega,rfl,rfl,rfl,hk3,?_⟩
     have hl:cB x i a b=[(1,i)]++[]:=by unfold cB;rw[if_pos c1,if_neg (fun q=>by rw[c2]at q;cases q.1)]
     rw[hsucc,hl,List.append_nil];exact hP2
   ·have L1:aO [.i .i64, .i .i64] [.int .i64 a, .int .i64 b] [.int .i64 x.w, .int .i64 x.h]=some false:=by rw[fF,decide_eq_false c1]
    refine af (kf (b:=false) (by exact rfl) (by exact rfl) L1) ?_
    by_cases c2:x.j4=true
    ·have ga:(H).get h'.next=some (.cells [.int .i64 x.id, .int .i64 x.w, .int .i64 x.h, .int .i64 x.bq, .bool true] true 1):=by rw[gk,kc,c2]
     clear gk
     refine yM ?_;refine yP ?_;refine yP ?_;refine yP ?_;refine yP ?_;refine yP ?_;refine yU ?_;refine y3 ?_;refine yX ?_;refine aB ?_;refine aP ?_;refine y4 ?_;refine yF ?_;refine yL ?_;refine yM ?_
     refine yO ?_;refine yN ?_;refine yO ?_;refine yF ?_;refine yO ?_;refine yL ?_;refine yO ?_;refine yF ?_
     refine yO ?_;refine yL ?_;refine yO ?_;refine af (ck (by exact rfl)) ?_;refine yO ?_
     by_cases c3:(a:Int)=x.h∧(b:Int)=x.w
     ·have L2:aO [.i .i64, .i .i64] [.int .i64 a, .int .i64 b] [.int .i64 x.h, .int .i64 x.w]=some true:=by rw[fF,decide_eq_true c3]
      refine af (kf (b:=true) (by exact rfl) (by exact rfl) L2) ?_
      refine yT ?_;refine yM ?_;refine yO ?_;refine yM ?_;refine yO ?_;refine yM ?_;refine yO ?_;refine af (ck (by exact rfl)) ?_;refine yO ?_
      refine gj (fn:= .yield l') (args:=[eI (2,i)]) (by rfl) ?_
      refine Y.call hp (hmem _ (by simp[cB,c2,c3])) (hkH.wf hr.wf) (Nat.le_trans hlo hkH.next) (Nat.le_trans hN hkH.next) hlb hPq ?_ ?_
      rotate_left
      ·intro h9 hk9 hm9 hS9
       refine yO ?_;refine yA ?_;refine yT ?_;refine y3 ?_;refine yY ?_;refine aH ?_;refine iD ?_;refine ej ?_;refine ej ?_;refine iD ?_
       exact ld ((hkH.trans hk9).log (by rw[hr.log];exact dG.nil _)) rfl hm9 hS9
      intro h4 hk4 _ hP4
      refine yO ?_;refine yA ?_;refine yT ?_;refine y3 ?_;refine yX ?_;refine aB ?_;refine cZ ?_;refine aP ?_;refine aD ?_
      refine fV ?_;refine yM ?_;refine y3 ?_
      refine⟨n-(i+1),by omega,i+1,by omega,rfl,rfl,rfl,hkH.trans hk4,?_⟩
      have hl:cB x i a b=[]++[(2,i)]:=by unfold cB;rw[if_neg c1,if_pos ⟨c2,c3⟩]
      rw[hsucc,hl,List.nil_append];exact hP4
     ·have L2:aO [.i .i64, .i .i64] [.int .i64 a, .int .i64 b] [.int .i64 x.h, .int .i64 x.w]=some false:=by rw[fF,decide_eq_false c3]
      refine af (kf (b:=false) (by exact rfl) (by exact rfl) L2) ?_
      refine yT ?_;refine yM ?_;refine yP ?_;refine yP ?_;refine yP ?_;refine yP ?_;refine yP ?_;refine yU ?_
      refine y3 ?_;refine yX ?_;refine aB ?_;refine cZ ?_;refine aP ?_;refine aD ?_;refine fV ?_;refine yM ?_;refine y3 ?_
      refine⟨n-(i+1),by omega,i+1,by omega,rfl,rfl,rfl,hkH,?_⟩
      have hl:cB x i a b=[]++[]:=by unfold cB;rw[if_neg c1,if_neg (fun q=>c3 q.2)]
      rw[hsucc,hl,List.append_nil,List.append_nil];exact hPq
    ·have c2:x.j4=false:=by simpa using c2
     have ga:(H).get h'.next=some (.cells [.int .i64 x.id, .int .i64 x.w, .int .i64 x.h, .int .i64 x.bq, .bool false] true 1):=by rw[gk,kc,c2]
     clear gk
     refine yM ?_;refine yP ?_;refine yP ?_;refine yP ?_;refine yP ?_;refine yP ?_;refine yU ?_;refine y3 ?_;refine yX ?_;refine aB ?_;refine aP ?_;refine y4 ?_;refine yF ?_;refine yL ?_;refine yM ?_
     refine yP ?_;refine yP ?_;refine yP ?_;refine yP ?_;refine yP ?_;refine yP ?_;refine yP ?_;refine yU ?_
     refine yM ?_;refine yP ?_;refine yP ?_;refine yP ?_;refine yP ?_;refine yP ?_;refine yU ?_;refine y3 ?_;refine yX ?_;refine aB ?_;refine cZ ?_;refine aP ?_;refine aD ?_;refine fV ?_;refine yM ?_;refine y3 ?_
     refine⟨n-(i+1),by omega,i+1,by omega,rfl,rfl,rfl,hkH,?_⟩
     have hl:cB x i a b=[]++[]:=by unfold cB;rw[if_neg c1,if_neg (fun q=>by rw[c2]at q;cases q.1)]
     rw[hsucc,hl,List.append_nil,List.append_nil];exact hPq
 ·obtain rfl:i=n:=by omega
  have hfull:l.take i=l:=List.take_of_length_le (by omega)
  rw[hfull]at hP
  refine y4 ?_;refine yf ?_;refine y3 ?_;refine aq ?_;refine yX ?_;refine cY ?_;refine dQ ?_;refine dQ ?_;refine iW ?_
  exact sD (hk.log (by rw[hr.log];exact dG.nil _)) rfl hP
set_option maxHeartbeats 8000000 in
theorem De(hp:bC T)(hf:T 141=some f141){h:Heap}(hr:Rdy h){bx l N lo a b:Nat}{P:List (Nat×Nat)→Heap→Prop}{S:Heap→Prop}(hN:N≤h.next)(hlo:lo≤h.next)(ha:a<1000)(hb:b<1000)(hlN:l<N)(Y:Eg T lo N l eI (dD a b) P S)
 (hbx:∀d H,P d H→H.get bx=some (.cells [.int .i64 a, .int .i64 b] true 1))(h0:P [] h):
 GrX T 141 [.func (.yield l) #[] #[], .pointer (some ⟨bx,0,none⟩)] h lo (P (dD a b)) S:=by
 have hlb:l<h.next:=by omega
 refine GrX.of (l:=l) hp hf hlo hlb (fun h1 h2 hn ha q=>Y.eF _ _ _ q (Nat.le_trans hN hn) fun x hx=>ha x (by omega)) Y.Eb ?_
 refine y4 ?_;refine af (ck (by exact rfl)) ?_;refine yM ?_;refine y3 ?_;refine aC ?_
 refine dP (fun k e ds h'=>∃i:Nat,i≤2∧k=2-i∧e=[(0, .func (.yield l) #[] #[]),(1, .pointer (some ⟨bx,0,none⟩)),(6, .agg (List.toArray [.int .u8 3, .int .u8 4])),(7, .int .i64 i)]∧ds=[]∧Lk lo h h'∧P (if i=0 then []else if i=1 then row 3 (a-1)else dD a b) h')
  ⟨0,Nat.zero_le _,rfl,rfl,rfl, .refl _ _,h0⟩ ?_
 rintro k e ds h' ⟨i,hi,rfl,rfl,rfl,hk,hP⟩
 obtain rfl|rfl|rfl:i=0∨i=1∨i=2:=by omega
 ·replace hP:P ([]) h':=hP
  refine y4 ?_;refine yt ?_;refine y3 ?_;refine aq ?_;refine yY ?_;refine aB ?_;refine aP ?_;refine aq ?_;refine aC ?_;refine y4 ?_;refine yM ?_;refine af (tv (i:=0) (by exact rfl) (by exact rfl) (by omega) (by exact rfl)) ?_;refine yM ?_;refine yM ?_;refine y3 ?_;refine y4 ?_;refine yM ?_;refine y3 ?_;refine aC ?_
  refine dP (fun k e ds h''=>∃j:Nat,j≤a-1∧k=a-1-j∧e=[(0, .func (.yield l) #[] #[]),(1, .pointer (some ⟨bx,0,none⟩)),(3, .int .i64 (0:Nat)),(4, .int .u8 3),(5, .int .i64 (j+1:Nat)),(6, .agg (List.toArray [.int .u8 3, .int .u8 4])),(7, .int .i64 (0:Nat))]∧ds=[]∧Lk lo h h''∧P (row 3 j) h'')
   ⟨0,Nat.zero_le _,rfl,rfl,rfl,hk,by simpa[row]using hP⟩ ?_
  clear hP hk h'
  rintro k e ds h' ⟨j,hj,rfl,rfl,rfl,hk,hP⟩
  have g2:=hbx _ _ hP
  by_cases hjt:j<a-1
  ·refine aq ?_;refine y4 ?_;refine yM ?_;refine yM ?_;refine af (bz (i:=0) (by exact rfl) (by exact rfl) (by omega)) ?_;refine yL ?_;refine yt ?_;refine y3 ?_;refine yY ?_;refine aB ?_;refine aP ?_;refine aq ?_;refine aC ?_;refine y4 ?_;refine yM ?_;refine yM ?_;refine yM ?_
   refine af (ck (by exact rfl)) ?_
   refine gj (fn:= .yield l) (args:=[eI (3,j+1)]) (by rfl) ?_
   refine Y.call hp (qb hjt) (hk.wf hr.wf) (Nat.le_trans hlo hk.next) (Nat.le_trans hN hk.next) hlb hP ?_ ?_
   rotate_left
   ·intro h9 hk9 hm9 hS9
    refine yA ?_;refine y3 ?_;refine yY ?_;refine aH ?_;refine iD ?_;refine ej ?_;refine ej ?_;refine iD ?_;refine iD ?_;refine ej ?_;refine ej ?_;refine iD ?_
    exact ld ((hk.trans hk9).log (by rw[hr.log];exact dG.nil _)) rfl hm9 hS9
   intro h2 hk2 _ hP2
   rw[←ia]at hP2
   refine yA ?_;refine y3 ?_;refine yX ?_;refine aB ?_;refine cZ ?_;refine aP ?_;refine aD ?_;refine yM ?_
   refine fV ?_;refine yM ?_;refine y3 ?_
   exact⟨a-1-(j+1),by omega,j+1,by omega,rfl,rfl,rfl,hk.trans hk2,hP2⟩
  ·obtain rfl:j=a-1:=by omega
   refine aq ?_;refine y4 ?_;refine yM ?_;refine yM ?_;refine af (bz (i:=0) (by exact rfl) (by exact rfl) (by omega)) ?_;refine yL ?_;refine yf ?_;refine y3 ?_;refine yX ?_;refine cY ?_;refine dQ ?_;refine dQ ?_;refine iW ?_;refine cZ ?_;refine aP ?_;refine aD ?_;refine fV ?_;refine yM ?_
   refine y3 ?_
   exact⟨2-1,by omega,1,by omega,rfl,rfl,rfl,hk,hP⟩
 ·replace hP:P (row 3 (a-1)) h':=hP
  refine y4 ?_;refine yt ?_;refine y3 ?_;refine aq ?_;refine yY ?_;refine aB ?_;refine aP ?_;refine aq ?_;refine aC ?_;refine y4 ?_;refine yM ?_;refine af (tv (i:=1) (by exact rfl) (by exact rfl) (by omega) (by exact rfl)) ?_;refine yM ?_;refine yM ?_;refine y3 ?_;refine y4 ?_;refine yM ?_;refine y3 ?_;refine aC ?_
  refine dP (fun k e ds h''=>∃j:Nat,j≤b-1∧k=b-1-j∧e=[(0, .func (.yield l) #[] #[]),(1, .pointer (some ⟨bx,0,none⟩)),(3, .int .i64 (1:Nat)),(4, .int .u8 4),(5, .int .i64 (j+1:Nat)),(6, .agg (List.toArray [.int .u8 3, .int .u8 4])),(7, .int .i64 (1:Nat))]∧ds=[]∧Lk lo h h''∧P (row 3 (a-1)++row 4 j) h'')
   ⟨0,Nat.zero_le _,rfl,rfl,rfl,hk,by simpa[row]using hP⟩ ?_
  clear hP hk h'
  rintro k e ds h' ⟨j,hj,rfl,rfl,rfl,hk,hP⟩
  have g2:=hbx _ _ hP
  by_cases hjt:j<b-1
  ·refine aq ?_;refine y4 ?_;refine yM ?_;refine yM ?_;refine af (bz (i:=1) (by exact rfl) (by exact rfl) (by omega)) ?_;refine yL ?_;refine yt ?_;refine y3 ?_;refine yY ?_;refine aB ?_;refine aP ?_;refine aq ?_;refine aC ?_;refine y4 ?_;refine yM ?_;refine yM ?_;refine yM ?_
   refine af (ck (by exact rfl)) ?_
   refine gj (fn:= .yield l) (args:=[eI (4,j+1)]) (by rfl) ?_
   refine Y.call hp (pZ hjt) (hk.wf hr.wf) (Nat.le_trans hlo hk.next) (Nat.le_trans hN hk.next) hlb hP ?_ ?_
   rotate_left
   ·intro h9 hk9 hm9 hS9
    refine yA ?_;refine y3 ?_;refine yY ?_;refine aH ?_;refine iD ?_;refine ej ?_;refine ej ?_;refine iD ?_;refine iD ?_;refine ej ?_;refine ej ?_;refine iD ?_
    exact ld ((hk.trans hk9).log (by rw[hr.log];exact dG.nil _)) rfl hm9 hS9
   intro h2 hk2 _ hP2
   rw[List.append_assoc,←ia]at hP2
   refine yA ?_;refine y3 ?_;refine yX ?_;refine aB ?_;refine cZ ?_;refine aP ?_;refine aD ?_;refine yM ?_
   refine fV ?_;refine yM ?_;refine y3 ?_
   exact⟨b-1-(j+1),by omega,j+1,by omega,rfl,rfl,rfl,hk.trans hk2,hP2⟩
  ·obtain rfl:j=b-1:=by omega
   refine aq ?_;refine y4 ?_;refine yM ?_;refine yM ?_;refine af (bz (i:=1) (by exact rfl) (by exact rfl) (by omega)) ?_;refine yL ?_;refine yf ?_;refine y3 ?_;refine yX ?_;refine cY ?_;refine dQ ?_;refine dQ ?_;refine iW ?_;refine cZ ?_;refine aP ?_;refine aD ?_;refine fV ?_;refine yM ?_
   refine y3 ?_
   exact⟨2-2,by omega,2,by omega,rfl,rfl,rfl,hk,hP⟩
 ·replace hP:P (dD a b) h':=hP
  refine y4 ?_;refine yf ?_;refine y3 ?_;refine aq ?_;refine yX ?_;refine cY ?_;refine dQ ?_;refine dQ ?_;refine iW ?_
  exact sD (hk.log (by rw[hr.log];exact dG.nil _)) rfl hP
end Go.A.Pk
end
