/- The join of strings. -/
import Derived.Shelf.Strings.OnBuilder
import Derived.Test.YteafdpbjocdbbaaGreatDoorProg
import Derived.Test.YteafdpbjocdbbaaGreatDoorWD
set_option linter.all false
section
namespace Go.Proofs
open Go.Shelf
def Tryz.lays156_ren:Go.Shelf.Ren:=⟨fun|156=>87|165=>128|166=>129|169=>130|240=>152|241=>153|276=>178|277=>179|n=>n,fun|31=>113|9=>9|3=>3|4=>4|0=>0|20=>20|72=>169|76=>125|70=>166|37=>167|75=>124|127=>198|164=>219|5=>5|80=>171|n=>n,fun|n=>n⟩
theorem Tryz.lays156:Go.Proofs.Lays.n156 Tryz.prog Tryz.lays156_ren:={
 mixed:=by kernel_rfl
 f156:=Tryz.func87.trans (congrArg some (by kernel_rfl))
 f165:=Tryz.func128.trans (congrArg some (by kernel_rfl))
 f166:=Tryz.func129.trans (congrArg some (by kernel_rfl))
 f169:=Tryz.func130.trans (congrArg some (by kernel_rfl))
 f240:=Tryz.func152.trans (congrArg some (by kernel_rfl))
 f241:=Tryz.func153.trans (congrArg some (by kernel_rfl))
 f276:=Tryz.func178.trans (congrArg some (by kernel_rfl))
 f277:=Tryz.func179.trans (congrArg some (by kernel_rfl))
 t0:=Tryz.underlying0
 a0:=Tryz.isAgg0
 z0:=Tryz.sizeOf0
 v0:=Tryz.zeroValue0
 t3:=Tryz.underlying3
 a3:=Tryz.isAgg3
 z3:=Tryz.sizeOf3
 v3:=Tryz.zeroValue3
 t4:=Tryz.underlying4
 a4:=Tryz.isAgg4
 z4:=Tryz.sizeOf4
 v4:=Tryz.zeroValue4
 t9:=Tryz.underlying9
 a9:=Tryz.isAgg9
 z9:=Tryz.sizeOf9
 v9:=Tryz.zeroValue9
 t20:=Tryz.underlying20
 a20:=Tryz.isAgg20
 z20:=Tryz.sizeOf20
 v20:=Tryz.zeroValue20
 t31:=Tryz.underlying113
 a31:=Tryz.isAgg113
 z31:=Tryz.sizeOf113
 v31:=Tryz.zeroValue113
 t37:=Tryz.underlying167
 a37:=Tryz.isAgg167
 z37:=Tryz.sizeOf167
 v37:=Tryz.zeroValue167
 t70:=Tryz.underlying166
 a70:=Tryz.isAgg166
 z70:=Tryz.sizeOf166
 v70:=Tryz.zeroValue166
 t72:=Tryz.underlying169
 a72:=Tryz.isAgg169
 z72:=Tryz.sizeOf169
 v72:=Tryz.zeroValue169
 t75:=Tryz.underlying124
 a75:=Tryz.isAgg124
 z75:=Tryz.sizeOf124
 v75:=Tryz.zeroValue124
 t76:=Tryz.underlying125
 a76:=Tryz.isAgg125
 z76:=Tryz.sizeOf125
 v76:=Tryz.zeroValue125
 t127:=Tryz.underlying198
 a127:=Tryz.isAgg198
 z127:=Tryz.sizeOf198
 v127:=Tryz.zeroValue198
 t164:=Tryz.underlying219
 a164:=Tryz.isAgg219
 z164:=Tryz.sizeOf219
 v164:=Tryz.zeroValue219}
theorem Tryz.Builder_Extra_156:Builder.Extra Tryz.prog Tryz.lays156_ren:={
 sizeBuilder:=by kernel_rfl
 liesBuilder:=by kernel_rfl
 t5:=Tryz.underlying5
 a5:=Tryz.isAgg5
 z5:=Tryz.sizeOf5
 v5:=Tryz.zeroValue5
 infoByte:=by kernel_rfl
 cellsByte:=by kernel_rfl
 sizeByte:=by kernel_rfl
 neB5:=by decide}
open Go.RowKit in
theorem Tryz.strings_Join_none(a:Option Addr)(c:Nat)(sep:ByteArray)(w:World):
 Calls Tryz.prog 87 #[.slice a 0 c, .string sep] w fun e w'=>e= .returned (.string ⟨#[]⟩)∧w'=w:=Any.strings_Join_none Tryz.lays156 Tryz.Builder_Extra_156 a c sep w
open Go.RowKit in
theorem Tryz.strings_Join(bk o c:Nat)(xs:List ByteArray)(sep:ByteArray)(w:World)(hcells:∀(j:Nat) x,xs[j]? =some x→w.cell? ⟨bk,o+j,none⟩=some (.string x))(hbk:bk<w.heap.size)(hN:xs.length≤140737488355328)(hcap:xs.length≤c)(hlen:(Lib.join (xs.map (·.data.toList)) sep.data.toList).length≤140737488355328):
 Calls Tryz.prog 87 #[.slice (some ⟨bk,o,none⟩) xs.length c, .string sep] w fun e w'=>e= .returned (.string ⟨(Lib.join (xs.map (·.data.toList)) sep.data.toList).toArray⟩)∧Below w.heap.size w w':=Any.strings_Join Tryz.lays156 Tryz.Builder_Extra_156 bk o c xs sep w hcells hbk hN hcap hlen
end Go.Proofs
end
section
namespace Go.A
variable {P:Program}
theorem strsOf_ok:∀{l:List Value} {xs:List ByteArray},strsOf l=some xs→xs.length=l.length∧∀(j:Nat) (x:ByteArray),xs[j]? =some x→l[j]? =some (.string x)
 |[],_,h=>by cases h;exact⟨rfl,fun j x hx=>by simp at hx⟩
 |v::l,xs,h=>by
  cases v<;>simp only[strsOf]at h<;>(try (cases h;done))
  split at h
  ·rename_i ys hy
   cases h
   obtain⟨h1,h2⟩:=strsOf_ok hy
   refine⟨by simp[h1],fun j x hx=> ?_⟩
   cases j with
   |zero=>simpa using hx
   |succ j=>simpa using h2 j x (by simpa using hx)
  ·cases h
theorem pJoin_ok{f:Nat}{fn:Func}(hf:P.funcs[f]? =some fn)(hn:fn.name≠ "runtime.NumGoroutine")(hb:fn.body.isSome=true)
 (hJ0:∀(a:Option Addr) (c:Nat) (sep:ByteArray) (w:World),Calls P f #[.slice a 0 c, .string sep] w fun e w'=>e= .returned (.string ⟨#[]⟩)∧w'=w)
 (hJ:∀(bk o c:Nat) (xs:List ByteArray) (sep:ByteArray) (w:World),(∀(j:Nat) x,xs[j]? =some x→w.cell? ⟨bk,o+j,none⟩=some (.string x))→bk<w.heap.size→xs.length≤140737488355328→xs.length≤c→
   (Lib.join (xs.map (·.data.toList)) sep.data.toList).length≤140737488355328→
   Calls P f #[.slice (some ⟨bk,o,none⟩) xs.length c, .string sep] w fun e w'=>e= .returned (.string ⟨(Lib.join (xs.map (·.data.toList)) sep.data.toList).toArray⟩)∧RowKit.Below w.heap.size w w'):PrimOk P f pJoin:=by
 intro args h v h' hp _
 unfold pJoin at hp
 split at hp
 ·cases hp
  refine⟨.refl _ _,fun μ w args' hR ha=> ?_⟩
  obtain⟨x',y',rfl,hx,hy⟩:=ha.two
  cases hx;cases hy
  exact next_of_calls hf hn hb (hJ0 _ _ _ w) fun e w' ⟨h1,h2⟩=>by subst h1;subst h2;exact⟨μ, .string _,hR, .refl _ _ _⟩
 ·rename_i b o n c sep
  split at hp
  ·rename_i vs own sz hbo
   split at hp
   ·rename_i xs hxs
    simp only[cond_eq_ite,beq_eq,ble_eq,llen_eq,Bool.and_eq_true,decide_eq_true_eq,Option.ite_none_right_eq_some]at hp
    obtain⟨⟨⟨h1,h2⟩,h3⟩,hp⟩:=hp
    cases hp
    refine⟨.refl _ _,fun μ w args' hR ha=> ?_⟩
    obtain⟨x',y',rfl,hx,hy⟩:=ha.two
    cases hy
    have key:∀k c',μ b=some k→n≤c'→NextR P (CallRes P μ h w (.ret (.string ⟨(joinB xs sep).toArray⟩)) h) ((callFunc f #[.slice (some ⟨k.r,k.d+o,none⟩) n c', .string sep]).run P w):=fun k c' hk hc'=>by
     obtain⟨_,cs,el,fz,g1,g2,g3,g4,_⟩:=hR.obj b _ hbo k hk
     obtain⟨l1,l2⟩:=strsOf_ok hxs
     rw[ltake_eq,ldrop_eq]at l2
     subst h1
     refine next_of_calls hf hn hb (hJ k.r (k.d+o) c' xs sep w (fun j x hj=> ?_) (hR.dom _ _ hk).2 h2 hc' h3) fun e w' ⟨q1,q2⟩=>by subst q1;exact callRes_below hR (.string _) q2
     have hj2:=l2 j x hj
     have hjl:j<xs.length:=(List.getElem?_eq_some_iff.1 hj).1
     rw[List.getElem?_take_of_lt hjl,List.getElem?_drop]at hj2
     have hlt:=(List.getElem?_eq_some_iff.1 hj2).1
     obtain⟨v',q1,q2⟩:=g4 (o+j) hlt
     have hgv:gv vs (o+j)= .string x:=by simp only[gv,lget_eq,hj2,Option.getD_some]
     rw[hgv]at q2
     cases q2
     rw[cell_of g1,Nat.add_assoc];exact q1
    cases hx with
    |slice hk q1 q2=>exact key _ _ hk q2
    |sliceU hk q1 q2 q3=>exact key _ _ hk q3
   ·cases hp
  ·cases hp
 ·cases hp
end Go.A
end
