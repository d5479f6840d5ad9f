/- Two functions of the library, by their laws. -/
import Derived.Shelf.LaysM
import Derived.Shelf.Strconv.Itoa3
import Derived.Shelf.LaysC
import Derived.Shelf.Strconv.AtoiAll
import Derived.Shelf.Strconv.ErrVarAll
import Derived.Test.YteafdpbjocdbbaaGreatDoorProg
import Derived.Test.YteafdpbjocdbbaaGreatDoorWD
set_option linter.all false
section
namespace Go.Proofs
open Go.Shelf
def Tryz.laysM171_ren:Go.Shelf.Ren:=⟨fun|171=>127|243=>151|246=>177|283=>188|284=>189|285=>190|286=>191|129=>196|317=>195|318=>197|319=>198|320=>199|337=>200|338=>201|n=>n,fun|3=>3|9=>9|2=>2|4=>4|171=>232|0=>0|53=>77|37=>167|5=>5|173=>235|212=>243|51=>212|20=>20|213=>244|46=>192|232=>252|233=>253|n=>n,fun|17=>3|18=>6|19=>7|n=>n⟩
theorem Tryz.laysM171:Go.Proofs.LaysM.n171 Tryz.prog Tryz.laysM171_ren:={
 mixed:=by kernel_rfl
 f129:=Tryz.func196.trans (congrArg some (by kernel_rfl))
 f171:=Tryz.func127.trans (congrArg some (by kernel_rfl))
 f243:=Tryz.func151.trans (congrArg some (by kernel_rfl))
 f246:=Tryz.func177.trans (congrArg some (by kernel_rfl))
 f283:=Tryz.func188.trans (congrArg some (by kernel_rfl))
 f284:=Tryz.func189.trans (congrArg some (by kernel_rfl))
 f285:=Tryz.func190.trans (congrArg some (by kernel_rfl))
 f286:=Tryz.func191.trans (congrArg some (by kernel_rfl))
 f317:=Tryz.func195.trans (congrArg some (by kernel_rfl))
 f318:=Tryz.func197.trans (congrArg some (by kernel_rfl))
 f319:=Tryz.func198.trans (congrArg some (by kernel_rfl))
 f320:=Tryz.func199.trans (congrArg some (by kernel_rfl))
 f337:=Tryz.func200.trans (congrArg some (by kernel_rfl))
 f338:=Tryz.func201.trans (congrArg some (by kernel_rfl))
 t0:=Tryz.underlying0
 a0:=Tryz.isAgg0
 z0:=Tryz.sizeOf0
 v0:=Tryz.zeroValue0
 t2:=Tryz.underlying2
 a2:=Tryz.isAgg2
 z2:=Tryz.sizeOf2
 v2:=Tryz.zeroValue2
 t3:=Tryz.underlying3
 a3:=Tryz.isAgg3
 z3:=Tryz.sizeOf3
 v3:=Tryz.zeroValue3
 t4:=Tryz.underlying4
 a4:=Tryz.isAgg4
 z4:=Tryz.sizeOf4
 v4:=Tryz.zeroValue4
 t5:=Tryz.underlying5
 a5:=Tryz.isAgg5
 z5:=Tryz.sizeOf5
 v5:=Tryz.zeroValue5
 t9:=Tryz.underlying9
 a9:=Tryz.isAgg9
 z9:=Tryz.sizeOf9
 v9:=Tryz.zeroValue9
 t20:=Tryz.underlying20
 a20:=Tryz.isAgg20
 z20:=Tryz.sizeOf20
 v20:=Tryz.zeroValue20
 t37:=Tryz.underlying167
 a37:=Tryz.isAgg167
 z37:=Tryz.sizeOf167
 v37:=Tryz.zeroValue167
 t46:=Tryz.underlying192
 a46:=Tryz.isAgg192
 z46:=Tryz.sizeOf192
 v46:=Tryz.zeroValue192
 t51:=Tryz.underlying212
 a51:=Tryz.isAgg212
 z51:=Tryz.sizeOf212
 v51:=Tryz.zeroValue212
 t53:=Tryz.underlying77
 a53:=Tryz.isAgg77
 z53:=Tryz.sizeOf77
 v53:=Tryz.zeroValue77
 t171:=Tryz.underlying232
 a171:=Tryz.isAgg232
 z171:=Tryz.sizeOf232
 v171:=Tryz.zeroValue232
 t173:=Tryz.underlying235
 a173:=Tryz.isAgg235
 z173:=Tryz.sizeOf235
 v173:=Tryz.zeroValue235
 t212:=Tryz.underlying243
 a212:=Tryz.isAgg243
 z212:=Tryz.sizeOf243
 v212:=Tryz.zeroValue243
 t213:=Tryz.underlying244
 a213:=Tryz.isAgg244
 z213:=Tryz.sizeOf244
 t232:=Tryz.underlying252
 a232:=Tryz.isAgg252
 z232:=Tryz.sizeOf252
 v232:=Tryz.zeroValue252
 t233:=Tryz.underlying253
 a233:=Tryz.isAgg253
 z233:=Tryz.sizeOf253
 v233:=Tryz.zeroValue253
 g17:=by kernel_rfl
 g18:=by kernel_rfl
 g19:=by kernel_rfl
 i0:=by kernel_rfl
 i2:=by kernel_rfl
 i3:=by kernel_rfl
 i4:=by kernel_rfl
 i5:=by kernel_rfl
 i9:=by kernel_rfl
 i20:=by kernel_rfl
 i37:=by kernel_rfl
 i46:=by kernel_rfl
 i51:=by kernel_rfl
 i53:=by kernel_rfl
 i171:=by kernel_rfl
 i173:=by kernel_rfl
 i212:=by kernel_rfl
 i232:=by kernel_rfl
 i233:=by kernel_rfl
 m17:=by kernel_rfl
 m18:=by kernel_rfl
 m19:=by kernel_rfl}
open Go.RowKit Go.Sort Go.Lib in
theorem Tryz.strconv_Itoa(n:Int)(h0: -9223372036854775808≤n)(h1:n≤9223372036854775807)(w:World)(htab:Lib.TabIs Tryz.prog w "internal/strconv.uint64pow10" .u64 Lib.pow10Tab):
 Calls Tryz.prog 127 #[.int .i64 n] w fun e w'=>e= .returned (.string ⟨(Lib.itoa n).toArray⟩)∧∃k os,w'=grow (w.drewN k) os:=Any.strconv_Itoa Tryz.laysM171 n h0 h1 w htab
def Tryz.laysC172_ren:Go.Shelf.Ren:=⟨fun|172=>92|244=>134|245=>135|247=>160|279=>161|280=>162|281=>163|282=>164|287=>185|316=>186|171=>127|205=>187|321=>193|322=>194|243=>151|246=>177|283=>188|284=>189|285=>190|286=>191|129=>196|317=>195|318=>197|319=>198|320=>199|337=>200|338=>201|n=>n,fun|9=>9|3=>3|75=>124|76=>125|4=>4|5=>5|167=>202|37=>167|0=>0|85=>203|2=>2|168=>205|53=>77|175=>226|46=>192|210=>230|127=>198|145=>241|143=>239|21=>21|171=>232|173=>235|212=>243|51=>212|20=>20|213=>244|232=>252|233=>253|80=>171|n=>n,fun|15=>1|16=>2|17=>3|18=>6|19=>7|n=>n⟩
theorem Tryz.laysC172:Go.Proofs.LaysC.n172 Tryz.prog Tryz.laysC172_ren:={
 mixed:=by kernel_rfl
 f129:=Tryz.func196.trans (congrArg some (by kernel_rfl))
 f171:=Tryz.func127.trans (congrArg some (by kernel_rfl))
 f172:=Tryz.func92.trans (congrArg some (by kernel_rfl))
 f205:=Tryz.func187.trans (congrArg some (by kernel_rfl))
 f243:=Tryz.func151.trans (congrArg some (by kernel_rfl))
 f244:=Tryz.func134.trans (congrArg some (by kernel_rfl))
 f245:=Tryz.func135.trans (congrArg some (by kernel_rfl))
 f246:=Tryz.func177.trans (congrArg some (by kernel_rfl))
 f247:=Tryz.func160.trans (congrArg some (by kernel_rfl))
 f279:=Tryz.func161.trans (congrArg some (by kernel_rfl))
 f280:=Tryz.func162.trans (congrArg some (by kernel_rfl))
 f281:=Tryz.func163.trans (congrArg some (by kernel_rfl))
 f282:=Tryz.func164.trans (congrArg some (by kernel_rfl))
 f283:=Tryz.func188.trans (congrArg some (by kernel_rfl))
 f284:=Tryz.func189.trans (congrArg some (by kernel_rfl))
 f285:=Tryz.func190.trans (congrArg some (by kernel_rfl))
 f286:=Tryz.func191.trans (congrArg some (by kernel_rfl))
 f287:=Tryz.func185.trans (congrArg some (by kernel_rfl))
 f316:=Tryz.func186.trans (congrArg some (by kernel_rfl))
 f317:=Tryz.func195.trans (congrArg some (by kernel_rfl))
 f318:=Tryz.func197.trans (congrArg some (by kernel_rfl))
 f319:=Tryz.func198.trans (congrArg some (by kernel_rfl))
 f320:=Tryz.func199.trans (congrArg some (by kernel_rfl))
 f321:=Tryz.func193.trans (congrArg some (by kernel_rfl))
 f322:=Tryz.func194.trans (congrArg some (by kernel_rfl))
 f337:=Tryz.func200.trans (congrArg some (by kernel_rfl))
 f338:=Tryz.func201.trans (congrArg some (by kernel_rfl))
 t0:=Tryz.underlying0
 a0:=Tryz.isAgg0
 z0:=Tryz.sizeOf0
 v0:=Tryz.zeroValue0
 t2:=Tryz.underlying2
 a2:=Tryz.isAgg2
 z2:=Tryz.sizeOf2
 v2:=Tryz.zeroValue2
 t3:=Tryz.underlying3
 a3:=Tryz.isAgg3
 z3:=Tryz.sizeOf3
 v3:=Tryz.zeroValue3
 t4:=Tryz.underlying4
 a4:=Tryz.isAgg4
 z4:=Tryz.sizeOf4
 v4:=Tryz.zeroValue4
 t5:=Tryz.underlying5
 a5:=Tryz.isAgg5
 z5:=Tryz.sizeOf5
 v5:=Tryz.zeroValue5
 t9:=Tryz.underlying9
 a9:=Tryz.isAgg9
 z9:=Tryz.sizeOf9
 v9:=Tryz.zeroValue9
 t20:=Tryz.underlying20
 a20:=Tryz.isAgg20
 z20:=Tryz.sizeOf20
 v20:=Tryz.zeroValue20
 t21:=Tryz.underlying21
 a21:=Tryz.isAgg21
 z21:=Tryz.sizeOf21
 v21:=Tryz.zeroValue21
 t37:=Tryz.underlying167
 a37:=Tryz.isAgg167
 z37:=Tryz.sizeOf167
 v37:=Tryz.zeroValue167
 t46:=Tryz.underlying192
 a46:=Tryz.isAgg192
 z46:=Tryz.sizeOf192
 v46:=Tryz.zeroValue192
 t51:=Tryz.underlying212
 a51:=Tryz.isAgg212
 z51:=Tryz.sizeOf212
 v51:=Tryz.zeroValue212
 t53:=Tryz.underlying77
 a53:=Tryz.isAgg77
 z53:=Tryz.sizeOf77
 v53:=Tryz.zeroValue77
 t75:=Tryz.underlying124
 a75:=Tryz.isAgg124
 z75:=Tryz.sizeOf124
 v75:=Tryz.zeroValue124
 t76:=Tryz.underlying125
 a76:=Tryz.isAgg125
 z76:=Tryz.sizeOf125
 v76:=Tryz.zeroValue125
 t85:=Tryz.underlying203
 a85:=Tryz.isAgg203
 z85:=Tryz.sizeOf203
 v85:=Tryz.zeroValue203
 t127:=Tryz.underlying198
 a127:=Tryz.isAgg198
 z127:=Tryz.sizeOf198
 v127:=Tryz.zeroValue198
 t143:=Tryz.underlying239
 a143:=Tryz.isAgg239
 z143:=Tryz.sizeOf239
 v143:=Tryz.zeroValue239
 t145:=Tryz.underlying241
 a145:=Tryz.isAgg241
 z145:=Tryz.sizeOf241
 v145:=Tryz.zeroValue241
 t167:=Tryz.underlying202
 a167:=Tryz.isAgg202
 z167:=Tryz.sizeOf202
 v167:=Tryz.zeroValue202
 t168:=Tryz.underlying205
 a168:=Tryz.isAgg205
 z168:=Tryz.sizeOf205
 v168:=Tryz.zeroValue205
 t171:=Tryz.underlying232
 a171:=Tryz.isAgg232
 z171:=Tryz.sizeOf232
 v171:=Tryz.zeroValue232
 t173:=Tryz.underlying235
 a173:=Tryz.isAgg235
 z173:=Tryz.sizeOf235
 v173:=Tryz.zeroValue235
 t175:=Tryz.underlying226
 a175:=Tryz.isAgg226
 z175:=Tryz.sizeOf226
 v175:=Tryz.zeroValue226
 t210:=Tryz.underlying230
 a210:=Tryz.isAgg230
 z210:=Tryz.sizeOf230
 v210:=Tryz.zeroValue230
 t212:=Tryz.underlying243
 a212:=Tryz.isAgg243
 z212:=Tryz.sizeOf243
 v212:=Tryz.zeroValue243
 t213:=Tryz.underlying244
 a213:=Tryz.isAgg244
 z213:=Tryz.sizeOf244
 t232:=Tryz.underlying252
 a232:=Tryz.isAgg252
 z232:=Tryz.sizeOf252
 v232:=Tryz.zeroValue252
 t233:=Tryz.underlying253
 a233:=Tryz.isAgg253
 z233:=Tryz.sizeOf253
 v233:=Tryz.zeroValue253
 g15:=by kernel_rfl
 g16:=by kernel_rfl
 g17:=by kernel_rfl
 g18:=by kernel_rfl
 g19:=by kernel_rfl
 t80:=Tryz.underlying171
 a80:=Tryz.isAgg171
 z80:=Tryz.sizeOf171
 v80:=Tryz.zeroValue171
 i0:=by kernel_rfl
 i2:=by kernel_rfl
 i3:=by kernel_rfl
 i4:=by kernel_rfl
 i5:=by kernel_rfl
 i9:=by kernel_rfl
 i20:=by kernel_rfl
 i21:=by kernel_rfl
 i37:=by kernel_rfl
 i46:=by kernel_rfl
 i51:=by kernel_rfl
 i53:=by kernel_rfl
 i75:=by kernel_rfl
 i76:=by kernel_rfl
 i80:=by kernel_rfl
 i85:=by kernel_rfl
 i127:=by kernel_rfl
 i143:=by kernel_rfl
 i145:=by kernel_rfl
 i167:=by kernel_rfl
 i168:=by kernel_rfl
 i171:=by kernel_rfl
 i173:=by kernel_rfl
 i175:=by kernel_rfl
 i210:=by kernel_rfl
 i212:=by kernel_rfl
 i232:=by kernel_rfl
 i233:=by kernel_rfl
 m15:=by kernel_rfl
 m16:=by kernel_rfl
 m17:=by kernel_rfl
 m18:=by kernel_rfl
 m19:=by kernel_rfl
 c0:=by kernel_rfl
 c2:=by kernel_rfl
 c3:=by kernel_rfl
 c4:=by kernel_rfl
 c5:=by kernel_rfl
 c9:=by kernel_rfl
 c20:=by kernel_rfl
 c21:=by kernel_rfl
 c37:=by kernel_rfl
 c46:=by kernel_rfl
 c51:=by kernel_rfl
 c53:=by kernel_rfl
 c75:=by kernel_rfl
 c76:=by kernel_rfl
 c80:=by kernel_rfl
 c85:=by kernel_rfl
 c127:=by kernel_rfl
 c143:=by kernel_rfl
 c145:=by kernel_rfl
 c167:=by kernel_rfl
 c168:=by kernel_rfl
 c171:=by kernel_rfl
 c173:=by kernel_rfl
 c175:=by kernel_rfl
 c210:=by kernel_rfl
 c212:=by kernel_rfl
 c213:=by kernel_rfl
 c232:=by kernel_rfl
 c233:=by kernel_rfl}
open Go.RowKit in
theorem Tryz.strconv_Atoi_ok(s:ByteArray)(hmax:s.size≤9223372036854775806)(v:Int)(h:Lib.atoiAll s.data.toList= .ok v)(w:World):
 Calls Tryz.prog 92 #[.string s] w fun e w'=>e= .returned (.tuple #[.int .i64 v, .nilIface])∧(w'=w∨∃t,w'=Lib.bytesWorld w 5 t):=Any.strconv_Atoi_ok Tryz.laysC172 s hmax v h w
open Go.RowKit in
theorem Tryz.strconv_Atoi_syntax(s:ByteArray)(hlim:s.size≤281474976710656)(h:Lib.atoiAll s.data.toList=Lib.atoiAll [])(ev:Value)(w:World)(hv:w.cell? ⟨1,0,none⟩=some ev)(hev:ev= .nilIface∨∃te pe,ev= .iface te pe):
 Calls Tryz.prog 92 #[.string s] w fun e w'=>∃N,e= .returned (.tuple #[.int .i64 (0), .iface 205 (.pointer (some ⟨N,0,none⟩))])∧w.heap.size≤N∧w'.heap[N]? =some (.cells #[.string ⟨#[65,116,111,105]⟩, .string s,ev] 230 (0,0))∧Below w.heap.size w w':=Any.strconv_Atoi_syntax Tryz.laysC172 s hlim h ev w hv hev
open Go.RowKit in
theorem Tryz.strconv_Atoi_range(s:ByteArray)(hlim:s.size≤281474976710656)(h:Lib.atoiAll s.data.toList= .range)(ev:Value)(w:World)(hv:w.cell? ⟨2,0,none⟩=some ev)(hev:ev= .nilIface∨∃te pe,ev= .iface te pe):
 Calls Tryz.prog 92 #[.string s] w fun e w'=>∃N,e= .returned (.tuple #[.int .i64 (Lib.atoiSat s.data.toList), .iface 205 (.pointer (some ⟨N,0,none⟩))])∧w.heap.size≤N∧w'.heap[N]? =some (.cells #[.string ⟨#[65,116,111,105]⟩, .string s,ev] 230 (0,0))∧Below w.heap.size w w':=Any.strconv_Atoi_range Tryz.laysC172 s hlim h ev w hv hev
end Go.Proofs
end
section
set_option maxRecDepth 100000
open Go Go.Proofs Go.RowKit
namespace Go.A
def powV:List Value:=Lib.pow10Tab.map fun z=> .int .u64 z
structure Glob (h:Heap):Prop where
 pow:h.get 3=some (.cells powV false 1)
 syn:∃t p,h.get 1=some (.cells [.iface t p] false 1)
 rng:∃t p,h.get 2=some (.cells [.iface t p] false 1)
open Classical in
noncomputable def pItoa:List Value→Heap→Option (Value×Heap)
 |[.int .i64 n],h=>if Glob h∧ -9223372036854775808≤n∧n≤9223372036854775807 then some (.string ⟨(Lib.itoa n).toArray⟩,h)else none
 |_,_=>none
def atoiV(s:List UInt8):Int:=match Lib.atoiAll s with
 | .ok v=>v
 | .range=>Lib.atoiSat s
 |_=>0
open Classical in
noncomputable def pAtoi:List Value→Heap→Option (Value×Heap)
 |[.string s],h=>if Glob h∧s.size≤281474976710656 then match Lib.atoiAll s.data.toList with
  | .ok v=>some (.tuple #[.int .i64 v, .nilIface],h)
  | .range=>some (.tuple #[.int .i64 (Lib.atoiSat s.data.toList), .iface 205 (.pointer (some ⟨h.next,0,none⟩))],h.push (.cells [] false 1))
  |_=>some (.tuple #[.int .i64 0, .iface 205 (.pointer (some ⟨h.next,0,none⟩))],h.push (.cells [] false 1))
  else none
 |_,_=>none
theorem glob_cells{μ:Mu}{h:Heap}{w:World}(hR:R Tryz.prog μ h w){g:Nat}(hg:g<Tryz.prog.globals.size){vs:List Value}{sz:Nat}(hb:h.get g=some (.cells vs false sz))(hne:vs≠[]):
 ∃c t fz,w.heap[g]? =some (.cells c t fz)∧c.size=vs.length∧∀i,i<vs.length→∃v',c[i]? =some v'∧VR μ (gv vs i) v':=by
 obtain⟨k,hk,rfl,hd,hx⟩:=hR.glob g _ hg hb
 obtain⟨_,c,t,fz,h1,h2,h3,h4,_⟩:=hR.obj _ _ hb k hk
 have hl:(AObj.cells vs false sz).live=true:=by cases vs with|nil=>exact absurd rfl hne|cons _ _=>rfl
 refine⟨c,t,fz,h1,(hx rfl hl c t fz h1).symm,fun i hi=> ?_⟩
 have:=h4 i hi
 rw[hd,Nat.zero_add]at this
 exact this
theorem globals_size:Tryz.prog.globals.size=8:=of_decide_eq_true (by kernel_rfl)
theorem pow_named:Tryz.prog.globalNamed "internal/strconv.uint64pow10" =some 3:=by kernel_rfl
theorem powV_len:powV.length=Lib.pow10Tab.length:=by simp[powV]
theorem tab_of{μ:Mu}{h:Heap}{w:World}(hR:R Tryz.prog μ h w)(hb:h.get 3=some (.cells powV false 1)):Lib.TabIs Tryz.prog w "internal/strconv.uint64pow10" .u64 Lib.pow10Tab:=by
 obtain⟨c,t,fz,h1,h2,h3⟩:=glob_cells hR (by rw[globals_size];omega) hb (by intro e;have:=congrArg List.length e;rw[powV_len]at this;revert this;decide)
 have hc:c=powV.toArray:=by
  apply Array.ext
  ·simpa using h2
  ·intro i hi hi2
   obtain⟨v',q1,q2⟩:=h3 i (by simpa using hi2)
   have hi3:i<powV.length:=by simpa using hi2
   have e1:gv powV i=powV[i]:=by unfold gv;rw[lget_eq,List.getElem?_eq_getElem hi3];rfl
   have e2:∃z:Int,powV[i]= .int .u64 z:=⟨_,by simp[powV];rfl⟩
   obtain⟨z,hz⟩:=e2
   rw[e1,hz]at q2
   have e3:c[i]=v':=Option.some.inj ((Array.getElem?_eq_getElem hi).symm.trans q1)
   rw[e3,List.getElem_toArray,hz]
   cases q2;rfl
 unfold Lib.TabIs World.var?
 rw[pow_named]
 show(match w.heap[3]? with|some (.cells cs _ _)=>some cs|_=>none)=_
 rw[h1,hc]
 rfl
theorem pItoa_ok{fn:Func}(hf:Tryz.prog.funcs[127]? =some fn)(hn:fn.name≠ "runtime.NumGoroutine")(hb:fn.body.isSome=true):PrimOk Tryz.prog 127 pItoa:=by
 intro args h v h' hp _
 unfold pItoa at hp
 split at hp
 ·rename_i n
  split at hp
  ·rename_i q
   cases hp
   refine⟨.refl _ _,fun μ w args' hR ha=> ?_⟩
   obtain⟨x',rfl,hx⟩:=ha.one
   cases hx
   refine next_of_calls hf hn hb (Tryz.strconv_Itoa n q.2.1 q.2.2 w (tab_of hR q.1.pow)) fun e w' ⟨h1,k,os,h2⟩=> ?_
   subst h1
   have hg:w.heap.size≤w'.heap.size∧(∀r,r<w.heap.size→w'.heap[r]? =w.heap[r]?)∧Same w w':=by
    subst h2
    refine⟨by simp[Sort.grow,World.drewN],fun r hr=> ?_,⟨rfl,rfl,rfl⟩⟩
    simp[Sort.grow,World.drewN,Array.getElem?_append_left hr]
   obtain⟨g1,g2⟩:=hR.grow hg.1 hg.2.1 hg.2.2
   exact⟨μ, .string _,g1,g2⟩
  ·cases hp
 ·cases hp
theorem err_res{μ:Mu}{h:Heap}{w w':World}(hR:R Tryz.prog μ h w)(hb:Below w.heap.size w w'){N:Nat}{c:Array Value}{t:TypeId}{fz:Nat×Nat}(hN:w'.heap[N]? =some (.cells c t fz))(z:Int):
 CallRes Tryz.prog μ h w (.ret (.tuple #[.int .i64 z, .iface 205 (.pointer (some ⟨h.next,0,none⟩))])) (h.push (.cells [] false 1)) (.returned (.tuple #[.int .i64 z, .iface 205 (.pointer (some ⟨N,0,none⟩))])) w':=by
 obtain⟨g1,g2⟩:=hR.grow hb.size hb.block ⟨hb.os,hb.tape,hb.output⟩
 have hlt:=(Array.getElem?_eq_some_iff.1 hN).1
 obtain⟨g3,g4⟩:=g1.dullNew (sz:=1) (k:=⟨N,0,0,1⟩) hlt (by
  intro k hk
  unfold upd at hk
  rw[if_pos rfl]at hk
  cases hk
  exact⟨rfl,c,t,fz,hN,Nat.le_refl _,Nat.zero_le _,fun i hi=>absurd hi (Nat.not_lt_zero i),fun h=>Bool.noConfusion h⟩)
 refine⟨_,VR.tupleL (.cons (.int _ _) (.cons (.iface ?_) .nil)),g3,g2.trans g4 (Nat.le_refl _)⟩
 have:upd μ h.next ⟨N,0,0,1⟩ h.next=some ⟨N,0,0,1⟩:=by unfold upd;rw[if_pos rfl]
 exact VR.ptr this
theorem pAtoi_ok{fn:Func}(hf:Tryz.prog.funcs[92]? =some fn)(hn:fn.name≠ "runtime.NumGoroutine")(hb:fn.body.isSome=true):PrimOk Tryz.prog 92 pAtoi:=by
 intro args h v h' hp _
 unfold pAtoi at hp
 split at hp
 ·rename_i s
  split at hp
  ·rename_i q
   obtain⟨hG,hs⟩:=q
   split at hp
   ·rename_i z hz
    cases hp
    refine⟨.refl _ _,fun μ w args' hR ha=> ?_⟩
    obtain⟨x',rfl,hx⟩:=ha.one
    cases hx
    refine next_of_calls hf hn hb (Tryz.strconv_Atoi_ok s (by omega) z hz w) fun e w' ⟨h1,h2⟩=> ?_
    subst h1
    have hg:w.heap.size≤w'.heap.size∧(∀r,r<w.heap.size→w'.heap[r]? =w.heap[r]?)∧Same w w':=by
     rcases h2 with rfl|⟨t,rfl⟩
     ·exact⟨Nat.le_refl _,fun _ _=>rfl, .refl _⟩
     ·exact⟨by rw[Lib.bytesWorld_size];omega,fun r hr=>Lib.bytesWorld_at_old w _ _ r hr,⟨rfl,rfl,rfl⟩⟩
    obtain⟨g1,g2⟩:=hR.grow hg.1 hg.2.1 hg.2.2
    exact⟨μ,VR.tupleL (.cons (.int _ _) (.cons .nilIface .nil)),g1,g2⟩
   ·rename_i hz
    cases hp
    refine⟨AS.push _ _ _,fun μ w args' hR ha=> ?_⟩
    obtain⟨x',rfl,hx⟩:=ha.one
    cases hx
    obtain⟨t,p,hsyn⟩:=hG.rng
    obtain⟨c,t2,fz,q1,q2,q3⟩:=glob_cells hR (g:=2) (by rw[globals_size];omega) hsyn (by simp)
    obtain⟨v',q4,q5⟩:=q3 0 (by simp)
    have q6:∃te pe,v'= .iface te pe:=by
     cases q5 with
     |iface _=>exact⟨_,_,rfl⟩
    refine next_of_calls hf hn hb (Tryz.strconv_Atoi_range s hs hz v' w (by rw[cell_of q1];exact q4) (.inr q6)) fun e w' ⟨N,h1,_,h3,h4⟩=> ?_
    subst h1
    exact err_res hR h4 h3 _
   ·rename_i n1 n2
    have hz:Lib.atoiAll s.data.toList=Lib.atoiAll []:=by
     cases e:Lib.atoiAll s.data.toList with
     |ok z=>exact(n1 z e).elim
     |range=>exact(n2 e).elim
     |_=>rfl
    cases hp
    refine⟨AS.push _ _ _,fun μ w args' hR ha=> ?_⟩
    obtain⟨x',rfl,hx⟩:=ha.one
    cases hx
    obtain⟨t,p,hsyn⟩:=hG.syn
    obtain⟨c,t2,fz,q1,q2,q3⟩:=glob_cells hR (g:=1) (by rw[globals_size];omega) hsyn (by simp)
    obtain⟨v',q4,q5⟩:=q3 0 (by simp)
    have q6:∃te pe,v'= .iface te pe:=by
     cases q5 with
     |iface _=>exact⟨_,_,rfl⟩
    refine next_of_calls hf hn hb (Tryz.strconv_Atoi_syntax s hs hz v' w (by rw[cell_of q1];exact q4) (.inr q6)) fun e w' ⟨N,h1,_,h3,h4⟩=> ?_
    subst h1
    exact err_res hR h4 h3 0
  ·cases hp
 ·cases hp
end Go.A
end
