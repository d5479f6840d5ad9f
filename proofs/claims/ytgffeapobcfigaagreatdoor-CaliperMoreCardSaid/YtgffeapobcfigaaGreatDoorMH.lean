/- The table is the program. -/
import Derived.Test.YtgffeapobcfigaaGreatDoorMV
import Derived.Test.YtgffeapobcfigaaGreatDoorMD
import Derived.Test.YtgffeapobcfigaaGreatDoorProg
import Derived.KernelRfl
import Derived.Test.YtgffeapobcfigaaGreatDoorMG
set_option linter.all false
set_option maxRecDepth 100000
open Go Go.A Go.Proofs
namespace Go.A.Pk
def IA:Tr:=(.node (.node .nil 35 f35 .nil) 121 f121 .nil)
def TB:Nat→Option af:=IA.get
theorem b35:aO Tryz.prog Tryz.f35 [[2,3],[4]]=some f35:=by kernel_rfl
theorem Qo:aO Tryz.prog Tryz.f121 [[2,3,4],[2,3,4,6],[2,3,4,6,7],[2,3,4,5,6],[2,3,4,6],[2,3,4,6],[4]]=some f121:=by kernel_rfl
theorem Qk:IA.all (Entry Tryz.prog):=by
 unfold IA
 exact(Tr.aa (Tr.aa Tr.all_nil (.of Tryz.func35 b35) Tr.all_nil) (.of Tryz.func121 Qo) Tr.all_nil)
theorem Ia:dW Tryz.prog TB:=oA (by kernel_rfl) Qk
theorem lM:Tryz.prog.globals.size≤1000:=of_decide_eq_true (by kernel_rfl)
theorem Rv:Entry Tryz.prog 35 (.jW pIn):= .jW (Hs Ia (n:=1000) Tryz.func35 (of_decide_eq_true (by kernel_rfl)) (by kernel_rfl) lM (by kernel_rfl) (Kc Ia.bt (by kernel_rfl) (by kernel_rfl)))
theorem c21:aO Tryz.prog Tryz.f21 [[],[1,2],[1,2,4],[1,2,4,5,6,7,8],[1,2,4,5,6,7,8,9,10],[1,2,4,5,6,7,8,9,10,11,12],[1,2,4,5,6,7,8,9,10,11,12,13,14],[1,2,4,5,6,7,8,9,10,11,12,13,14,16],[1,2,4,5,6,7,8,9,10,11,12,13,14,16,17,18],[1,2,4,5,6,7,8,9,10,11,12,13,14,16,17,18,19,20],[1,5,6,7,9,11,13,17,19,132],[0],[9,11,13,17,19,21],[0]]=some f21:=by kernel_rfl
theorem c22:aO Tryz.prog Tryz.f22 [[2,3],[2,3,12],[4,5],[2,3,14],[4,5],[4,5]]=some f22:=by kernel_rfl
theorem c24:aO Tryz.prog Tryz.f24 [[0,1],[0,1,10],[4],[0,1,5],[0,1,5,14],[0,1,5,25],[4],[0,1,5],[4]]=some f24:=by kernel_rfl
theorem c27:aO Tryz.prog Tryz.f27 [[1,2,5,8,9],[8,9,12,13],[8,9,12,13,22],[10,11],[8,9,12,26],[10,11],[10,11]]=some f27:=by kernel_rfl
theorem c29:aO Tryz.prog Tryz.f29 [[1,2,3,4,5],[1,3,4,12,13],[1,3,4,12,13,30],[10,11],[1,3,4,12,34],[10,11],[1,3,4,12,14],[1,3,4,12,14,36,37,38],[1,3,4,12,14,36,37,38,39],[1,3,4,12,14,15,16,36,37,38],[1,3,4,12,14,15,16,17,36,37,38],[1,3,4,12,14,16,17,36,37,38,76],[10,11],[1,3,4,12,14,16,17,36,37,38],[1,3,4,12,14,36,37,38],[1,3,4,12,14,36,37,38],[4,12,14,87],[4,12,14,87,89],[4,12,14,18,19,87],[4,12,14,18,19,21,87],[4,12,14,87,108],[10,11],[10,11]]=some f29:=by kernel_rfl
theorem c33:aO Tryz.prog Tryz.f33 [[2,3],[2,3,16],[4,5],[2,3,7],[2,3,24],[4,5],[9],[32],[4,5],[4,5]]=some f33:=by kernel_rfl
theorem c34:aO Tryz.prog Tryz.f34 [[2,3,4],[2,3,4,11],[4,5],[2,3,4,6],[2,3,4,6,7],[4,6,7,15],[6,7,8],[],[4,5]]=some f34:=by kernel_rfl
theorem c36:aO Tryz.prog Tryz.f36 [[1,2,3,6],[3,6,10,11],[3,6,10,11,23],[6,7,8,9],[3,6,10,12],[3,6,10,34,35,36],[3,6,10,34,36,37],[3,6,10,14],[3,6,10,14,15],[6,10,14,15,46],[6,14,15],[6,7,8,9],[3,6,10,34,35,36],[6,7,8,9]]=some f36:=by kernel_rfl
theorem c37:aO Tryz.prog Tryz.f37 [[1,2,3,6],[3,6,8,9],[3,6,8,9,18],[6,7],[6,10],[6,10,29],[6,7],[6,7]]=some f37:=by kernel_rfl
theorem c38:aO Tryz.prog Tryz.f38 [[2,3],[4]]=some f38:=by kernel_rfl
theorem c39:aO Tryz.prog Tryz.f39 [[1,2,3],[8,9],[8,9,19],[6,7],[10],[10,25],[6,7],[6,7]]=some f39:=by kernel_rfl
theorem c40:aO Tryz.prog Tryz.f40 [[0],[0,7,8,9],[0,7,8,9,10],[0,4,5,7,8,9],[0,4,6,7,8,9],[0,4,6,7,8,9,21],[2,3],[0,7,8,9],[2,3]]=some f40:=by kernel_rfl
theorem c44:aO Tryz.prog Tryz.f44 [[0,3],[0,3,7],[0,3,7,15],[4,5],[8],[4,5]]=some f44:=by kernel_rfl
theorem c47:aO Tryz.prog Tryz.f47 [[1],[1,3],[1,3,13],[1,3,13,14],[1,3,13,14],[3],[1,3,29],[3],[3],[43],[2],[2]]=some f47:=by kernel_rfl
theorem c62:aO Tryz.prog Tryz.f62 [[0],[0,5],[2],[7],[2],[2]]=some f62:=by kernel_rfl
theorem c72:aO Tryz.prog Tryz.f72 [[2,3],[2,3,11],[4,5],[2,3,6],[6,14],[6,8],[],[4,5]]=some f72:=by kernel_rfl
theorem c75:aO Tryz.prog Tryz.f75 [[0,1],[0,1,10],[4],[0,1,5],[0,1,5,14],[0,1,5,25],[4],[0,1,5],[4]]=some f75:=by kernel_rfl
theorem c85:aO Tryz.prog Tryz.f85 [[0],[0]]=some f85:=by kernel_rfl
theorem c86:aO Tryz.prog Tryz.f86 [[],[0]]=some f86:=by kernel_rfl
theorem c87:aO Tryz.prog Tryz.f87 [[0],[0]]=some f87:=by kernel_rfl
theorem c88:aO Tryz.prog Tryz.f88 [[],[0]]=some f88:=by kernel_rfl
theorem c89:aO Tryz.prog Tryz.f89 [[1],[2]]=some f89:=by kernel_rfl
theorem c90:aO Tryz.prog Tryz.f90 [[1],[2]]=some f90:=by kernel_rfl
theorem c91:aO Tryz.prog Tryz.f91 [[1],[2]]=some f91:=by kernel_rfl
theorem c92:aO Tryz.prog Tryz.f92 [[2,3],[2,5],[2,5,16,17],[2,5,16,17,18],[2,5,7,16,17],[2,5,16,17],[2,5,16,17],[5],[5],[4]]=some f92:=by kernel_rfl
theorem c96:aO Tryz.prog Tryz.f96 [[1,2,3],[3,8,9],[8,9,22],[8,9],[8,9,24],[6,7],[8],[6,7]]=some f96:=by kernel_rfl
theorem c97:aO Tryz.prog Tryz.f97 [[0,2],[0,2],[2],[2]]=some f97:=by kernel_rfl
theorem c98:aO Tryz.prog Tryz.f98 [[]]=some f98:=by kernel_rfl
theorem c99:aO Tryz.prog Tryz.f99 [[3,4,5],[3,4,5,6],[3,4,5,6,7],[4,5,6,7],[4,5,6,7,8],[4,5,6,7,8,17],[4,5,6,7,8],[4,6,7,8],[4,6,7,8,9],[4,6,7,8,9,22,23,24],[4,6,7,8,9,22,23,24,25],[4,6,7,8,9,11,22,23,24],[4,6,7,8,9,22,23,24,32,33,34],[4,6,7,8,9,22,23,24,32,33,34,35],[4,6,7,8,9,13,22,23,24,32,33,34],[4,6,7,8,9,13,22,23,24,32,33,34],[4,6,7,8,9,22,23,24,32,33,34],[4,6,7,8,9,22,23,24,32,33,34],[4,6,7,8,9,22,23,24],[4,6],[]]=some f99:=by kernel_rfl
theorem Qv:aO Tryz.prog Tryz.f104 [[0,1],[4]]=some f104:=by kernel_rfl
theorem Qw:aO Tryz.prog Tryz.f105 [[0],[2]]=some f105:=by kernel_rfl
theorem NZ:aO Tryz.prog Tryz.f106 [[0,1,2],[6]]=some f106:=by kernel_rfl
theorem Qx:aO Tryz.prog Tryz.f107 [[0,1],[0,1,9,10,11],[0,1,9,10,11,12],[0,1,5,6,9,10,11],[0,1,5,6,9,10,11,19],[4],[0,1,6,7,9,10,11],[0,1,8,9,10,11],[0,1,8,9,10,11,28],[4],[0,1,9,10,11],[35],[4],[4]]=some f107:=by kernel_rfl
theorem N0:aO Tryz.prog Tryz.f108 [[0,3],[0,3,4,6],[0,3,6,15],[4,5],[0,3,6,20,21],[0,3,6,20,21,22],[0,3,6,7,20,21],[0,3,6,20,21,29],[4,5],[0,3,6,20,21],[4,5]]=some f108:=by kernel_rfl
theorem Qy:aO Tryz.prog Tryz.f109 [[4,5,6,7,8],[4,5,6,7,8,18],[4,5,6,7,8,9],[4,5,6,7,8,9,10],[4,5,6,7,8,9,10,20,21],[4,5,6,7,8,9,10,20,21,22],[4,5,6,7,8,9,10,12,20,21],[4,5,6,7,8,9,10,13,20,21],[4,5,6,7,8,9,10,13,14,20,21],[4,5,6,7,8,9,10,20,21,62],[4,5,6,7,8,9,10,20,21],[4,5,6,7,8,9,10,20,21],[8,65],[],[8]]=some f109:=by kernel_rfl
theorem N1:aO Tryz.prog Tryz.f120 [[2,3],[4]]=some f120:=by kernel_rfl
theorem N2:aO Tryz.prog Tryz.f121 [[2,3,4],[2,3,4,6],[2,3,4,6,7],[2,3,4,5,6],[2,3,4,6],[2,3,4,6],[4]]=some f121:=by kernel_rfl
theorem Qz:aO Tryz.prog Tryz.f122 [[1,2,4],[1,4,5],[4,5,10,11,12],[4,5,10,11,12,13],[4,5,7,10,11,12],[4,5,7,10,11,12,18],[4,5,10,11,12],[4,5,10,11,12],[4,5,10,11,12],[4]]=some f122:=by kernel_rfl
theorem N3:aO Tryz.prog Tryz.f123 [[1],[2]]=some f123:=by kernel_rfl
theorem N4:aO Tryz.prog Tryz.f124 [[2,3,4],[2,3,4,6],[2,3,4,6,7],[2,3,4,5,6],[2,3,4,6],[2,3,4,6],[4]]=some f124:=by kernel_rfl
theorem QC:aO Tryz.prog Tryz.f125 [[0,1,5],[0,1,5,7],[1,5,7,10,11,12],[1,5,7,10,11,12,13],[1,5,7,9,10,11,12],[1,5,7,9,10,11,12,29],[1,5,7,10,11,12],[1,5,7,10,11,12],[6]]=some f125:=by kernel_rfl
theorem N5:aO Tryz.prog Tryz.f126 [[1],[2]]=some f126:=by kernel_rfl
theorem N6:aO Tryz.prog Tryz.f127 [[1],[2]]=some f127:=by kernel_rfl
theorem N7:aO Tryz.prog Tryz.f128 [[2,3],[2,3,5,6],[2,3,5,20],[4],[2,3,7],[2,3,7,9],[2,3,7,28],[2,3,7],[2,3,7,31],[2,3,7,10],[],[7],[4]]=some f128:=by kernel_rfl
theorem QD:aO Tryz.prog Tryz.f129 [[0,3],[0,3,5],[0,3,5,7],[4],[0,3,5,11],[4],[0,3,5,15],[4],[0,3,5,22],[4],[0,3,5,38],[4],[0,3,6],[0,3,57],[4],[61],[4],[4]]=some f129:=by kernel_rfl
theorem QE:aO Tryz.prog Tryz.f131 [[0],[0,4],[2],[2]]=some f131:=by kernel_rfl
theorem QF:aO Tryz.prog Tryz.f132 [[0,1],[0,1,5],[0,1,5,12],[4],[0,1,5,6],[0,1,5,6,19],[0,1,5,6,7],[0,1,5,6,7,29],[0,1,5,6],[0,1,5,6],[0,1,5,6],[0,5],[4]]=some f132:=by kernel_rfl
theorem QG:aO Tryz.prog Tryz.f133 [[1,2],[3]]=some f133:=by kernel_rfl
theorem QI:aO Tryz.prog Tryz.f134 [[1,2],[3]]=some f134:=by kernel_rfl
theorem QJ:aO Tryz.prog Tryz.f135 [[0,3],[4]]=some f135:=by kernel_rfl
theorem N8:aO Tryz.prog Tryz.f141 [[1,2,3],[1,2,3,11],[6,7],[1,2,3,14],[6,7],[1,2,3,16],[6,7],[1,2,3,8],[1,2,3,8,20],[6,7],[6,7]]=some f141:=by kernel_rfl
theorem N9:aO Tryz.prog Tryz.f143 [[0,3,4],[0,3,4,6],[0,3,4,6,17,18,19],[0,3,4,6,17,18,19,20],[0,3,4,6,7,8,17,18,19],[0,3,4,6,8,17,18,19,27],[0,3,4,6,17,18,19],[0,3,4,6,17,18,19],[4,5]]=some f143:=by kernel_rfl
theorem Oa:aO Tryz.prog Tryz.f147 [[2,3],[4]]=some f147:=by kernel_rfl
theorem Oc:aO Tryz.prog Tryz.f149 [[1,2,3,6],[3,6],[6]]=some f149:=by kernel_rfl
theorem Od:aO Tryz.prog Tryz.f155 [[0,1],[4]]=some f155:=by kernel_rfl
theorem Oe:aO Tryz.prog Tryz.f156 [[1],[2]]=some f156:=by kernel_rfl
theorem Of:aO Tryz.prog Tryz.f167 [[0,1],[0],[4]]=some f167:=by kernel_rfl
theorem QK:aO Tryz.prog Tryz.f168 [[2,3],[4]]=some f168:=by kernel_rfl
theorem Og:aO Tryz.prog Tryz.f174 [[2,3,4],[2,3,4,6],[2,3,4,6,7],[2,3,4,5,6],[2,3,4,6],[2,3,4,6],[4]]=some f174:=by kernel_rfl
theorem Oh:aO Tryz.prog Tryz.f188 [[1],[1,3],[3,6,7],[3,6,7,8],[3,5,6,7],[3,6,7],[3,6,7],[2]]=some f188:=by kernel_rfl
theorem QN:aO Tryz.prog Tryz.f189 [[0,1,4],[]]=some f189:=by kernel_rfl
theorem QO:aO Tryz.prog Tryz.f190 [[2,3],[4]]=some f190:=by kernel_rfl
theorem QS:aO Tryz.prog Tryz.f191 [[0,1],[0,1,9,10,11],[0,1,9,10,11,12],[0,1,5,6,9,10,11],[0,1,5,6,9,10,11,19],[4],[0,1,6,7,9,10,11],[0,1,8,9,10,11],[0,1,8,9,10,11,28],[4],[0,1,9,10,11],[35],[4],[4]]=some f191:=by kernel_rfl
theorem Oi:aO Tryz.prog Tryz.f192 [[0],[0,8],[2],[0,3],[0,3,13],[0,3,25],[0,3,4],[0,3,4,5],[0,3,4,5,32],[0,3,4,5,44],[0,3,4,5],[0,3,4,5],[0,3,4,5],[0,3],[2],[0,3],[2]]=some f192:=by kernel_rfl
theorem Oj:aO Tryz.prog Tryz.f193 [[0,1],[0,1,5],[0,1,5,12],[4],[0,1,5,6],[0,1,5,6,19],[0,1,5,6,7],[0,1,5,6,7,29],[0,1,5,6],[0,1,5,6],[0,1,5,6],[0,5],[4]]=some f193:=by kernel_rfl
theorem Ol:aO Tryz.prog Tryz.f194 [[0],[0,4],[2],[2]]=some f194:=by kernel_rfl
theorem Om:aO Tryz.prog Tryz.f195 [[1,2],[3]]=some f195:=by kernel_rfl
theorem On:aO Tryz.prog Tryz.f196 [[0,1],[4]]=some f196:=by kernel_rfl
theorem Oo:aO Tryz.prog Tryz.f197 [[1,2],[3]]=some f197:=by kernel_rfl
theorem Oq:aO Tryz.prog Tryz.f201 [[0,7,8,9],[0,7,8,9,10],[0,3,7,8,9],[0,7,8,9],[0,7,8,9]]=some f201:=by kernel_rfl
theorem QT:aO Tryz.prog Tryz.f202 [[0,1],[0,1,6],[0,1,3],[0,1,13],[0],[]]=some f202:=by kernel_rfl
theorem QU:aO Tryz.prog Tryz.f203 [[1,2,3,4,5,6,7,8,9],[1,2,3,4,5,6,7,8,9,13,14],[1,2,3,4,5,6,7,8,9,13,14,23],[],[1,3,4,5,6,7,8,9],[1,3,4,5,7,8,9],[1,3,4,5,7,8,9,15],[1,3,4,5,7,8,9,15],[1,3,5,7,8,9,15],[1,3,5,8,9,15],[1,3,5,8,9,15],[]]=some f203:=by kernel_rfl
theorem QV:aO Tryz.prog Tryz.f204 [[3],[]]=some f204:=by kernel_rfl
theorem QW:aO Tryz.prog Tryz.f205 [[0,1],[0,1,7,8],[0,1,7,8,9],[0,1,5,7,8],[0,1,5,7,8,16],[4],[0,1,7,8],[4]]=some f205:=by kernel_rfl
theorem QX:aO Tryz.prog Tryz.f206 [[0,1],[0,1,5],[0,1,5,6],[0,1,6,11],[12],[4],[4],[0,1,13],[4],[0,1,16],[4],[19],[4],[4]]=some f206:=by kernel_rfl
theorem Ot:aO Tryz.prog Tryz.f207 [[0,3,5,6],[0,3,5,6,9],[0,5,6,9,18,19,20],[0,5,6,9,18,19,20,21],[0,5,6,9,11,18,19,20],[0,5,6,9,11,18,19,20,24],[9],[0,5,6,9,18,19,20,28],[0,5,6,9,18,19,20],[0,5,6,9,18,19,20],[8]]=some f207:=by kernel_rfl
theorem Ou:aO Tryz.prog Tryz.f209 [[0,1,2,4,5],[0,1,2,4,27],[0,1,2,4,28],[0,1,2,4,28,29],[0,1,2,4,6,28],[0,1,2,4,6,7,28],[0,1,2,4,6,7,28],[0,1,2,4,6,7,8,9,28],[0,1,2,4,6,7,8,9,10,28],[0,1,2,4,6,7,8,9,10,28,61],[0,1,2,4,6,7,8,9,10,11,28],[0,1,2,4,6,7,8,9,10,11,28,77],[0,1,2,4,6,7,8,9,10,11,12,28],[0,1,2,4,6,7,8,9,10,11,12,28,93],[0,1,2,4,6,7,8,9,10,11,12,13,28],[0,1,2,4,6,7,8,9,10,11,12,28,114],[0,1,2,4,6,7,8,9,10,11,12,28],[0,1,2,4,6,7,8,9,10,11,28],[0,1,2,4,6,7,8,9,10,28],[0,1,2,4,28]]=some f209:=by kernel_rfl
theorem Ov:aO Tryz.prog Tryz.f210 [[1,2],[1,2,10],[2,3],[1,2,4],[2,4,15],[4,5],[5,6,7],[5,7],[],[2,3]]=some f210:=by kernel_rfl
theorem Ow:aO Tryz.prog Tryz.f211 [[2,3,4],[4,5],[4]]=some f211:=by kernel_rfl
theorem Ox:aO Tryz.prog Tryz.f212 [[1,2,3,4,8],[1,2,3,4,8,9],[1,2,3,4,8,9,10],[1,2,3,4,8,9,10,21],[1,2,3,4,8,9,10,11],[1,2,3,4,8,9,10,11,29],[1,2,3,4,8,9,10],[1,2,3,4,8,9,10],[1,2,3,4,8,9,10],[8]]=some f212:=by kernel_rfl
theorem Oy:aO Tryz.prog Tryz.f213 [[0],[2]]=some f213:=by kernel_rfl
theorem Oz:aO Tryz.prog Tryz.f214 [[1],[2]]=some f214:=by kernel_rfl
theorem OA:aO Tryz.prog Tryz.f215 [[0,1,2],[6]]=some f215:=by kernel_rfl
theorem QY:aO Tryz.prog Tryz.f216 [[1],[2]]=some f216:=by kernel_rfl
theorem QZ:aO Tryz.prog Tryz.f217 [[1,2],[3]]=some f217:=by kernel_rfl
theorem Q0:aO Tryz.prog Tryz.f218 [[0,1],[4]]=some f218:=by kernel_rfl
theorem Q6:aO Tryz.prog Tryz.f219 [[0,1],[0,1,7,8],[0,1,7,8,9],[0,1,5,7,8],[0,1,5,7,8,16],[4],[0,1,7,8],[4]]=some f219:=by kernel_rfl
theorem Q7:aO Tryz.prog Tryz.f220 [[1,2],[3]]=some f220:=by kernel_rfl
theorem OB:aO Tryz.prog Tryz.f226 [[0,4,5],[4,5,12,13,14],[4,5,12,13,14,15],[4,5,7,8,12,13,14],[4,5,12,13,14,28],[6],[4,5,12,13,14],[6]]=some f226:=by kernel_rfl
theorem OC:aO Tryz.prog Tryz.f228 [[0,2,9,10],[0,2,9,10,11],[0,2,4,9,10],[0,2,9,10,22],[0,2,9,10]]=some f228:=by kernel_rfl
theorem OD:aO Tryz.prog Tryz.f231 [[0,1],[0,1,7,8],[0,1,7,8,9],[0,1,5,7,8],[0,1,5,7,8,16],[4],[0,1,7,8],[4]]=some f231:=by kernel_rfl
theorem Q9:aO Tryz.prog Tryz.f241 [[0],[2],[2]]=some f241:=by kernel_rfl
theorem OE:aO Tryz.prog Tryz.f254 [[0],[0],[0],[0],[0],[0],[0],[2]]=some f254:=by kernel_rfl
theorem Ra:aO Tryz.prog Tryz.f255 [[0,1,2,3,4,10],[0,1,2,3,4,10,11],[0,1,2,3,4,10,11,12],[0,1,2,3,4,10,11,12,25],[],[0,1,2,3,4,10,11,12,32],[],[0,1,2,3,4,10,11,12,39],[0,1,2,3,4,10,11,12],[0,1,2,3,4,10,11,12],[0,1,2,3,4,10,11,12,13,14],[0,1,2,3,4,10,11,12,13,14,56],[0,1,2,3,4,10,11,12,13],[0,1,2,3,4,10,11,12,13],[0,1,2,3,4,10,11,12,13,14],[0,1,2,3,4,10,11,12,13,75],[0,1,2,3,4,10,11,12,13,80],[0,1,2,3,4,10,11,12,13,97],[0,2,3,4,10,11,15],[0,1,2,3,4,10,11],[0,1,2,3,4,12,16,17],[0,1,2,3,4,11,12,16],[0,1,2,3,4,11,12,16,18,19],[0,1,2,3,4,11,16,18,19,20],[0,1,2,3,4,11,16,18,19,20,125],[0,1,2,3,4,10,11,16],[0,2,3,4,10,11,16],[0,1,2,3,4,10,11],[0,1,2,3,4,10,11,16],[0,1,3,4,10,11,16],[0,1,2,3,4,10,11]]=some f255:=by kernel_rfl
theorem Rb:aO Tryz.prog Tryz.f256 [[0,1],[0,1,5],[0,1,5,6],[0,1,6,11],[12],[4],[4],[0,1,13],[4],[0,1,16],[4],[19],[4],[4]]=some f256:=by kernel_rfl
theorem OF:aO Tryz.prog Tryz.f257 [[0,1],[0,1,7,8],[0,1,7,8,9],[0,1,5,7,8],[0,1,5,7,8,16],[4],[0,1,7,8],[4]]=some f257:=by kernel_rfl
theorem Rc:aO Tryz.prog Tryz.f260 [[0],[2]]=some f260:=by kernel_rfl
theorem OG:aO Tryz.prog Tryz.f261 [[2,3,4,5],[2,3,4,5,6],[3,4,5,6,10],[3,4,5,6,7],[4,5,6,8],[4,5,6,8,17],[],[],[4,5]]=some f261:=by kernel_rfl
theorem OH:aO Tryz.prog Tryz.f262 [[1,2,3],[3]]=some f262:=by kernel_rfl
theorem OI:aO Tryz.prog Tryz.f263 [[1,2,4],[1,2,4,5],[1,2,4,6],[1,2,4],[2,4,27,28],[2,4,27,28,29],[2,4,27,28],[2,4,27,28],[4]]=some f263:=by kernel_rfl
theorem OJ:aO Tryz.prog Tryz.f264 [[1,2],[2,6],[2,5],[],[4]]=some f264:=by kernel_rfl
theorem OK:aO Tryz.prog Tryz.f265 [[0,6,7],[0,6,7,8],[0,3,4,6,7],[0,3,4,6,7,12],[0,3,4,5,6,7],[0,3,4,6,7,27],[0,3,4,6,7],[0,6,7]]=some f265:=by kernel_rfl
theorem OL:aO Tryz.prog Tryz.f266 [[0],[0,4],[2],[2]]=some f266:=by kernel_rfl
theorem Re:aO Tryz.prog Tryz.f291 [[0,2],[0,2,4],[0],[0,2],[0,2,8],[0,2],[0,2],[0,2,14],[0,2],[0,2],[2]]=some f291:=by kernel_rfl
theorem Rf:aO Tryz.prog Tryz.f307 [[0,1,2,3,8],[0,1,2,3,8,14],[0,1,2,3,8,9],[0,1,2,3,8,9,34],[0,1,2,3,8,9],[0,1,2,3,8,9],[0,1,2,3,8]]=some f307:=by kernel_rfl
theorem Rg:aO Tryz.prog Tryz.f315 [[0],[2]]=some f315:=by kernel_rfl
theorem OM:aO Tryz.prog Tryz.f317 [[3,4],[4]]=some f317:=by kernel_rfl
theorem ON:aO Tryz.prog Tryz.f318 [[3,4],[4]]=some f318:=by kernel_rfl
theorem OO:aO Tryz.prog Tryz.f319 [[3,4],[4]]=some f319:=by kernel_rfl
theorem OP:aO Tryz.prog Tryz.f320 [[3,4],[4]]=some f320:=by kernel_rfl
theorem OQ:aO Tryz.prog Tryz.f321 [[3,4],[4]]=some f321:=by kernel_rfl
theorem OS:aO Tryz.prog Tryz.f322 [[3,4],[4]]=some f322:=by kernel_rfl
theorem all:tree.all (Entry Tryz.prog):=by
 unfold tree
 exact(Tr.aa (Tr.aa (Tr.aa (Tr.aa (Tr.aa (Tr.aa (Tr.aa Tr.all_nil (.of Tryz.func21 c21) Tr.all_nil) (.of Tryz.func22 c22) (Tr.aa Tr.all_nil (.of Tryz.func24 c24) Tr.all_nil)) (.of Tryz.func27 c27) (Tr.aa (Tr.aa Tr.all_nil (.of Tryz.func29 c29) Tr.all_nil) (.of Tryz.func33 c33) (Tr.aa Tr.all_nil (.of Tryz.func34 c34) Tr.all_nil))) Rv (Tr.aa (Tr.aa (Tr.aa Tr.all_nil (.of Tryz.func36 c36) Tr.all_nil) (.of Tryz.func37 c37) (Tr.aa Tr.all_nil (.of Tryz.func38 c38) Tr.all_nil)) (.of Tryz.func39 c39) (Tr.aa (Tr.aa Tr.all_nil (.of Tryz.func40 c40) Tr.all_nil) (.of Tryz.func44 c44) Tr.all_nil))) (.of Tryz.func47 c47) (Tr.aa (Tr.aa (Tr.aa (Tr.aa Tr.all_nil (.of Tryz.func62 c62) Tr.all_nil) (.of Tryz.func72 c72) (Tr.aa Tr.all_nil (.of Tryz.func75 c75) Tr.all_nil)) (.of Tryz.func85 c85) (Tr.aa (Tr.aa Tr.all_nil (.of Tryz.func86 c86) Tr.all_nil) (.of Tryz.func87 c87) Tr.all_nil)) (.of Tryz.func88 c88) (Tr.aa (Tr.aa (Tr.aa Tr.all_nil (.of Tryz.func89 c89) Tr.all_nil) (.of Tryz.func90 c90) (Tr.aa Tr.all_nil (.of Tryz.func91 c91) Tr.all_nil)) (.of Tryz.func92 c92) (Tr.aa (Tr.aa Tr.all_nil (.of Tryz.func96 c96) Tr.all_nil) (.of Tryz.func97 c97) Tr.all_nil)))) (.of Tryz.func98 c98) (Tr.aa (Tr.aa (Tr.aa (Tr.aa (Tr.aa Tr.all_nil (.of Tryz.func99 c99) Tr.all_nil) (.of Tryz.func104 Qv) (Tr.aa Tr.all_nil (.of Tryz.func105 Qw) Tr.all_nil)) (.of Tryz.func106 NZ) (Tr.aa (Tr.aa Tr.all_nil (.of Tryz.func107 Qx) Tr.all_nil) (.of Tryz.func108 N0) Tr.all_nil)) (.of Tryz.func109 Qy) (Tr.aa (Tr.aa (Tr.aa Tr.all_nil (.of Tryz.func120 N1) Tr.all_nil) (.of Tryz.func121 N2) (Tr.aa Tr.all_nil (.of Tryz.func122 Qz) Tr.all_nil)) (.of Tryz.func123 N3) (Tr.aa (Tr.aa Tr.all_nil (.of Tryz.func124 N4) Tr.all_nil) (.of Tryz.func125 QC) Tr.all_nil))) (.of Tryz.func126 N5) (Tr.aa (Tr.aa (Tr.aa (Tr.aa Tr.all_nil (.of Tryz.func127 N6) Tr.all_nil) (.of Tryz.func128 N7) (Tr.aa Tr.all_nil (.of Tryz.func129 QD) Tr.all_nil)) (.of Tryz.func131 QE) (Tr.aa (Tr.aa Tr.all_nil (.of Tryz.func132 QF) Tr.all_nil) (.of Tryz.func133 QG) Tr.all_nil)) (.of Tryz.func134 QI) (Tr.aa (Tr.aa (Tr.aa Tr.all_nil (.of Tryz.func135 QJ) Tr.all_nil) (.of Tryz.func141 N8) (Tr.aa Tr.all_nil (.of Tryz.func143 N9) Tr.all_nil)) (.of Tryz.func147 Oa) (Tr.aa (Tr.aa Tr.all_nil (.of Tryz.func149 Oc) Tr.all_nil) (.of Tryz.func155 Od) Tr.all_nil))))) (.of Tryz.func156 Oe) (Tr.aa (Tr.aa (Tr.aa (Tr.aa (Tr.aa (Tr.aa Tr.all_nil (.of Tryz.func167 Of) Tr.all_nil) (.of Tryz.func168 QK) (Tr.aa Tr.all_nil (.of Tryz.func174 Og) Tr.all_nil)) (.of Tryz.func188 Oh) (Tr.aa (Tr.aa Tr.all_nil (.of Tryz.func189 QN) Tr.all_nil) (.of Tryz.func190 QO) (Tr.aa Tr.all_nil (.of Tryz.func191 QS) Tr.all_nil))) (.of Tryz.func192 Oi) (Tr.aa (Tr.aa (Tr.aa Tr.all_nil (.of Tryz.func193 Oj) Tr.all_nil) (.of Tryz.func194 Ol) (Tr.aa Tr.all_nil (.of Tryz.func195 Om) Tr.all_nil)) (.of Tryz.func196 On) (Tr.aa (Tr.aa Tr.all_nil (.of Tryz.func197 Oo) Tr.all_nil) (.of Tryz.func201 Oq) Tr.all_nil))) (.of Tryz.func202 QT) (Tr.aa (Tr.aa (Tr.aa (Tr.aa Tr.all_nil (.of Tryz.func203 QU) Tr.all_nil) (.of Tryz.func204 QV) (Tr.aa Tr.all_nil (.of Tryz.func205 QW) Tr.all_nil)) (.of Tryz.func206 QX) (Tr.aa (Tr.aa Tr.all_nil (.of Tryz.func207 Ot) Tr.all_nil) (.of Tryz.func209 Ou) Tr.all_nil)) (.of Tryz.func210 Ov) (Tr.aa (Tr.aa (Tr.aa Tr.all_nil (.of Tryz.func211 Ow) Tr.all_nil) (.of Tryz.func212 Ox) (Tr.aa Tr.all_nil (.of Tryz.func213 Oy) Tr.all_nil)) (.of Tryz.func214 Oz) (Tr.aa (Tr.aa Tr.all_nil (.of Tryz.func215 OA) Tr.all_nil) (.of Tryz.func216 QY) Tr.all_nil)))) (.of Tryz.func217 QZ) (Tr.aa (Tr.aa (Tr.aa (Tr.aa (Tr.aa Tr.all_nil (.of Tryz.func218 Q0) Tr.all_nil) (.of Tryz.func219 Q6) (Tr.aa Tr.all_nil (.of Tryz.func220 Q7) Tr.all_nil)) (.of Tryz.func226 OB) (Tr.aa (Tr.aa Tr.all_nil (.of Tryz.func228 OC) Tr.all_nil) (.of Tryz.func231 OD) Tr.all_nil)) (.of Tryz.func241 Q9) (Tr.aa (Tr.aa (Tr.aa Tr.all_nil (.of Tryz.func254 OE) Tr.all_nil) (.of Tryz.func255 Ra) (Tr.aa Tr.all_nil (.of Tryz.func256 Rb) Tr.all_nil)) (.of Tryz.func257 OF) (Tr.aa (Tr.aa Tr.all_nil (.of Tryz.func260 Rc) Tr.all_nil) (.of Tryz.func261 OG) Tr.all_nil))) (.of Tryz.func262 OH) (Tr.aa (Tr.aa (Tr.aa (Tr.aa Tr.all_nil (.of Tryz.func263 OI) Tr.all_nil) (.of Tryz.func264 OJ) (Tr.aa Tr.all_nil (.of Tryz.func265 OK) Tr.all_nil)) (.of Tryz.func266 OL) (Tr.aa (Tr.aa Tr.all_nil (.of Tryz.func291 Re) Tr.all_nil) (.of Tryz.func307 Rf) Tr.all_nil)) (.of Tryz.func315 Rg) (Tr.aa (Tr.aa (Tr.aa Tr.all_nil (.of Tryz.func317 OM) Tr.all_nil) (.of Tryz.func318 ON) (Tr.aa Tr.all_nil (.of Tryz.func319 OO) Tr.all_nil)) (.of Tryz.func320 OP) (Tr.aa (Tr.aa Tr.all_nil (.of Tryz.func321 OQ) Tr.all_nil) (.of Tryz.func322 OS) Tr.all_nil))))))
theorem sound:dW Tryz.prog T:=oA (by kernel_rfl) all
end Go.A.Pk
