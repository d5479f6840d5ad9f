/- The table is the program. -/
import Derived.Test.YtkaeljcfdnhacaaGreatDoorLV
import Derived.Test.YtkaeljcfdnhacaaGreatDoorLD
import Derived.Test.YtkaeljcfdnhacaaGreatDoorProg
import Derived.KernelRfl
import Derived.Test.YtkaeljcfdnhacaaGreatDoorLG
set_option linter.all false
set_option maxRecDepth 100000
open Go Go.A Go.Proofs
namespace Go.A.Pk
def Ph:Tr:=(.node (.node .nil 49 f35 .nil) 87 f121 .nil)
def TB:Nat->Option an:=Ph.get
theorem b35:aJ Tryz.prog Tryz.f49 [[2,3],[4]]=some f35:=by kernel_rfl
theorem YX:aJ Tryz.prog Tryz.f87 [[2,3,4],[2,3,4,6],[2,3,4,6,7],[2,3,4,5,6],[2,3,4,6],[2,3,4,6],[4]]=some f121:=by kernel_rfl
abbrev zq0:=@Tr.all_nil
theorem YS:Ph.all (Entry Tryz.prog):=by
 unfold Ph;exact(Tr.aa (Tr.aa zq0 (.of Tryz.func49 b35) zq0) (.of Tryz.func87 YX) zq0)
theorem OU:eV Tryz.prog TB:=sq (by kernel_rfl) YS
theorem oe:Tryz.prog.globals.size<=1000:=of_decide_eq_true (by kernel_rfl)
theorem aan:Entry Tryz.prog 49 (.mb pIn):= .mb (Od OU (n:=1000) Tryz.func49 (of_decide_eq_true (by kernel_rfl)) (by kernel_rfl) oe (by kernel_rfl) (Ry OU.aM (by kernel_rfl) (by kernel_rfl)))
theorem c21:aJ Tryz.prog Tryz.f6 [[],[1,2],[1,2,4],[1,2,4,5,6,7,8],[1,2,4,5,6,7,8,9,10],[1,2,4,5,6,7,8,9,10,11,12],[1,2,4,5,6,7,8,9,10,11,12,13,14],[1,2,4,5,6,7,8,9,10,11,12,13,14,16],[1,2,4,5,6,7,8,9,10,11,12,13,14,16,17,18],[1,2,4,5,6,7,8,9,10,11,12,13,14,16,17,18,19,20],[1,5,6,7,9,11,13,17,19,132],[0],[9,11,13,17,19,21],[0]]=some f21:=by kernel_rfl
theorem c22:aJ Tryz.prog Tryz.f18 [[2,3],[2,3,12],[4,5],[2,3,14],[4,5],[4,5]]=some f22:=by kernel_rfl
theorem c24:aJ Tryz.prog Tryz.f22 [[0,1],[0,1,10],[4],[0,1,5],[0,1,5,14],[0,1,5,25],[4],[0,1,5],[4]]=some f24:=by kernel_rfl
theorem c27:aJ Tryz.prog Tryz.f7 [[1,2,5,8,9],[8,9,12,13],[8,9,12,13,22],[10,11],[8,9,12,26],[10,11],[10,11]]=some f27:=by kernel_rfl
theorem c29:aJ Tryz.prog Tryz.f9 [[1,2,3,4,5],[1,3,4,12,13],[1,3,4,12,13,30],[10,11],[1,3,4,12,34],[10,11],[1,3,4,12,14],[1,3,4,12,14,36,37,38],[1,3,4,12,14,36,37,38,39],[1,3,4,12,14,15,16,36,37,38],[1,3,4,12,14,15,16,17,36,37,38],[1,3,4,12,14,16,17,36,37,38,76],[10,11],[1,3,4,12,14,16,17,36,37,38],[1,3,4,12,14,36,37,38],[1,3,4,12,14,36,37,38],[4,12,14,87],[4,12,14,87,89],[4,12,14,18,19,87],[4,12,14,18,19,21,87],[4,12,14,87,108],[10,11],[10,11]]=some f29:=by kernel_rfl
theorem c33:aJ Tryz.prog Tryz.f16 [[2,3],[2,3,16],[4,5],[2,3,7],[2,3,24],[4,5],[9],[32],[4,5],[4,5]]=some f33:=by kernel_rfl
theorem c34:aJ Tryz.prog Tryz.f56 [[2,3,4],[2,3,4,11],[4,5],[2,3,4,6],[2,3,4,6,7],[4,6,7,15],[6,7,8],[],[4,5]]=some f34:=by kernel_rfl
theorem c36:aJ Tryz.prog Tryz.f15 [[1,2,3,6],[3,6,10,11],[3,6,10,11,23],[6,7,8,9],[3,6,10,12],[3,6,10,34,35,36],[3,6,10,34,36,37],[3,6,10,14],[3,6,10,14,15],[6,10,14,15,46],[6,14,15],[6,7,8,9],[3,6,10,34,35,36],[6,7,8,9]]=some f36:=by kernel_rfl
theorem c37:aJ Tryz.prog Tryz.f12 [[1,2,3,6],[3,6,8,9],[3,6,8,9,18],[6,7],[6,10],[6,10,29],[6,7],[6,7]]=some f37:=by kernel_rfl
theorem c38:aJ Tryz.prog Tryz.f53 [[2,3],[4]]=some f38:=by kernel_rfl
theorem c39:aJ Tryz.prog Tryz.f19 [[1,2,3],[8,9],[8,9,19],[6,7],[10],[10,25],[6,7],[6,7]]=some f39:=by kernel_rfl
theorem c40:aJ Tryz.prog Tryz.f80 [[0],[0,7,8,9],[0,7,8,9,10],[0,4,5,7,8,9],[0,4,6,7,8,9],[0,4,6,7,8,9,21],[2,3],[0,7,8,9],[2,3]]=some f40:=by kernel_rfl
theorem c44:aJ Tryz.prog Tryz.f47 [[0,3],[0,3,7],[0,3,7,15],[4,5],[8],[4,5]]=some f44:=by kernel_rfl
theorem c47:aJ Tryz.prog Tryz.f139 [[1],[1,3],[1,3,13],[1,3,13,14],[1,3,13,14],[3],[1,3,29],[3],[3],[43],[2],[2]]=some f47:=by kernel_rfl
theorem c62:aJ Tryz.prog Tryz.f104 [[0],[0,5],[2],[7],[2],[2]]=some f62:=by kernel_rfl
theorem c72:aJ Tryz.prog Tryz.f94 [[2,3],[2,3,11],[4,5],[2,3,6],[6,14],[6,8],[],[4,5]]=some f72:=by kernel_rfl
theorem c75:aJ Tryz.prog Tryz.f21 [[0,1],[0,1,10],[4],[0,1,5],[0,1,5,14],[0,1,5,25],[4],[0,1,5],[4]]=some f75:=by kernel_rfl
theorem c85:aJ Tryz.prog Tryz.f13 [[0],[0]]=some f85:=by kernel_rfl
theorem c86:aJ Tryz.prog Tryz.f14 [[],[0]]=some f86:=by kernel_rfl
theorem c87:aJ Tryz.prog Tryz.f17 [[0],[0]]=some f87:=by kernel_rfl
theorem c88:aJ Tryz.prog Tryz.f20 [[],[0]]=some f88:=by kernel_rfl
theorem c89:aJ Tryz.prog Tryz.f54 [[1],[2]]=some f89:=by kernel_rfl
theorem c90:aJ Tryz.prog Tryz.f55 [[1],[2]]=some f90:=by kernel_rfl
theorem c91:aJ Tryz.prog Tryz.f57 [[1],[2]]=some f91:=by kernel_rfl
theorem c92:aJ Tryz.prog Tryz.f58 [[2,3],[2,5],[2,5,16,17],[2,5,16,17,18],[2,5,7,16,17],[2,5,16,17],[2,5,16,17],[5],[5],[4]]=some f92:=by kernel_rfl
theorem c96:aJ Tryz.prog Tryz.f23 [[1,2,3],[3,8,9],[8,9,22],[8,9],[8,9,24],[6,7],[8],[6,7]]=some f96:=by kernel_rfl
theorem c97:aJ Tryz.prog Tryz.f24 [[0,2],[0,2],[2],[2]]=some f97:=by kernel_rfl
theorem c98:aJ Tryz.prog Tryz.f25 [[]]=some f98:=by kernel_rfl
theorem c99:aJ Tryz.prog Tryz.f26 [[3,4,5],[3,4,5,6],[3,4,5,6,7],[4,5,6,7],[4,5,6,7,8],[4,5,6,7,8,17],[4,5,6,7,8],[4,6,7,8],[4,6,7,8,9],[4,6,7,8,9,22,23,24],[4,6,7,8,9,22,23,24,25],[4,6,7,8,9,11,22,23,24],[4,6,7,8,9,22,23,24,32,33,34],[4,6,7,8,9,22,23,24,32,33,34,35],[4,6,7,8,9,13,22,23,24,32,33,34],[4,6,7,8,9,13,22,23,24,32,33,34],[4,6,7,8,9,22,23,24,32,33,34],[4,6,7,8,9,22,23,24,32,33,34],[4,6,7,8,9,22,23,24],[4,6],[]]=some f99:=by kernel_rfl
theorem Wa:aJ Tryz.prog Tryz.f32 [[0,1],[4]]=some f104:=by kernel_rfl
theorem Wb:aJ Tryz.prog Tryz.f33 [[0],[2]]=some f105:=by kernel_rfl
theorem Wc:aJ Tryz.prog Tryz.f34 [[0,1,2],[6]]=some f106:=by kernel_rfl
theorem Wd:aJ Tryz.prog Tryz.f35 [[0,1],[0,1,9,10,11],[0,1,9,10,11,12],[0,1,5,6,9,10,11],[0,1,5,6,9,10,11,19],[4],[0,1,6,7,9,10,11],[0,1,8,9,10,11],[0,1,8,9,10,11,28],[4],[0,1,9,10,11],[35],[4],[4]]=some f107:=by kernel_rfl
theorem We:aJ Tryz.prog Tryz.f36 [[0,3],[0,3,4,6],[0,3,6,15],[4,5],[0,3,6,20,21],[0,3,6,20,21,22],[0,3,6,7,20,21],[0,3,6,20,21,29],[4,5],[0,3,6,20,21],[4,5]]=some f108:=by kernel_rfl
theorem Wf:aJ Tryz.prog Tryz.f37 [[4,5,6,7,8],[4,5,6,7,8,18],[4,5,6,7,8,9],[4,5,6,7,8,9,10],[4,5,6,7,8,9,10,20,21],[4,5,6,7,8,9,10,20,21,22],[4,5,6,7,8,9,10,12,20,21],[4,5,6,7,8,9,10,13,20,21],[4,5,6,7,8,9,10,13,14,20,21],[4,5,6,7,8,9,10,20,21,62],[4,5,6,7,8,9,10,20,21],[4,5,6,7,8,9,10,20,21],[8,65],[],[8]]=some f109:=by kernel_rfl
theorem Wg:aJ Tryz.prog Tryz.f92 [[2,3],[4]]=some f120:=by kernel_rfl
theorem Wi:aJ Tryz.prog Tryz.f87 [[2,3,4],[2,3,4,6],[2,3,4,6,7],[2,3,4,5,6],[2,3,4,6],[2,3,4,6],[4]]=some f121:=by kernel_rfl
theorem Zo:aJ Tryz.prog Tryz.f48 [[1,2,4],[1,4,5],[4,5,10,11,12],[4,5,10,11,12,13],[4,5,7,10,11,12],[4,5,7,10,11,12,18],[4,5,10,11,12],[4,5,10,11,12],[4,5,10,11,12],[4]]=some f122:=by kernel_rfl
theorem Wj:aJ Tryz.prog Tryz.f50 [[1],[2]]=some f123:=by kernel_rfl
theorem Wk:aJ Tryz.prog Tryz.f51 [[2,3,4],[2,3,4,6],[2,3,4,6,7],[2,3,4,5,6],[2,3,4,6],[2,3,4,6],[4]]=some f124:=by kernel_rfl
theorem Zp:aJ Tryz.prog Tryz.f52 [[0,1,5],[0,1,5,7],[1,5,7,10,11,12],[1,5,7,10,11,12,13],[1,5,7,9,10,11,12],[1,5,7,9,10,11,12,29],[1,5,7,10,11,12],[1,5,7,10,11,12],[6]]=some f125:=by kernel_rfl
theorem Wl:aJ Tryz.prog Tryz.f90 [[1],[2]]=some f126:=by kernel_rfl
theorem Wm:aJ Tryz.prog Tryz.f91 [[1],[2]]=some f127:=by kernel_rfl
theorem Wn:aJ Tryz.prog Tryz.f59 [[2,3],[2,3,5,6],[2,3,5,20],[4],[2,3,7],[2,3,7,9],[2,3,7,28],[2,3,7],[2,3,7,31],[2,3,7,10],[],[7],[4]]=some f128:=by kernel_rfl
theorem Zq:aJ Tryz.prog Tryz.f112 [[0,3],[0,3,5],[0,3,5,7],[4],[0,3,5,11],[4],[0,3,5,15],[4],[0,3,5,22],[4],[0,3,5,38],[4],[0,3,6],[0,3,57],[4],[61],[4],[4]]=some f129:=by kernel_rfl
theorem Zr:aJ Tryz.prog Tryz.f82 [[0],[0,4],[2],[2]]=some f131:=by kernel_rfl
theorem Zt:aJ Tryz.prog Tryz.f81 [[0,1],[0,1,5],[0,1,5,12],[4],[0,1,5,6],[0,1,5,6,19],[0,1,5,6,7],[0,1,5,6,7,29],[0,1,5,6],[0,1,5,6],[0,1,5,6],[0,5],[4]]=some f132:=by kernel_rfl
theorem Zu:aJ Tryz.prog Tryz.f83 [[1,2],[3]]=some f133:=by kernel_rfl
theorem Zv:aJ Tryz.prog Tryz.f84 [[1,2],[3]]=some f134:=by kernel_rfl
theorem Zw:aJ Tryz.prog Tryz.f85 [[0,3],[4]]=some f135:=by kernel_rfl
theorem Wo:aJ Tryz.prog Tryz.f60 [[1,2,3],[1,2,3,11],[6,7],[1,2,3,14],[6,7],[1,2,3,16],[6,7],[1,2,3,8],[1,2,3,8,20],[6,7],[6,7]]=some f141:=by kernel_rfl
theorem Wq:aJ Tryz.prog Tryz.f73 [[0,3,4],[0,3,4,6],[0,3,4,6,17,18,19],[0,3,4,6,17,18,19,20],[0,3,4,6,7,8,17,18,19],[0,3,4,6,8,17,18,19,27],[0,3,4,6,17,18,19],[0,3,4,6,17,18,19],[4,5]]=some f143:=by kernel_rfl
theorem Wt:aJ Tryz.prog Tryz.f75 [[2,3],[4]]=some f147:=by kernel_rfl
theorem Wu:aJ Tryz.prog Tryz.f65 [[1,2,3,6],[3,6],[6]]=some f149:=by kernel_rfl
theorem Wv:aJ Tryz.prog Tryz.f131 [[0,1],[4]]=some f155:=by kernel_rfl
theorem Ww:aJ Tryz.prog Tryz.f132 [[1],[2]]=some f156:=by kernel_rfl
theorem Wx:aJ Tryz.prog Tryz.f125 [[0,1],[0],[4]]=some f167:=by kernel_rfl
theorem ZB:aJ Tryz.prog Tryz.f126 [[2,3],[4]]=some f168:=by kernel_rfl
theorem Wy:aJ Tryz.prog Tryz.f86 [[2,3,4],[2,3,4,6],[2,3,4,6,7],[2,3,4,5,6],[2,3,4,6],[2,3,4,6],[4]]=some f174:=by kernel_rfl
theorem Wz:aJ Tryz.prog Tryz.f93 [[1],[1,3],[3,6,7],[3,6,7,8],[3,5,6,7],[3,6,7],[3,6,7],[2]]=some f188:=by kernel_rfl
theorem ZE:aJ Tryz.prog Tryz.f95 [[0,1,4],[]]=some f189:=by kernel_rfl
theorem ZF:aJ Tryz.prog Tryz.f96 [[2,3],[4]]=some f190:=by kernel_rfl
theorem ZG:aJ Tryz.prog Tryz.f97 [[0,1],[0,1,9,10,11],[0,1,9,10,11,12],[0,1,5,6,9,10,11],[0,1,5,6,9,10,11,19],[4],[0,1,6,7,9,10,11],[0,1,8,9,10,11],[0,1,8,9,10,11,28],[4],[0,1,9,10,11],[35],[4],[4]]=some f191:=by kernel_rfl
theorem WA:aJ Tryz.prog Tryz.f98 [[0],[0,8],[2],[0,3],[0,3,13],[0,3,25],[0,3,4],[0,3,4,5],[0,3,4,5,32],[0,3,4,5,44],[0,3,4,5],[0,3,4,5],[0,3,4,5],[0,3],[2],[0,3],[2]]=some f192:=by kernel_rfl
theorem WH:aJ Tryz.prog Tryz.f99 [[0,1],[0,1,5],[0,1,5,12],[4],[0,1,5,6],[0,1,5,6,19],[0,1,5,6,7],[0,1,5,6,7,29],[0,1,5,6],[0,1,5,6],[0,1,5,6],[0,5],[4]]=some f193:=by kernel_rfl
theorem WI:aJ Tryz.prog Tryz.f100 [[0],[0,4],[2],[2]]=some f194:=by kernel_rfl
theorem WJ:aJ Tryz.prog Tryz.f101 [[1,2],[3]]=some f195:=by kernel_rfl
theorem WN:aJ Tryz.prog Tryz.f102 [[0,1],[4]]=some f196:=by kernel_rfl
theorem WQ:aJ Tryz.prog Tryz.f103 [[1,2],[3]]=some f197:=by kernel_rfl
theorem WR:aJ Tryz.prog Tryz.f61 [[0,7,8,9],[0,7,8,9,10],[0,3,7,8,9],[0,7,8,9],[0,7,8,9]]=some f201:=by kernel_rfl
theorem WS:aJ Tryz.prog Tryz.f62 [[0,1],[0,1,6],[0,1,3],[0,1,13],[0],[]]=some f202:=by kernel_rfl
theorem WT:aJ Tryz.prog Tryz.f63 [[1,2,3,4,5,6,7,8,9],[1,2,3,4,5,6,7,8,9,13,14],[1,2,3,4,5,6,7,8,9,13,14,23],[],[1,3,4,5,6,7,8,9],[1,3,4,5,7,8,9],[1,3,4,5,7,8,9,15],[1,3,4,5,7,8,9,15],[1,3,5,7,8,9,15],[1,3,5,8,9,15],[1,3,5,8,9,15],[]]=some f203:=by kernel_rfl
theorem WU:aJ Tryz.prog Tryz.f64 [[3],[]]=some f204:=by kernel_rfl
theorem WV:aJ Tryz.prog Tryz.f71 [[0,1],[0,1,7,8],[0,1,7,8,9],[0,1,5,7,8],[0,1,5,7,8,16],[4],[0,1,7,8],[4]]=some f205:=by kernel_rfl
theorem WW:aJ Tryz.prog Tryz.f72 [[0,1],[0,1,5],[0,1,5,6],[0,1,6,11],[12],[4],[4],[0,1,13],[4],[0,1,16],[4],[19],[4],[4]]=some f206:=by kernel_rfl
theorem WX:aJ Tryz.prog Tryz.f74 [[0,3,5,6],[0,3,5,6,9],[0,5,6,9,18,19,20],[0,5,6,9,18,19,20,21],[0,5,6,9,11,18,19,20],[0,5,6,9,11,18,19,20,24],[9],[0,5,6,9,18,19,20,28],[0,5,6,9,18,19,20],[0,5,6,9,18,19,20],[8]]=some f207:=by kernel_rfl
theorem WY:aJ Tryz.prog Tryz.f120 [[0,1,2,4,5],[0,1,2,4,27],[0,1,2,4,28],[0,1,2,4,28,29],[0,1,2,4,6,28],[0,1,2,4,6,7,28],[0,1,2,4,6,7,28],[0,1,2,4,6,7,8,9,28],[0,1,2,4,6,7,8,9,10,28],[0,1,2,4,6,7,8,9,10,28,61],[0,1,2,4,6,7,8,9,10,11,28],[0,1,2,4,6,7,8,9,10,11,28,77],[0,1,2,4,6,7,8,9,10,11,12,28],[0,1,2,4,6,7,8,9,10,11,12,28,93],[0,1,2,4,6,7,8,9,10,11,12,13,28],[0,1,2,4,6,7,8,9,10,11,12,28,114],[0,1,2,4,6,7,8,9,10,11,12,28],[0,1,2,4,6,7,8,9,10,11,28],[0,1,2,4,6,7,8,9,10,28],[0,1,2,4,28]]=some f209:=by kernel_rfl
theorem WZ:aJ Tryz.prog Tryz.f121 [[1,2],[1,2,10],[2,3],[1,2,4],[2,4,15],[4,5],[5,6,7],[5,7],[],[2,3]]=some f210:=by kernel_rfl
theorem W0:aJ Tryz.prog Tryz.f122 [[2,3,4],[4,5],[4]]=some f211:=by kernel_rfl
theorem W8:aJ Tryz.prog Tryz.f123 [[1,2,3,4,8],[1,2,3,4,8,9],[1,2,3,4,8,9,10],[1,2,3,4,8,9,10,21],[1,2,3,4,8,9,10,11],[1,2,3,4,8,9,10,11,29],[1,2,3,4,8,9,10],[1,2,3,4,8,9,10],[1,2,3,4,8,9,10],[8]]=some f212:=by kernel_rfl
theorem W9:aJ Tryz.prog Tryz.f88 [[0],[2]]=some f213:=by kernel_rfl
theorem Xa:aJ Tryz.prog Tryz.f89 [[1],[2]]=some f214:=by kernel_rfl
theorem Xb:aJ Tryz.prog Tryz.f119 [[0,1,2],[6]]=some f215:=by kernel_rfl
theorem ZL:aJ Tryz.prog Tryz.f137 [[1],[2]]=some f216:=by kernel_rfl
theorem ZM:aJ Tryz.prog Tryz.f138 [[1,2],[3]]=some f217:=by kernel_rfl
theorem ZN:aJ Tryz.prog Tryz.f114 [[0,1],[4]]=some f218:=by kernel_rfl
theorem ZO:aJ Tryz.prog Tryz.f113 [[0,1],[0,1,7,8],[0,1,7,8,9],[0,1,5,7,8],[0,1,5,7,8,16],[4],[0,1,7,8],[4]]=some f219:=by kernel_rfl
theorem ZP:aJ Tryz.prog Tryz.f115 [[1,2],[3]]=some f220:=by kernel_rfl
theorem Xc:aJ Tryz.prog Tryz.f109 [[0,4,5],[4,5,12,13,14],[4,5,12,13,14,15],[4,5,7,8,12,13,14],[4,5,12,13,14,28],[6],[4,5,12,13,14],[6]]=some f226:=by kernel_rfl
theorem Xd:aJ Tryz.prog Tryz.f110 [[0,2,9,10],[0,2,9,10,11],[0,2,4,9,10],[0,2,9,10,22],[0,2,9,10]]=some f228:=by kernel_rfl
theorem Xe:aJ Tryz.prog Tryz.f154 [[0,1],[0,1,7,8],[0,1,7,8,9],[0,1,5,7,8],[0,1,5,7,8,16],[4],[0,1,7,8],[4]]=some f231:=by kernel_rfl
theorem ZW:aJ Tryz.prog Tryz.f128 [[0],[2],[2]]=some f241:=by kernel_rfl
theorem Xf:aJ Tryz.prog Tryz.f124 [[0],[0],[0],[0],[0],[0],[0],[2]]=some f254:=by kernel_rfl
theorem ZX:aJ Tryz.prog Tryz.f127 [[0,1,2,3,4,10],[0,1,2,3,4,10,11],[0,1,2,3,4,10,11,12],[0,1,2,3,4,10,11,12,25],[],[0,1,2,3,4,10,11,12,32],[],[0,1,2,3,4,10,11,12,39],[0,1,2,3,4,10,11,12],[0,1,2,3,4,10,11,12],[0,1,2,3,4,10,11,12,13,14],[0,1,2,3,4,10,11,12,13,14,56],[0,1,2,3,4,10,11,12,13],[0,1,2,3,4,10,11,12,13],[0,1,2,3,4,10,11,12,13,14],[0,1,2,3,4,10,11,12,13,75],[0,1,2,3,4,10,11,12,13,80],[0,1,2,3,4,10,11,12,13,97],[0,2,3,4,10,11,15],[0,1,2,3,4,10,11],[0,1,2,3,4,12,16,17],[0,1,2,3,4,11,12,16],[0,1,2,3,4,11,12,16,18,19],[0,1,2,3,4,11,16,18,19,20],[0,1,2,3,4,11,16,18,19,20,125],[0,1,2,3,4,10,11,16],[0,2,3,4,10,11,16],[0,1,2,3,4,10,11],[0,1,2,3,4,10,11,16],[0,1,3,4,10,11,16],[0,1,2,3,4,10,11]]=some f255:=by kernel_rfl
theorem ZY:aJ Tryz.prog Tryz.f129 [[0,1],[0,1,5],[0,1,5,6],[0,1,6,11],[12],[4],[4],[0,1,13],[4],[0,1,16],[4],[19],[4],[4]]=some f256:=by kernel_rfl
theorem Xg:aJ Tryz.prog Tryz.f130 [[0,1],[0,1,7,8],[0,1,7,8,9],[0,1,5,7,8],[0,1,5,7,8,16],[4],[0,1,7,8],[4]]=some f257:=by kernel_rfl
theorem Xh:aJ Tryz.prog Tryz.f108 [[0],[2]]=some f260:=by kernel_rfl
theorem Xi:aJ Tryz.prog Tryz.f140 [[2,3,4,5],[2,3,4,5,6],[3,4,5,6,10],[3,4,5,6,7],[4,5,6,8],[4,5,6,8,17],[],[],[4,5]]=some f261:=by kernel_rfl
theorem Xj:aJ Tryz.prog Tryz.f141 [[1,2,3],[3]]=some f262:=by kernel_rfl
theorem Xk:aJ Tryz.prog Tryz.f142 [[1,2,4],[1,2,4,5],[1,2,4,6],[1,2,4],[2,4,27,28],[2,4,27,28,29],[2,4,27,28],[2,4,27,28],[4]]=some f263:=by kernel_rfl
theorem Xl:aJ Tryz.prog Tryz.f116 [[1,2],[2,6],[2,5],[],[4]]=some f264:=by kernel_rfl
theorem Xm:aJ Tryz.prog Tryz.f117 [[0,6,7],[0,6,7,8],[0,3,4,6,7],[0,3,4,6,7,12],[0,3,4,5,6,7],[0,3,4,6,7,27],[0,3,4,6,7],[0,6,7]]=some f265:=by kernel_rfl
theorem Xn:aJ Tryz.prog Tryz.f118 [[0],[0,4],[2],[2]]=some f266:=by kernel_rfl
theorem Z2:aJ Tryz.prog Tryz.f152 [[0,2],[0,2,4],[0],[0,2],[0,2,8],[0,2],[0,2],[0,2,14],[0,2],[0,2],[2]]=some f291:=by kernel_rfl
theorem Z3:aJ Tryz.prog Tryz.f143 [[0,1,2,3,8],[0,1,2,3,8,14],[0,1,2,3,8,9],[0,1,2,3,8,9,34],[0,1,2,3,8,9],[0,1,2,3,8,9],[0,1,2,3,8]]=some f307:=by kernel_rfl
theorem Z4:aJ Tryz.prog Tryz.f153 [[0],[2]]=some f315:=by kernel_rfl
theorem Xo:aJ Tryz.prog Tryz.f160 [[3,4],[4]]=some f317:=by kernel_rfl
theorem Xp:aJ Tryz.prog Tryz.f161 [[3,4],[4]]=some f318:=by kernel_rfl
theorem Xq:aJ Tryz.prog Tryz.f162 [[3,4],[4]]=some f319:=by kernel_rfl
theorem Xr:aJ Tryz.prog Tryz.f163 [[3,4],[4]]=some f320:=by kernel_rfl
theorem Xt:aJ Tryz.prog Tryz.f164 [[3,4],[4]]=some f321:=by kernel_rfl
theorem Xu:aJ Tryz.prog Tryz.f165 [[3,4],[4]]=some f322:=by kernel_rfl
theorem all:tree.all (Entry Tryz.prog):=by
 unfold tree;exact(Tr.aa (Tr.aa (Tr.aa (Tr.aa (Tr.aa (Tr.aa (Tr.aa zq0 (.of Tryz.func6 c21) zq0) (.of Tryz.func7 c27) (Tr.aa zq0 (.of Tryz.func9 c29) zq0)) (.of Tryz.func12 c37) (Tr.aa (Tr.aa zq0 (.of Tryz.func13 c85) zq0) (.of Tryz.func14 c86) (Tr.aa zq0 (.of Tryz.func15 c36) zq0))) (.of Tryz.func16 c33) (Tr.aa (Tr.aa (Tr.aa zq0 (.of Tryz.func17 c87) zq0) (.of Tryz.func18 c22) (Tr.aa zq0 (.of Tryz.func19 c39) zq0)) (.of Tryz.func20 c88) (Tr.aa (Tr.aa zq0 (.of Tryz.func21 c75) zq0) (.of Tryz.func22 c24) zq0))) (.of Tryz.func23 c96) (Tr.aa (Tr.aa (Tr.aa (Tr.aa zq0 (.of Tryz.func24 c97) zq0) (.of Tryz.func25 c98) (Tr.aa zq0 (.of Tryz.func26 c99) zq0)) (.of Tryz.func32 Wa) (Tr.aa (Tr.aa zq0 (.of Tryz.func33 Wb) zq0) (.of Tryz.func34 Wc) zq0)) (.of Tryz.func35 Wd) (Tr.aa (Tr.aa (Tr.aa zq0 (.of Tryz.func36 We) zq0) (.of Tryz.func37 Wf) (Tr.aa zq0 (.of Tryz.func47 c44) zq0)) (.of Tryz.func48 Zo) (Tr.aa (Tr.aa zq0 aan zq0) (.of Tryz.func50 Wj) zq0)))) (.of Tryz.func51 Wk) (Tr.aa (Tr.aa (Tr.aa (Tr.aa (Tr.aa zq0 (.of Tryz.func52 Zp) zq0) (.of Tryz.func53 c38) (Tr.aa zq0 (.of Tryz.func54 c89) zq0)) (.of Tryz.func55 c90) (Tr.aa (Tr.aa zq0 (.of Tryz.func56 c34) zq0) (.of Tryz.func57 c91) zq0)) (.of Tryz.func58 c92) (Tr.aa (Tr.aa (Tr.aa zq0 (.of Tryz.func59 Wn) zq0) (.of Tryz.func60 Wo) (Tr.aa zq0 (.of Tryz.func61 WR) zq0)) (.of Tryz.func62 WS) (Tr.aa (Tr.aa zq0 (.of Tryz.func63 WT) zq0) (.of Tryz.func64 WU) zq0))) (.of Tryz.func65 Wu) (Tr.aa (Tr.aa (Tr.aa (Tr.aa zq0 (.of Tryz.func71 WV) zq0) (.of Tryz.func72 WW) (Tr.aa zq0 (.of Tryz.func73 Wq) zq0)) (.of Tryz.func74 WX) (Tr.aa (Tr.aa zq0 (.of Tryz.func75 Wt) zq0) (.of Tryz.func80 c40) zq0)) (.of Tryz.func81 Zt) (Tr.aa (Tr.aa (Tr.aa zq0 (.of Tryz.func82 Zr) zq0) (.of Tryz.func83 Zu) (Tr.aa zq0 (.of Tryz.func84 Zv) zq0)) (.of Tryz.func85 Zw) (Tr.aa (Tr.aa zq0 (.of Tryz.func86 Wy) zq0) (.of Tryz.func87 Wi) zq0))))) (.of Tryz.func88 W9) (Tr.aa (Tr.aa (Tr.aa (Tr.aa (Tr.aa (Tr.aa zq0 (.of Tryz.func89 Xa) zq0) (.of Tryz.func90 Wl) (Tr.aa zq0 (.of Tryz.func91 Wm) zq0)) (.of Tryz.func92 Wg) (Tr.aa (Tr.aa zq0 (.of Tryz.func93 Wz) zq0) (.of Tryz.func94 c72) (Tr.aa zq0 (.of Tryz.func95 ZE) zq0))) (.of Tryz.func96 ZF) (Tr.aa (Tr.aa (Tr.aa zq0 (.of Tryz.func97 ZG) zq0) (.of Tryz.func98 WA) (Tr.aa zq0 (.of Tryz.func99 WH) zq0)) (.of Tryz.func100 WI) (Tr.aa (Tr.aa zq0 (.of Tryz.func101 WJ) zq0) (.of Tryz.func102 WN) zq0))) (.of Tryz.func103 WQ) (Tr.aa (Tr.aa (Tr.aa (Tr.aa zq0 (.of Tryz.func104 c62) zq0) (.of Tryz.func108 Xh) (Tr.aa zq0 (.of Tryz.func109 Xc) zq0)) (.of Tryz.func110 Xd) (Tr.aa (Tr.aa zq0 (.of Tryz.func112 Zq) zq0) (.of Tryz.func113 ZO) zq0)) (.of Tryz.func114 ZN) (Tr.aa (Tr.aa (Tr.aa zq0 (.of Tryz.func115 ZP) zq0) (.of Tryz.func116 Xl) (Tr.aa zq0 (.of Tryz.func117 Xm) zq0)) (.of Tryz.func118 Xn) (Tr.aa (Tr.aa zq0 (.of Tryz.func119 Xb) zq0) (.of Tryz.func120 WY) zq0)))) (.of Tryz.func121 WZ) (Tr.aa (Tr.aa (Tr.aa (Tr.aa (Tr.aa zq0 (.of Tryz.func122 W0) zq0) (.of Tryz.func123 W8) (Tr.aa zq0 (.of Tryz.func124 Xf) zq0)) (.of Tryz.func125 Wx) (Tr.aa (Tr.aa zq0 (.of Tryz.func126 ZB) zq0) (.of Tryz.func127 ZX) zq0)) (.of Tryz.func128 ZW) (Tr.aa (Tr.aa (Tr.aa zq0 (.of Tryz.func129 ZY) zq0) (.of Tryz.func130 Xg) (Tr.aa zq0 (.of Tryz.func131 Wv) zq0)) (.of Tryz.func132 Ww) (Tr.aa (Tr.aa zq0 (.of Tryz.func137 ZL) zq0) (.of Tryz.func138 ZM) zq0))) (.of Tryz.func139 c47) (Tr.aa (Tr.aa (Tr.aa (Tr.aa zq0 (.of Tryz.func140 Xi) zq0) (.of Tryz.func141 Xj) (Tr.aa zq0 (.of Tryz.func142 Xk) zq0)) (.of Tryz.func143 Z3) (Tr.aa (Tr.aa zq0 (.of Tryz.func152 Z2) zq0) (.of Tryz.func153 Z4) zq0)) (.of Tryz.func154 Xe) (Tr.aa (Tr.aa (Tr.aa zq0 (.of Tryz.func160 Xo) zq0) (.of Tryz.func161 Xp) (Tr.aa zq0 (.of Tryz.func162 Xq) zq0)) (.of Tryz.func163 Xr) (Tr.aa (Tr.aa zq0 (.of Tryz.func164 Xt) zq0) (.of Tryz.func165 Xu) zq0))))))
theorem sound:eV Tryz.prog T:=sq (by kernel_rfl) all
end Go.A.Pk
