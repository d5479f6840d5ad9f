/- The table is the program. -/
import Derived.Test.YthnjljpaipomgaaGreatDoorQV
import Derived.Test.YthnjljpaipomgaaGreatDoorQD
import Derived.Test.YthnjljpaipomgaaGreatDoorProg
import Derived.KernelRfl
import Derived.Test.YthnjljpaipomgaaGreatDoorQG
set_option linter.all false
set_option maxRecDepth 100000
open Go Go.A Go.Proofs
namespace Go.A.Pk
def Nh:Tr:=(.node (.node .nil 46 f35 .nil) 76 f121 .nil)
def TB:Nat->Option aq:=Nh.get
theorem b35:aM Tryz.prog Tryz.f46 [[2,3],[4]]=some f35:=by kernel_rfl
theorem WJ:aM Tryz.prog Tryz.f76 [[2,3,4],[2,3,4,6],[2,3,4,6,7],[2,3,4,5,6],[2,3,4,6],[2,3,4,6],[4]]=some f121:=by kernel_rfl
abbrev zq0:=@Tr.all_nil
theorem Wy:Nh.all (Entry Tryz.prog):=by
 unfold Nh;exact(Tr.aa (Tr.aa zq0 (.of Tryz.func46 b35) zq0) (.of Tryz.func76 WJ) zq0)
theorem MQ:ez Tryz.prog TB:=qR (by kernel_rfl) Wy
theorem nI:Tryz.prog.globals.size<=1000:=of_decide_eq_true (by kernel_rfl)
theorem XU:Entry Tryz.prog 46 (.lD pIn):= .lD (Mh MQ (n:=1000) Tryz.func46 (of_decide_eq_true (by kernel_rfl)) (by kernel_rfl) nI (by kernel_rfl) (Po MQ.aF (by kernel_rfl) (by kernel_rfl)))
theorem c21:aM Tryz.prog Tryz.f6 [[],[1,2],[1,2,4],[1,2,4,5,6,7,8],[1,2,4,5,6,7,8,9,10],[1,2,4,5,6,7,8,9,10,11,12],[1,2,4,5,6,7,8,9,10,11,12,13,14],[1,2,4,5,6,7,8,9,10,11,12,13,14,16],[1,2,4,5,6,7,8,9,10,11,12,13,14,16,17,18],[1,2,4,5,6,7,8,9,10,11,12,13,14,16,17,18,19,20],[1,5,6,7,9,11,13,17,19,132],[0],[9,11,13,17,19,21],[0]]=some f21:=by kernel_rfl
theorem c22:aM Tryz.prog Tryz.f19 [[2,3],[2,3,12],[4,5],[2,3,14],[4,5],[4,5]]=some f22:=by kernel_rfl
theorem c24:aM Tryz.prog Tryz.f22 [[0,1],[0,1,10],[4],[0,1,5],[0,1,5,14],[0,1,5,25],[4],[0,1,5],[4]]=some f24:=by kernel_rfl
theorem c27:aM Tryz.prog Tryz.f8 [[1,2,5,8,9],[8,9,12,13],[8,9,12,13,22],[10,11],[8,9,12,26],[10,11],[10,11]]=some f27:=by kernel_rfl
theorem c29:aM Tryz.prog Tryz.f9 [[1,2,3,4,5],[1,3,4,12,13],[1,3,4,12,13,30],[10,11],[1,3,4,12,34],[10,11],[1,3,4,12,14],[1,3,4,12,14,36,37,38],[1,3,4,12,14,36,37,38,39],[1,3,4,12,14,15,16,36,37,38],[1,3,4,12,14,15,16,17,36,37,38],[1,3,4,12,14,16,17,36,37,38,76],[10,11],[1,3,4,12,14,16,17,36,37,38],[1,3,4,12,14,36,37,38],[1,3,4,12,14,36,37,38],[4,12,14,87],[4,12,14,87,89],[4,12,14,18,19,87],[4,12,14,18,19,21,87],[4,12,14,87,108],[10,11],[10,11]]=some f29:=by kernel_rfl
theorem c33:aM Tryz.prog Tryz.f17 [[2,3],[2,3,16],[4,5],[2,3,7],[2,3,24],[4,5],[9],[32],[4,5],[4,5]]=some f33:=by kernel_rfl
theorem c34:aM Tryz.prog Tryz.f53 [[2,3,4],[2,3,4,11],[4,5],[2,3,4,6],[2,3,4,6,7],[4,6,7,15],[6,7,8],[],[4,5]]=some f34:=by kernel_rfl
theorem c36:aM Tryz.prog Tryz.f16 [[1,2,3,6],[3,6,10,11],[3,6,10,11,23],[6,7,8,9],[3,6,10,12],[3,6,10,34,35,36],[3,6,10,34,36,37],[3,6,10,14],[3,6,10,14,15],[6,10,14,15,46],[6,14,15],[6,7,8,9],[3,6,10,34,35,36],[6,7,8,9]]=some f36:=by kernel_rfl
theorem c37:aM Tryz.prog Tryz.f13 [[1,2,3,6],[3,6,8,9],[3,6,8,9,18],[6,7],[6,10],[6,10,29],[6,7],[6,7]]=some f37:=by kernel_rfl
theorem c38:aM Tryz.prog Tryz.f50 [[2,3],[4]]=some f38:=by kernel_rfl
theorem c39:aM Tryz.prog Tryz.f7 [[1,2,3],[8,9],[8,9,19],[6,7],[10],[10,25],[6,7],[6,7]]=some f39:=by kernel_rfl
theorem c40:aM Tryz.prog Tryz.f69 [[0],[0,7,8,9],[0,7,8,9,10],[0,4,5,7,8,9],[0,4,6,7,8,9],[0,4,6,7,8,9,21],[2,3],[0,7,8,9],[2,3]]=some f40:=by kernel_rfl
theorem c44:aM Tryz.prog Tryz.f44 [[0,3],[0,3,7],[0,3,7,15],[4,5],[8],[4,5]]=some f44:=by kernel_rfl
theorem c47:aM Tryz.prog Tryz.f120 [[1],[1,3],[1,3,13],[1,3,13,14],[1,3,13,14],[3],[1,3,29],[3],[3],[43],[2],[2]]=some f47:=by kernel_rfl
theorem c62:aM Tryz.prog Tryz.f93 [[0],[0,5],[2],[7],[2],[2]]=some f62:=by kernel_rfl
theorem c72:aM Tryz.prog Tryz.f83 [[2,3],[2,3,11],[4,5],[2,3,6],[6,14],[6,8],[],[4,5]]=some f72:=by kernel_rfl
theorem c75:aM Tryz.prog Tryz.f21 [[0,1],[0,1,10],[4],[0,1,5],[0,1,5,14],[0,1,5,25],[4],[0,1,5],[4]]=some f75:=by kernel_rfl
theorem c85:aM Tryz.prog Tryz.f14 [[0],[0]]=some f85:=by kernel_rfl
theorem c86:aM Tryz.prog Tryz.f15 [[],[0]]=some f86:=by kernel_rfl
theorem c87:aM Tryz.prog Tryz.f18 [[0],[0]]=some f87:=by kernel_rfl
theorem c88:aM Tryz.prog Tryz.f20 [[],[0]]=some f88:=by kernel_rfl
theorem c89:aM Tryz.prog Tryz.f51 [[1],[2]]=some f89:=by kernel_rfl
theorem c90:aM Tryz.prog Tryz.f52 [[1],[2]]=some f90:=by kernel_rfl
theorem c91:aM Tryz.prog Tryz.f54 [[1],[2]]=some f91:=by kernel_rfl
theorem c92:aM Tryz.prog Tryz.f55 [[2,3],[2,5],[2,5,16,17],[2,5,16,17,18],[2,5,7,16,17],[2,5,16,17],[2,5,16,17],[5],[5],[4]]=some f92:=by kernel_rfl
theorem c96:aM Tryz.prog Tryz.f23 [[1,2,3],[3,8,9],[8,9,22],[8,9],[8,9,24],[6,7],[8],[6,7]]=some f96:=by kernel_rfl
theorem c97:aM Tryz.prog Tryz.f25 [[0,2],[0,2],[2],[2]]=some f97:=by kernel_rfl
theorem c98:aM Tryz.prog Tryz.f26 [[]]=some f98:=by kernel_rfl
theorem c99:aM Tryz.prog Tryz.f27 [[3,4,5],[3,4,5,6],[3,4,5,6,7],[4,5,6,7],[4,5,6,7,8],[4,5,6,7,8,17],[4,5,6,7,8],[4,6,7,8],[4,6,7,8,9],[4,6,7,8,9,22,23,24],[4,6,7,8,9,22,23,24,25],[4,6,7,8,9,11,22,23,24],[4,6,7,8,9,22,23,24,32,33,34],[4,6,7,8,9,22,23,24,32,33,34,35],[4,6,7,8,9,13,22,23,24,32,33,34],[4,6,7,8,9,13,22,23,24,32,33,34],[4,6,7,8,9,22,23,24,32,33,34],[4,6,7,8,9,22,23,24,32,33,34],[4,6,7,8,9,22,23,24],[4,6],[]]=some f99:=by kernel_rfl
theorem T4:aM Tryz.prog Tryz.f28 [[0,1],[4]]=some f104:=by kernel_rfl
theorem T5:aM Tryz.prog Tryz.f29 [[0],[2]]=some f105:=by kernel_rfl
theorem T6:aM Tryz.prog Tryz.f30 [[0,1,2],[6]]=some f106:=by kernel_rfl
theorem T7:aM Tryz.prog Tryz.f31 [[0,1],[0,1,9,10,11],[0,1,9,10,11,12],[0,1,5,6,9,10,11],[0,1,5,6,9,10,11,19],[4],[0,1,6,7,9,10,11],[0,1,8,9,10,11],[0,1,8,9,10,11,28],[4],[0,1,9,10,11],[35],[4],[4]]=some f107:=by kernel_rfl
theorem T8:aM Tryz.prog Tryz.f32 [[0,3],[0,3,4,6],[0,3,6,15],[4,5],[0,3,6,20,21],[0,3,6,20,21,22],[0,3,6,7,20,21],[0,3,6,20,21,29],[4,5],[0,3,6,20,21],[4,5]]=some f108:=by kernel_rfl
theorem T9:aM Tryz.prog Tryz.f33 [[4,5,6,7,8],[4,5,6,7,8,18],[4,5,6,7,8,9],[4,5,6,7,8,9,10],[4,5,6,7,8,9,10,20,21],[4,5,6,7,8,9,10,20,21,22],[4,5,6,7,8,9,10,12,20,21],[4,5,6,7,8,9,10,13,20,21],[4,5,6,7,8,9,10,13,14,20,21],[4,5,6,7,8,9,10,20,21,62],[4,5,6,7,8,9,10,20,21],[4,5,6,7,8,9,10,20,21],[8,65],[],[8]]=some f109:=by kernel_rfl
theorem Ua:aM Tryz.prog Tryz.f81 [[2,3],[4]]=some f120:=by kernel_rfl
theorem Ub:aM Tryz.prog Tryz.f76 [[2,3,4],[2,3,4,6],[2,3,4,6,7],[2,3,4,5,6],[2,3,4,6],[2,3,4,6],[4]]=some f121:=by kernel_rfl
theorem WS:aM Tryz.prog Tryz.f45 [[1,2,4],[1,4,5],[4,5,10,11,12],[4,5,10,11,12,13],[4,5,7,10,11,12],[4,5,7,10,11,12,18],[4,5,10,11,12],[4,5,10,11,12],[4,5,10,11,12],[4]]=some f122:=by kernel_rfl
theorem Uc:aM Tryz.prog Tryz.f47 [[1],[2]]=some f123:=by kernel_rfl
theorem Ud:aM Tryz.prog Tryz.f48 [[2,3,4],[2,3,4,6],[2,3,4,6,7],[2,3,4,5,6],[2,3,4,6],[2,3,4,6],[4]]=some f124:=by kernel_rfl
theorem WT:aM Tryz.prog Tryz.f49 [[0,1,5],[0,1,5,7],[1,5,7,10,11,12],[1,5,7,10,11,12,13],[1,5,7,9,10,11,12],[1,5,7,9,10,11,12,29],[1,5,7,10,11,12],[1,5,7,10,11,12],[6]]=some f125:=by kernel_rfl
theorem Ue:aM Tryz.prog Tryz.f79 [[1],[2]]=some f126:=by kernel_rfl
theorem Uf:aM Tryz.prog Tryz.f80 [[1],[2]]=some f127:=by kernel_rfl
theorem Ug:aM Tryz.prog Tryz.f24 [[2,3],[2,3,5,6],[2,3,5,20],[4],[2,3,7],[2,3,7,9],[2,3,7,28],[2,3,7],[2,3,7,31],[2,3,7,10],[],[7],[4]]=some f128:=by kernel_rfl
theorem WU:aM Tryz.prog Tryz.f97 [[0,3],[0,3,5],[0,3,5,7],[4],[0,3,5,11],[4],[0,3,5,15],[4],[0,3,5,22],[4],[0,3,5,38],[4],[0,3,6],[0,3,57],[4],[61],[4],[4]]=some f129:=by kernel_rfl
theorem WV:aM Tryz.prog Tryz.f71 [[0],[0,4],[2],[2]]=some f131:=by kernel_rfl
theorem WW:aM Tryz.prog Tryz.f70 [[0,1],[0,1,5],[0,1,5,12],[4],[0,1,5,6],[0,1,5,6,19],[0,1,5,6,7],[0,1,5,6,7,29],[0,1,5,6],[0,1,5,6],[0,1,5,6],[0,5],[4]]=some f132:=by kernel_rfl
theorem WX:aM Tryz.prog Tryz.f72 [[1,2],[3]]=some f133:=by kernel_rfl
theorem WY:aM Tryz.prog Tryz.f73 [[1,2],[3]]=some f134:=by kernel_rfl
theorem WZ:aM Tryz.prog Tryz.f74 [[0,3],[4]]=some f135:=by kernel_rfl
theorem Uh:aM Tryz.prog Tryz.f56 [[1,2,3],[1,2,3,11],[6,7],[1,2,3,14],[6,7],[1,2,3,16],[6,7],[1,2,3,8],[1,2,3,8,20],[6,7],[6,7]]=some f141:=by kernel_rfl
theorem Ui:aM Tryz.prog Tryz.f63 [[0,3,4],[0,3,4,6],[0,3,4,6,17,18,19],[0,3,4,6,17,18,19,20],[0,3,4,6,7,8,17,18,19],[0,3,4,6,8,17,18,19,27],[0,3,4,6,17,18,19],[0,3,4,6,17,18,19],[4,5]]=some f143:=by kernel_rfl
theorem Uj:aM Tryz.prog Tryz.f37 [[2,3],[4]]=some f147:=by kernel_rfl
theorem Uk:aM Tryz.prog Tryz.f39 [[1,2,3,6],[3,6],[6]]=some f149:=by kernel_rfl
theorem Ul:aM Tryz.prog Tryz.f116 [[0,1],[4]]=some f155:=by kernel_rfl
theorem Um:aM Tryz.prog Tryz.f117 [[1],[2]]=some f156:=by kernel_rfl
theorem Un:aM Tryz.prog Tryz.f110 [[0,1],[0],[4]]=some f167:=by kernel_rfl
theorem Xg:aM Tryz.prog Tryz.f111 [[2,3],[4]]=some f168:=by kernel_rfl
theorem Uo:aM Tryz.prog Tryz.f75 [[2,3,4],[2,3,4,6],[2,3,4,6,7],[2,3,4,5,6],[2,3,4,6],[2,3,4,6],[4]]=some f174:=by kernel_rfl
theorem Up:aM Tryz.prog Tryz.f82 [[1],[1,3],[3,6,7],[3,6,7,8],[3,5,6,7],[3,6,7],[3,6,7],[2]]=some f188:=by kernel_rfl
theorem Xj:aM Tryz.prog Tryz.f84 [[0,1,4],[]]=some f189:=by kernel_rfl
theorem Xk:aM Tryz.prog Tryz.f85 [[2,3],[4]]=some f190:=by kernel_rfl
theorem Xl:aM Tryz.prog Tryz.f86 [[0,1],[0,1,9,10,11],[0,1,9,10,11,12],[0,1,5,6,9,10,11],[0,1,5,6,9,10,11,19],[4],[0,1,6,7,9,10,11],[0,1,8,9,10,11],[0,1,8,9,10,11,28],[4],[0,1,9,10,11],[35],[4],[4]]=some f191:=by kernel_rfl
theorem Uq:aM Tryz.prog Tryz.f87 [[0],[0,8],[2],[0,3],[0,3,13],[0,3,25],[0,3,4],[0,3,4,5],[0,3,4,5,32],[0,3,4,5,44],[0,3,4,5],[0,3,4,5],[0,3,4,5],[0,3],[2],[0,3],[2]]=some f192:=by kernel_rfl
theorem Ur:aM Tryz.prog Tryz.f88 [[0,1],[0,1,5],[0,1,5,12],[4],[0,1,5,6],[0,1,5,6,19],[0,1,5,6,7],[0,1,5,6,7,29],[0,1,5,6],[0,1,5,6],[0,1,5,6],[0,5],[4]]=some f193:=by kernel_rfl
theorem Us:aM Tryz.prog Tryz.f89 [[0],[0,4],[2],[2]]=some f194:=by kernel_rfl
theorem Ut:aM Tryz.prog Tryz.f90 [[1,2],[3]]=some f195:=by kernel_rfl
theorem Uu:aM Tryz.prog Tryz.f91 [[0,1],[4]]=some f196:=by kernel_rfl
theorem Uv:aM Tryz.prog Tryz.f92 [[1,2],[3]]=some f197:=by kernel_rfl
theorem Uw:aM Tryz.prog Tryz.f57 [[0,7,8,9],[0,7,8,9,10],[0,3,7,8,9],[0,7,8,9],[0,7,8,9]]=some f201:=by kernel_rfl
theorem Ux:aM Tryz.prog Tryz.f58 [[0,1],[0,1,6],[0,1,3],[0,1,13],[0],[]]=some f202:=by kernel_rfl
theorem Uy:aM Tryz.prog Tryz.f59 [[1,2,3,4,5,6,7,8,9],[1,2,3,4,5,6,7,8,9,13,14],[1,2,3,4,5,6,7,8,9,13,14,23],[],[1,3,4,5,6,7,8,9],[1,3,4,5,7,8,9],[1,3,4,5,7,8,9,15],[1,3,4,5,7,8,9,15],[1,3,5,7,8,9,15],[1,3,5,8,9,15],[1,3,5,8,9,15],[]]=some f203:=by kernel_rfl
theorem Uz:aM Tryz.prog Tryz.f60 [[3],[]]=some f204:=by kernel_rfl
theorem UA:aM Tryz.prog Tryz.f61 [[0,1],[0,1,7,8],[0,1,7,8,9],[0,1,5,7,8],[0,1,5,7,8,16],[4],[0,1,7,8],[4]]=some f205:=by kernel_rfl
theorem UB:aM Tryz.prog Tryz.f62 [[0,1],[0,1,5],[0,1,5,6],[0,1,6,11],[12],[4],[4],[0,1,13],[4],[0,1,16],[4],[19],[4],[4]]=some f206:=by kernel_rfl
theorem UC:aM Tryz.prog Tryz.f64 [[0,3,5,6],[0,3,5,6,9],[0,5,6,9,18,19,20],[0,5,6,9,18,19,20,21],[0,5,6,9,11,18,19,20],[0,5,6,9,11,18,19,20,24],[9],[0,5,6,9,18,19,20,28],[0,5,6,9,18,19,20],[0,5,6,9,18,19,20],[8]]=some f207:=by kernel_rfl
theorem UD:aM Tryz.prog Tryz.f105 [[0,1,2,4,5],[0,1,2,4,27],[0,1,2,4,28],[0,1,2,4,28,29],[0,1,2,4,6,28],[0,1,2,4,6,7,28],[0,1,2,4,6,7,28],[0,1,2,4,6,7,8,9,28],[0,1,2,4,6,7,8,9,10,28],[0,1,2,4,6,7,8,9,10,28,61],[0,1,2,4,6,7,8,9,10,11,28],[0,1,2,4,6,7,8,9,10,11,28,77],[0,1,2,4,6,7,8,9,10,11,12,28],[0,1,2,4,6,7,8,9,10,11,12,28,93],[0,1,2,4,6,7,8,9,10,11,12,13,28],[0,1,2,4,6,7,8,9,10,11,12,28,114],[0,1,2,4,6,7,8,9,10,11,12,28],[0,1,2,4,6,7,8,9,10,11,28],[0,1,2,4,6,7,8,9,10,28],[0,1,2,4,28]]=some f209:=by kernel_rfl
theorem UE:aM Tryz.prog Tryz.f106 [[1,2],[1,2,10],[2,3],[1,2,4],[2,4,15],[4,5],[5,6,7],[5,7],[],[2,3]]=some f210:=by kernel_rfl
theorem UF:aM Tryz.prog Tryz.f107 [[2,3,4],[4,5],[4]]=some f211:=by kernel_rfl
theorem UG:aM Tryz.prog Tryz.f108 [[1,2,3,4,8],[1,2,3,4,8,9],[1,2,3,4,8,9,10],[1,2,3,4,8,9,10,21],[1,2,3,4,8,9,10,11],[1,2,3,4,8,9,10,11,29],[1,2,3,4,8,9,10],[1,2,3,4,8,9,10],[1,2,3,4,8,9,10],[8]]=some f212:=by kernel_rfl
theorem UH:aM Tryz.prog Tryz.f77 [[0],[2]]=some f213:=by kernel_rfl
theorem UI:aM Tryz.prog Tryz.f78 [[1],[2]]=some f214:=by kernel_rfl
theorem UJ:aM Tryz.prog Tryz.f104 [[0,1,2],[6]]=some f215:=by kernel_rfl
theorem Xm:aM Tryz.prog Tryz.f118 [[1],[2]]=some f216:=by kernel_rfl
theorem Xn:aM Tryz.prog Tryz.f119 [[1,2],[3]]=some f217:=by kernel_rfl
theorem Xo:aM Tryz.prog Tryz.f99 [[0,1],[4]]=some f218:=by kernel_rfl
theorem Xp:aM Tryz.prog Tryz.f98 [[0,1],[0,1,7,8],[0,1,7,8,9],[0,1,5,7,8],[0,1,5,7,8,16],[4],[0,1,7,8],[4]]=some f219:=by kernel_rfl
theorem Xq:aM Tryz.prog Tryz.f100 [[1,2],[3]]=some f220:=by kernel_rfl
theorem UK:aM Tryz.prog Tryz.f95 [[0,4,5],[4,5,12,13,14],[4,5,12,13,14,15],[4,5,7,8,12,13,14],[4,5,12,13,14,28],[6],[4,5,12,13,14],[6]]=some f226:=by kernel_rfl
theorem UL:aM Tryz.prog Tryz.f66 [[0,2,9,10],[0,2,9,10,11],[0,2,4,9,10],[0,2,9,10,22],[0,2,9,10]]=some f228:=by kernel_rfl
theorem UM:aM Tryz.prog Tryz.f135 [[0,1],[0,1,7,8],[0,1,7,8,9],[0,1,5,7,8],[0,1,5,7,8,16],[4],[0,1,7,8],[4]]=some f231:=by kernel_rfl
theorem Xv:aM Tryz.prog Tryz.f113 [[0],[2],[2]]=some f241:=by kernel_rfl
theorem UN:aM Tryz.prog Tryz.f109 [[0],[0],[0],[0],[0],[0],[0],[2]]=some f254:=by kernel_rfl
theorem Xw:aM Tryz.prog Tryz.f112 [[0,1,2,3,4,10],[0,1,2,3,4,10,11],[0,1,2,3,4,10,11,12],[0,1,2,3,4,10,11,12,25],[],[0,1,2,3,4,10,11,12,32],[],[0,1,2,3,4,10,11,12,39],[0,1,2,3,4,10,11,12],[0,1,2,3,4,10,11,12],[0,1,2,3,4,10,11,12,13,14],[0,1,2,3,4,10,11,12,13,14,56],[0,1,2,3,4,10,11,12,13],[0,1,2,3,4,10,11,12,13],[0,1,2,3,4,10,11,12,13,14],[0,1,2,3,4,10,11,12,13,75],[0,1,2,3,4,10,11,12,13,80],[0,1,2,3,4,10,11,12,13,97],[0,2,3,4,10,11,15],[0,1,2,3,4,10,11],[0,1,2,3,4,12,16,17],[0,1,2,3,4,11,12,16],[0,1,2,3,4,11,12,16,18,19],[0,1,2,3,4,11,16,18,19,20],[0,1,2,3,4,11,16,18,19,20,125],[0,1,2,3,4,10,11,16],[0,2,3,4,10,11,16],[0,1,2,3,4,10,11],[0,1,2,3,4,10,11,16],[0,1,3,4,10,11,16],[0,1,2,3,4,10,11]]=some f255:=by kernel_rfl
theorem Xx:aM Tryz.prog Tryz.f114 [[0,1],[0,1,5],[0,1,5,6],[0,1,6,11],[12],[4],[4],[0,1,13],[4],[0,1,16],[4],[19],[4],[4]]=some f256:=by kernel_rfl
theorem UO:aM Tryz.prog Tryz.f115 [[0,1],[0,1,7,8],[0,1,7,8,9],[0,1,5,7,8],[0,1,5,7,8,16],[4],[0,1,7,8],[4]]=some f257:=by kernel_rfl
theorem UP:aM Tryz.prog Tryz.f94 [[0],[2]]=some f260:=by kernel_rfl
theorem UQ:aM Tryz.prog Tryz.f121 [[2,3,4,5],[2,3,4,5,6],[3,4,5,6,10],[3,4,5,6,7],[4,5,6,8],[4,5,6,8,17],[],[],[4,5]]=some f261:=by kernel_rfl
theorem UR:aM Tryz.prog Tryz.f122 [[1,2,3],[3]]=some f262:=by kernel_rfl
theorem US:aM Tryz.prog Tryz.f123 [[1,2,4],[1,2,4,5],[1,2,4,6],[1,2,4],[2,4,27,28],[2,4,27,28,29],[2,4,27,28],[2,4,27,28],[4]]=some f263:=by kernel_rfl
theorem UT:aM Tryz.prog Tryz.f101 [[1,2],[2,6],[2,5],[],[4]]=some f264:=by kernel_rfl
theorem UU:aM Tryz.prog Tryz.f102 [[0,6,7],[0,6,7,8],[0,3,4,6,7],[0,3,4,6,7,12],[0,3,4,5,6,7],[0,3,4,6,7,27],[0,3,4,6,7],[0,6,7]]=some f265:=by kernel_rfl
theorem UW:aM Tryz.prog Tryz.f103 [[0],[0,4],[2],[2]]=some f266:=by kernel_rfl
theorem Xy:aM Tryz.prog Tryz.f133 [[0,2],[0,2,4],[0],[0,2],[0,2,8],[0,2],[0,2],[0,2,14],[0,2],[0,2],[2]]=some f291:=by kernel_rfl
theorem Xz:aM Tryz.prog Tryz.f124 [[0,1,2,3,8],[0,1,2,3,8,14],[0,1,2,3,8,9],[0,1,2,3,8,9,34],[0,1,2,3,8,9],[0,1,2,3,8,9],[0,1,2,3,8]]=some f307:=by kernel_rfl
theorem XA:aM Tryz.prog Tryz.f134 [[0],[2]]=some f315:=by kernel_rfl
theorem UX:aM Tryz.prog Tryz.f136 [[3,4],[4]]=some f317:=by kernel_rfl
theorem UY:aM Tryz.prog Tryz.f137 [[3,4],[4]]=some f318:=by kernel_rfl
theorem UZ:aM Tryz.prog Tryz.f138 [[3,4],[4]]=some f319:=by kernel_rfl
theorem U0:aM Tryz.prog Tryz.f139 [[3,4],[4]]=some f320:=by kernel_rfl
theorem U1:aM Tryz.prog Tryz.f140 [[3,4],[4]]=some f321:=by kernel_rfl
theorem U2:aM Tryz.prog Tryz.f141 [[3,4],[4]]=some f322:=by kernel_rfl
theorem all:tree.all (Entry Tryz.prog):=by
 unfold tree;exact(Tr.aa (Tr.aa (Tr.aa (Tr.aa (Tr.aa (Tr.aa (Tr.aa zq0 (.of Tryz.func6 c21) zq0) (.of Tryz.func7 c39) (Tr.aa zq0 (.of Tryz.func8 c27) zq0)) (.of Tryz.func9 c29) (Tr.aa (Tr.aa zq0 (.of Tryz.func13 c37) zq0) (.of Tryz.func14 c85) (Tr.aa zq0 (.of Tryz.func15 c86) zq0))) (.of Tryz.func16 c36) (Tr.aa (Tr.aa (Tr.aa zq0 (.of Tryz.func17 c33) zq0) (.of Tryz.func18 c87) (Tr.aa zq0 (.of Tryz.func19 c22) zq0)) (.of Tryz.func20 c88) (Tr.aa (Tr.aa zq0 (.of Tryz.func21 c75) zq0) (.of Tryz.func22 c24) zq0))) (.of Tryz.func23 c96) (Tr.aa (Tr.aa (Tr.aa (Tr.aa zq0 (.of Tryz.func24 Ug) zq0) (.of Tryz.func25 c97) (Tr.aa zq0 (.of Tryz.func26 c98) zq0)) (.of Tryz.func27 c99) (Tr.aa (Tr.aa zq0 (.of Tryz.func28 T4) zq0) (.of Tryz.func29 T5) zq0)) (.of Tryz.func30 T6) (Tr.aa (Tr.aa (Tr.aa zq0 (.of Tryz.func31 T7) zq0) (.of Tryz.func32 T8) (Tr.aa zq0 (.of Tryz.func33 T9) zq0)) (.of Tryz.func37 Uj) (Tr.aa (Tr.aa zq0 (.of Tryz.func39 Uk) zq0) (.of Tryz.func44 c44) zq0)))) (.of Tryz.func45 WS) (Tr.aa (Tr.aa (Tr.aa (Tr.aa (Tr.aa zq0 XU zq0) (.of Tryz.func47 Uc) (Tr.aa zq0 (.of Tryz.func48 Ud) zq0)) (.of Tryz.func49 WT) (Tr.aa (Tr.aa zq0 (.of Tryz.func50 c38) zq0) (.of Tryz.func51 c89) zq0)) (.of Tryz.func52 c90) (Tr.aa (Tr.aa (Tr.aa zq0 (.of Tryz.func53 c34) zq0) (.of Tryz.func54 c91) (Tr.aa zq0 (.of Tryz.func55 c92) zq0)) (.of Tryz.func56 Uh) (Tr.aa (Tr.aa zq0 (.of Tryz.func57 Uw) zq0) (.of Tryz.func58 Ux) zq0))) (.of Tryz.func59 Uy) (Tr.aa (Tr.aa (Tr.aa (Tr.aa zq0 (.of Tryz.func60 Uz) zq0) (.of Tryz.func61 UA) (Tr.aa zq0 (.of Tryz.func62 UB) zq0)) (.of Tryz.func63 Ui) (Tr.aa (Tr.aa zq0 (.of Tryz.func64 UC) zq0) (.of Tryz.func66 UL) zq0)) (.of Tryz.func69 c40) (Tr.aa (Tr.aa (Tr.aa zq0 (.of Tryz.func70 WW) zq0) (.of Tryz.func71 WV) (Tr.aa zq0 (.of Tryz.func72 WX) zq0)) (.of Tryz.func73 WY) (Tr.aa (Tr.aa zq0 (.of Tryz.func74 WZ) zq0) (.of Tryz.func75 Uo) zq0))))) (.of Tryz.func76 Ub) (Tr.aa (Tr.aa (Tr.aa (Tr.aa (Tr.aa (Tr.aa zq0 (.of Tryz.func77 UH) zq0) (.of Tryz.func78 UI) (Tr.aa zq0 (.of Tryz.func79 Ue) zq0)) (.of Tryz.func80 Uf) (Tr.aa (Tr.aa zq0 (.of Tryz.func81 Ua) zq0) (.of Tryz.func82 Up) (Tr.aa zq0 (.of Tryz.func83 c72) zq0))) (.of Tryz.func84 Xj) (Tr.aa (Tr.aa (Tr.aa zq0 (.of Tryz.func85 Xk) zq0) (.of Tryz.func86 Xl) (Tr.aa zq0 (.of Tryz.func87 Uq) zq0)) (.of Tryz.func88 Ur) (Tr.aa (Tr.aa zq0 (.of Tryz.func89 Us) zq0) (.of Tryz.func90 Ut) zq0))) (.of Tryz.func91 Uu) (Tr.aa (Tr.aa (Tr.aa (Tr.aa zq0 (.of Tryz.func92 Uv) zq0) (.of Tryz.func93 c62) (Tr.aa zq0 (.of Tryz.func94 UP) zq0)) (.of Tryz.func95 UK) (Tr.aa (Tr.aa zq0 (.of Tryz.func97 WU) zq0) (.of Tryz.func98 Xp) zq0)) (.of Tryz.func99 Xo) (Tr.aa (Tr.aa (Tr.aa zq0 (.of Tryz.func100 Xq) zq0) (.of Tryz.func101 UT) (Tr.aa zq0 (.of Tryz.func102 UU) zq0)) (.of Tryz.func103 UW) (Tr.aa (Tr.aa zq0 (.of Tryz.func104 UJ) zq0) (.of Tryz.func105 UD) zq0)))) (.of Tryz.func106 UE) (Tr.aa (Tr.aa (Tr.aa (Tr.aa (Tr.aa zq0 (.of Tryz.func107 UF) zq0) (.of Tryz.func108 UG) (Tr.aa zq0 (.of Tryz.func109 UN) zq0)) (.of Tryz.func110 Un) (Tr.aa (Tr.aa zq0 (.of Tryz.func111 Xg) zq0) (.of Tryz.func112 Xw) zq0)) (.of Tryz.func113 Xv) (Tr.aa (Tr.aa (Tr.aa zq0 (.of Tryz.func114 Xx) zq0) (.of Tryz.func115 UO) (Tr.aa zq0 (.of Tryz.func116 Ul) zq0)) (.of Tryz.func117 Um) (Tr.aa (Tr.aa zq0 (.of Tryz.func118 Xm) zq0) (.of Tryz.func119 Xn) zq0))) (.of Tryz.func120 c47) (Tr.aa (Tr.aa (Tr.aa (Tr.aa zq0 (.of Tryz.func121 UQ) zq0) (.of Tryz.func122 UR) (Tr.aa zq0 (.of Tryz.func123 US) zq0)) (.of Tryz.func124 Xz) (Tr.aa (Tr.aa zq0 (.of Tryz.func133 Xy) zq0) (.of Tryz.func134 XA) zq0)) (.of Tryz.func135 UM) (Tr.aa (Tr.aa (Tr.aa zq0 (.of Tryz.func136 UX) zq0) (.of Tryz.func137 UY) (Tr.aa zq0 (.of Tryz.func138 UZ) zq0)) (.of Tryz.func139 U0) (Tr.aa (Tr.aa zq0 (.of Tryz.func140 U1) zq0) (.of Tryz.func141 U2) zq0))))))
theorem sound:ez Tryz.prog T:=qR (by kernel_rfl) all
end Go.A.Pk
