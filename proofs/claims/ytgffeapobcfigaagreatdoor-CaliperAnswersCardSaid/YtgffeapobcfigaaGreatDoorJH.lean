/- The table is the program. -/
import Derived.Test.YtgffeapobcfigaaGreatDoorJV
import Derived.Test.YtgffeapobcfigaaGreatDoorJD
import Derived.Test.YtgffeapobcfigaaGreatDoorProg
import Derived.KernelRfl
import Derived.Test.YtgffeapobcfigaaGreatDoorJG
set_option linter.all false
set_option maxRecDepth 100000
open Go Go.A Go.Proofs
namespace Go.A.Pk
def JA:Tr:=(.node (.node .nil 35 f35 .nil) 121 f121 .nil)
def TB:Nat->Option af:=JA.get
theorem b35:aI Tryz.prog Tryz.f35 [[2,3],[4]]=some f35:=by kernel_rfl
theorem Ru:aI Tryz.prog Tryz.f121 [[2,3,4],[2,3,4,6],[2,3,4,6,7],[2,3,4,5,6],[2,3,4,6],[2,3,4,6],[4]]=some f121:=by kernel_rfl
abbrev zq0:=@Tr.all_nil
theorem Rr:JA.all (Entry Tryz.prog):=by
 unfold JA;exact(Tr.aa (Tr.aa zq0 (.of Tryz.func35 b35) zq0) (.of Tryz.func121 Ru) zq0)
theorem Jf:dR Tryz.prog TB:=pn (by kernel_rfl) Rr
theorem lW:Tryz.prog.globals.size<=1000:=of_decide_eq_true (by kernel_rfl)
theorem SV:Entry Tryz.prog 35 (.jN pIn):= .jN (Iw Jf (n:=1000) Tryz.func35 (of_decide_eq_true (by kernel_rfl)) (by kernel_rfl) lW (by kernel_rfl) (Lf Jf.aR (by kernel_rfl) (by kernel_rfl)))
theorem c21:aI Tryz.prog Tryz.f21 [[],[1,2],[1,2,4],[1,2,4,5,6,7,8],[1,2,4,5,6,7,8,9,10],[1,2,4,5,6,7,8,9,10,11,12],[1,2,4,5,6,7,8,9,10,11,12,13,14],[1,2,4,5,6,7,8,9,10,11,12,13,14,16],[1,2,4,5,6,7,8,9,10,11,12,13,14,16,17,18],[1,2,4,5,6,7,8,9,10,11,12,13,14,16,17,18,19,20],[1,5,6,7,9,11,13,17,19,132],[0],[9,11,13,17,19,21],[0]]=some f21:=by kernel_rfl
theorem c22:aI Tryz.prog Tryz.f22 [[2,3],[2,3,12],[4,5],[2,3,14],[4,5],[4,5]]=some f22:=by kernel_rfl
theorem c24:aI Tryz.prog Tryz.f24 [[0,1],[0,1,10],[4],[0,1,5],[0,1,5,14],[0,1,5,25],[4],[0,1,5],[4]]=some f24:=by kernel_rfl
theorem c27:aI Tryz.prog Tryz.f27 [[1,2,5,8,9],[8,9,12,13],[8,9,12,13,22],[10,11],[8,9,12,26],[10,11],[10,11]]=some f27:=by kernel_rfl
theorem c29:aI Tryz.prog Tryz.f29 [[1,2,3,4,5],[1,3,4,12,13],[1,3,4,12,13,30],[10,11],[1,3,4,12,34],[10,11],[1,3,4,12,14],[1,3,4,12,14,36,37,38],[1,3,4,12,14,36,37,38,39],[1,3,4,12,14,15,16,36,37,38],[1,3,4,12,14,15,16,17,36,37,38],[1,3,4,12,14,16,17,36,37,38,76],[10,11],[1,3,4,12,14,16,17,36,37,38],[1,3,4,12,14,36,37,38],[1,3,4,12,14,36,37,38],[4,12,14,87],[4,12,14,87,89],[4,12,14,18,19,87],[4,12,14,18,19,21,87],[4,12,14,87,108],[10,11],[10,11]]=some f29:=by kernel_rfl
theorem c33:aI Tryz.prog Tryz.f33 [[2,3],[2,3,16],[4,5],[2,3,7],[2,3,24],[4,5],[9],[32],[4,5],[4,5]]=some f33:=by kernel_rfl
theorem c34:aI Tryz.prog Tryz.f34 [[2,3,4],[2,3,4,11],[4,5],[2,3,4,6],[2,3,4,6,7],[4,6,7,15],[6,7,8],[],[4,5]]=some f34:=by kernel_rfl
theorem c36:aI Tryz.prog Tryz.f36 [[1,2,3,6],[3,6,10,11],[3,6,10,11,23],[6,7,8,9],[3,6,10,12],[3,6,10,34,35,36],[3,6,10,34,36,37],[3,6,10,14],[3,6,10,14,15],[6,10,14,15,46],[6,14,15],[6,7,8,9],[3,6,10,34,35,36],[6,7,8,9]]=some f36:=by kernel_rfl
theorem c37:aI Tryz.prog Tryz.f37 [[1,2,3,6],[3,6,8,9],[3,6,8,9,18],[6,7],[6,10],[6,10,29],[6,7],[6,7]]=some f37:=by kernel_rfl
theorem c38:aI Tryz.prog Tryz.f38 [[2,3],[4]]=some f38:=by kernel_rfl
theorem c39:aI Tryz.prog Tryz.f39 [[1,2,3],[8,9],[8,9,19],[6,7],[10],[10,25],[6,7],[6,7]]=some f39:=by kernel_rfl
theorem c40:aI Tryz.prog Tryz.f40 [[0],[0,7,8,9],[0,7,8,9,10],[0,4,5,7,8,9],[0,4,6,7,8,9],[0,4,6,7,8,9,21],[2,3],[0,7,8,9],[2,3]]=some f40:=by kernel_rfl
theorem c44:aI Tryz.prog Tryz.f44 [[0,3],[0,3,7],[0,3,7,15],[4,5],[8],[4,5]]=some f44:=by kernel_rfl
theorem c47:aI Tryz.prog Tryz.f47 [[1],[1,3],[1,3,13],[1,3,13,14],[1,3,13,14],[3],[1,3,29],[3],[3],[43],[2],[2]]=some f47:=by kernel_rfl
theorem c62:aI Tryz.prog Tryz.f62 [[0],[0,5],[2],[7],[2],[2]]=some f62:=by kernel_rfl
theorem c72:aI Tryz.prog Tryz.f72 [[2,3],[2,3,11],[4,5],[2,3,6],[6,14],[6,8],[],[4,5]]=some f72:=by kernel_rfl
theorem c75:aI Tryz.prog Tryz.f75 [[0,1],[0,1,10],[4],[0,1,5],[0,1,5,14],[0,1,5,25],[4],[0,1,5],[4]]=some f75:=by kernel_rfl
theorem c85:aI Tryz.prog Tryz.f85 [[0],[0]]=some f85:=by kernel_rfl
theorem c86:aI Tryz.prog Tryz.f86 [[],[0]]=some f86:=by kernel_rfl
theorem c87:aI Tryz.prog Tryz.f87 [[0],[0]]=some f87:=by kernel_rfl
theorem c88:aI Tryz.prog Tryz.f88 [[],[0]]=some f88:=by kernel_rfl
theorem c89:aI Tryz.prog Tryz.f89 [[1],[2]]=some f89:=by kernel_rfl
theorem c90:aI Tryz.prog Tryz.f90 [[1],[2]]=some f90:=by kernel_rfl
theorem c91:aI Tryz.prog Tryz.f91 [[1],[2]]=some f91:=by kernel_rfl
theorem c92:aI Tryz.prog Tryz.f92 [[2,3],[2,5],[2,5,16,17],[2,5,16,17,18],[2,5,7,16,17],[2,5,16,17],[2,5,16,17],[5],[5],[4]]=some f92:=by kernel_rfl
theorem c96:aI Tryz.prog Tryz.f96 [[1,2,3],[3,8,9],[8,9,22],[8,9],[8,9,24],[6,7],[8],[6,7]]=some f96:=by kernel_rfl
theorem c97:aI Tryz.prog Tryz.f97 [[0,2],[0,2],[2],[2]]=some f97:=by kernel_rfl
theorem c98:aI Tryz.prog Tryz.f98 [[]]=some f98:=by kernel_rfl
theorem c99:aI Tryz.prog Tryz.f99 [[3,4,5],[3,4,5,6],[3,4,5,6,7],[4,5,6,7],[4,5,6,7,8],[4,5,6,7,8,17],[4,5,6,7,8],[4,6,7,8],[4,6,7,8,9],[4,6,7,8,9,22,23,24],[4,6,7,8,9,22,23,24,25],[4,6,7,8,9,11,22,23,24],[4,6,7,8,9,22,23,24,32,33,34],[4,6,7,8,9,22,23,24,32,33,34,35],[4,6,7,8,9,13,22,23,24,32,33,34],[4,6,7,8,9,13,22,23,24,32,33,34],[4,6,7,8,9,22,23,24,32,33,34],[4,6,7,8,9,22,23,24,32,33,34],[4,6,7,8,9,22,23,24],[4,6],[]]=some f99:=by kernel_rfl
theorem RA:aI Tryz.prog Tryz.f104 [[0,1],[4]]=some f104:=by kernel_rfl
theorem RB:aI Tryz.prog Tryz.f105 [[0],[2]]=some f105:=by kernel_rfl
theorem Pa:aI Tryz.prog Tryz.f106 [[0,1,2],[6]]=some f106:=by kernel_rfl
theorem RC:aI Tryz.prog Tryz.f107 [[0,1],[0,1,9,10,11],[0,1,9,10,11,12],[0,1,5,6,9,10,11],[0,1,5,6,9,10,11,19],[4],[0,1,6,7,9,10,11],[0,1,8,9,10,11],[0,1,8,9,10,11,28],[4],[0,1,9,10,11],[35],[4],[4]]=some f107:=by kernel_rfl
theorem RD:aI Tryz.prog Tryz.f108 [[0,3],[0,3,4,6],[0,3,6,15],[4,5],[0,3,6,20,21],[0,3,6,20,21,22],[0,3,6,7,20,21],[0,3,6,20,21,29],[4,5],[0,3,6,20,21],[4,5]]=some f108:=by kernel_rfl
theorem RE:aI Tryz.prog Tryz.f109 [[4,5,6,7,8],[4,5,6,7,8,18],[4,5,6,7,8,9],[4,5,6,7,8,9,10],[4,5,6,7,8,9,10,20,21],[4,5,6,7,8,9,10,20,21,22],[4,5,6,7,8,9,10,12,20,21],[4,5,6,7,8,9,10,13,20,21],[4,5,6,7,8,9,10,13,14,20,21],[4,5,6,7,8,9,10,20,21,62],[4,5,6,7,8,9,10,20,21],[4,5,6,7,8,9,10,20,21],[8,65],[],[8]]=some f109:=by kernel_rfl
theorem Pc:aI Tryz.prog Tryz.f120 [[2,3],[4]]=some f120:=by kernel_rfl
theorem Pd:aI Tryz.prog Tryz.f121 [[2,3,4],[2,3,4,6],[2,3,4,6,7],[2,3,4,5,6],[2,3,4,6],[2,3,4,6],[4]]=some f121:=by kernel_rfl
theorem RK:aI Tryz.prog Tryz.f122 [[1,2,4],[1,4,5],[4,5,10,11,12],[4,5,10,11,12,13],[4,5,7,10,11,12],[4,5,7,10,11,12,18],[4,5,10,11,12],[4,5,10,11,12],[4,5,10,11,12],[4]]=some f122:=by kernel_rfl
theorem Pe:aI Tryz.prog Tryz.f123 [[1],[2]]=some f123:=by kernel_rfl
theorem Pf:aI Tryz.prog Tryz.f124 [[2,3,4],[2,3,4,6],[2,3,4,6,7],[2,3,4,5,6],[2,3,4,6],[2,3,4,6],[4]]=some f124:=by kernel_rfl
theorem RL:aI Tryz.prog Tryz.f125 [[0,1,5],[0,1,5,7],[1,5,7,10,11,12],[1,5,7,10,11,12,13],[1,5,7,9,10,11,12],[1,5,7,9,10,11,12,29],[1,5,7,10,11,12],[1,5,7,10,11,12],[6]]=some f125:=by kernel_rfl
theorem Pg:aI Tryz.prog Tryz.f126 [[1],[2]]=some f126:=by kernel_rfl
theorem Ph:aI Tryz.prog Tryz.f127 [[1],[2]]=some f127:=by kernel_rfl
theorem RM:aI Tryz.prog Tryz.f128 [[2,3],[2,3,5,6],[2,3,5,20],[4],[2,3,7],[2,3,7,9],[2,3,7,28],[2,3,7],[2,3,7,31],[2,3,7,10],[],[7],[4]]=some f128:=by kernel_rfl
theorem RN:aI Tryz.prog Tryz.f129 [[0,3],[0,3,5],[0,3,5,7],[4],[0,3,5,11],[4],[0,3,5,15],[4],[0,3,5,22],[4],[0,3,5,38],[4],[0,3,6],[0,3,57],[4],[61],[4],[4]]=some f129:=by kernel_rfl
theorem RO:aI Tryz.prog Tryz.f131 [[0],[0,4],[2],[2]]=some f131:=by kernel_rfl
theorem RP:aI Tryz.prog Tryz.f132 [[0,1],[0,1,5],[0,1,5,12],[4],[0,1,5,6],[0,1,5,6,19],[0,1,5,6,7],[0,1,5,6,7,29],[0,1,5,6],[0,1,5,6],[0,1,5,6],[0,5],[4]]=some f132:=by kernel_rfl
theorem RQ:aI Tryz.prog Tryz.f133 [[1,2],[3]]=some f133:=by kernel_rfl
theorem RR:aI Tryz.prog Tryz.f134 [[1,2],[3]]=some f134:=by kernel_rfl
theorem RS:aI Tryz.prog Tryz.f135 [[0,3],[4]]=some f135:=by kernel_rfl
theorem Pj:aI Tryz.prog Tryz.f141 [[1,2,3],[1,2,3,11],[6,7],[1,2,3,14],[6,7],[1,2,3,16],[6,7],[1,2,3,8],[1,2,3,8,20],[6,7],[6,7]]=some f141:=by kernel_rfl
theorem Pm:aI Tryz.prog Tryz.f143 [[0,3,4],[0,3,4,6],[0,3,4,6,17,18,19],[0,3,4,6,17,18,19,20],[0,3,4,6,7,8,17,18,19],[0,3,4,6,8,17,18,19,27],[0,3,4,6,17,18,19],[0,3,4,6,17,18,19],[4,5]]=some f143:=by kernel_rfl
theorem RZ:aI Tryz.prog Tryz.f147 [[2,3],[4]]=some f147:=by kernel_rfl
theorem R4:aI Tryz.prog Tryz.f149 [[1,2,3,6],[3,6],[6]]=some f149:=by kernel_rfl
theorem Pn:aI Tryz.prog Tryz.f155 [[0,1],[4]]=some f155:=by kernel_rfl
theorem Po:aI Tryz.prog Tryz.f156 [[1],[2]]=some f156:=by kernel_rfl
theorem Pp:aI Tryz.prog Tryz.f167 [[0,1],[0],[4]]=some f167:=by kernel_rfl
theorem R6:aI Tryz.prog Tryz.f168 [[2,3],[4]]=some f168:=by kernel_rfl
theorem Pq:aI Tryz.prog Tryz.f174 [[2,3,4],[2,3,4,6],[2,3,4,6,7],[2,3,4,5,6],[2,3,4,6],[2,3,4,6],[4]]=some f174:=by kernel_rfl
theorem Pr:aI Tryz.prog Tryz.f188 [[1],[1,3],[3,6,7],[3,6,7,8],[3,5,6,7],[3,6,7],[3,6,7],[2]]=some f188:=by kernel_rfl
theorem R9:aI Tryz.prog Tryz.f189 [[0,1,4],[]]=some f189:=by kernel_rfl
theorem Sa:aI Tryz.prog Tryz.f190 [[2,3],[4]]=some f190:=by kernel_rfl
theorem Sb:aI Tryz.prog Tryz.f191 [[0,1],[0,1,9,10,11],[0,1,9,10,11,12],[0,1,5,6,9,10,11],[0,1,5,6,9,10,11,19],[4],[0,1,6,7,9,10,11],[0,1,8,9,10,11],[0,1,8,9,10,11,28],[4],[0,1,9,10,11],[35],[4],[4]]=some f191:=by kernel_rfl
theorem Pt:aI Tryz.prog Tryz.f192 [[0],[0,8],[2],[0,3],[0,3,13],[0,3,25],[0,3,4],[0,3,4,5],[0,3,4,5,32],[0,3,4,5,44],[0,3,4,5],[0,3,4,5],[0,3,4,5],[0,3],[2],[0,3],[2]]=some f192:=by kernel_rfl
theorem Pv:aI Tryz.prog Tryz.f193 [[0,1],[0,1,5],[0,1,5,12],[4],[0,1,5,6],[0,1,5,6,19],[0,1,5,6,7],[0,1,5,6,7,29],[0,1,5,6],[0,1,5,6],[0,1,5,6],[0,5],[4]]=some f193:=by kernel_rfl
theorem Pw:aI Tryz.prog Tryz.f194 [[0],[0,4],[2],[2]]=some f194:=by kernel_rfl
theorem Px:aI Tryz.prog Tryz.f195 [[1,2],[3]]=some f195:=by kernel_rfl
theorem Py:aI Tryz.prog Tryz.f196 [[0,1],[4]]=some f196:=by kernel_rfl
theorem Pz:aI Tryz.prog Tryz.f197 [[1,2],[3]]=some f197:=by kernel_rfl
theorem PA:aI Tryz.prog Tryz.f201 [[0,7,8,9],[0,7,8,9,10],[0,3,7,8,9],[0,7,8,9],[0,7,8,9]]=some f201:=by kernel_rfl
theorem Sc:aI Tryz.prog Tryz.f202 [[0,1],[0,1,6],[0,1,3],[0,1,13],[0],[]]=some f202:=by kernel_rfl
theorem Sd:aI Tryz.prog Tryz.f203 [[1,2,3,4,5,6,7,8,9],[1,2,3,4,5,6,7,8,9,13,14],[1,2,3,4,5,6,7,8,9,13,14,23],[],[1,3,4,5,6,7,8,9],[1,3,4,5,7,8,9],[1,3,4,5,7,8,9,15],[1,3,4,5,7,8,9,15],[1,3,5,7,8,9,15],[1,3,5,8,9,15],[1,3,5,8,9,15],[]]=some f203:=by kernel_rfl
theorem Se:aI Tryz.prog Tryz.f204 [[3],[]]=some f204:=by kernel_rfl
theorem Sf:aI Tryz.prog Tryz.f205 [[0,1],[0,1,7,8],[0,1,7,8,9],[0,1,5,7,8],[0,1,5,7,8,16],[4],[0,1,7,8],[4]]=some f205:=by kernel_rfl
theorem Sg:aI Tryz.prog Tryz.f206 [[0,1],[0,1,5],[0,1,5,6],[0,1,6,11],[12],[4],[4],[0,1,13],[4],[0,1,16],[4],[19],[4],[4]]=some f206:=by kernel_rfl
theorem PB:aI Tryz.prog Tryz.f207 [[0,3,5,6],[0,3,5,6,9],[0,5,6,9,18,19,20],[0,5,6,9,18,19,20,21],[0,5,6,9,11,18,19,20],[0,5,6,9,11,18,19,20,24],[9],[0,5,6,9,18,19,20,28],[0,5,6,9,18,19,20],[0,5,6,9,18,19,20],[8]]=some f207:=by kernel_rfl
theorem PC:aI Tryz.prog Tryz.f209 [[0,1,2,4,5],[0,1,2,4,27],[0,1,2,4,28],[0,1,2,4,28,29],[0,1,2,4,6,28],[0,1,2,4,6,7,28],[0,1,2,4,6,7,28],[0,1,2,4,6,7,8,9,28],[0,1,2,4,6,7,8,9,10,28],[0,1,2,4,6,7,8,9,10,28,61],[0,1,2,4,6,7,8,9,10,11,28],[0,1,2,4,6,7,8,9,10,11,28,77],[0,1,2,4,6,7,8,9,10,11,12,28],[0,1,2,4,6,7,8,9,10,11,12,28,93],[0,1,2,4,6,7,8,9,10,11,12,13,28],[0,1,2,4,6,7,8,9,10,11,12,28,114],[0,1,2,4,6,7,8,9,10,11,12,28],[0,1,2,4,6,7,8,9,10,11,28],[0,1,2,4,6,7,8,9,10,28],[0,1,2,4,28]]=some f209:=by kernel_rfl
theorem PD:aI Tryz.prog Tryz.f210 [[1,2],[1,2,10],[2,3],[1,2,4],[2,4,15],[4,5],[5,6,7],[5,7],[],[2,3]]=some f210:=by kernel_rfl
theorem PE:aI Tryz.prog Tryz.f211 [[2,3,4],[4,5],[4]]=some f211:=by kernel_rfl
theorem PF:aI Tryz.prog Tryz.f212 [[1,2,3,4,8],[1,2,3,4,8,9],[1,2,3,4,8,9,10],[1,2,3,4,8,9,10,21],[1,2,3,4,8,9,10,11],[1,2,3,4,8,9,10,11,29],[1,2,3,4,8,9,10],[1,2,3,4,8,9,10],[1,2,3,4,8,9,10],[8]]=some f212:=by kernel_rfl
theorem PG:aI Tryz.prog Tryz.f213 [[0],[2]]=some f213:=by kernel_rfl
theorem PI:aI Tryz.prog Tryz.f214 [[1],[2]]=some f214:=by kernel_rfl
theorem PJ:aI Tryz.prog Tryz.f215 [[0,1,2],[6]]=some f215:=by kernel_rfl
theorem Si:aI Tryz.prog Tryz.f216 [[1],[2]]=some f216:=by kernel_rfl
theorem Sj:aI Tryz.prog Tryz.f217 [[1,2],[3]]=some f217:=by kernel_rfl
theorem Sk:aI Tryz.prog Tryz.f218 [[0,1],[4]]=some f218:=by kernel_rfl
theorem Sl:aI Tryz.prog Tryz.f219 [[0,1],[0,1,7,8],[0,1,7,8,9],[0,1,5,7,8],[0,1,5,7,8,16],[4],[0,1,7,8],[4]]=some f219:=by kernel_rfl
theorem Sm:aI Tryz.prog Tryz.f220 [[1,2],[3]]=some f220:=by kernel_rfl
theorem PK:aI Tryz.prog Tryz.f226 [[0,4,5],[4,5,12,13,14],[4,5,12,13,14,15],[4,5,7,8,12,13,14],[4,5,12,13,14,28],[6],[4,5,12,13,14],[6]]=some f226:=by kernel_rfl
theorem Sv:aI Tryz.prog Tryz.f228 [[0,2,9,10],[0,2,9,10,11],[0,2,4,9,10],[0,2,9,10,22],[0,2,9,10]]=some f228:=by kernel_rfl
theorem PL:aI Tryz.prog Tryz.f231 [[0,1],[0,1,7,8],[0,1,7,8,9],[0,1,5,7,8],[0,1,5,7,8,16],[4],[0,1,7,8],[4]]=some f231:=by kernel_rfl
theorem Sy:aI Tryz.prog Tryz.f241 [[0],[2],[2]]=some f241:=by kernel_rfl
theorem PM:aI Tryz.prog Tryz.f254 [[0],[0],[0],[0],[0],[0],[0],[2]]=some f254:=by kernel_rfl
theorem Sz:aI Tryz.prog Tryz.f255 [[0,1,2,3,4,10],[0,1,2,3,4,10,11],[0,1,2,3,4,10,11,12],[0,1,2,3,4,10,11,12,25],[],[0,1,2,3,4,10,11,12,32],[],[0,1,2,3,4,10,11,12,39],[0,1,2,3,4,10,11,12],[0,1,2,3,4,10,11,12],[0,1,2,3,4,10,11,12,13,14],[0,1,2,3,4,10,11,12,13,14,56],[0,1,2,3,4,10,11,12,13],[0,1,2,3,4,10,11,12,13],[0,1,2,3,4,10,11,12,13,14],[0,1,2,3,4,10,11,12,13,75],[0,1,2,3,4,10,11,12,13,80],[0,1,2,3,4,10,11,12,13,97],[0,2,3,4,10,11,15],[0,1,2,3,4,10,11],[0,1,2,3,4,12,16,17],[0,1,2,3,4,11,12,16],[0,1,2,3,4,11,12,16,18,19],[0,1,2,3,4,11,16,18,19,20],[0,1,2,3,4,11,16,18,19,20,125],[0,1,2,3,4,10,11,16],[0,2,3,4,10,11,16],[0,1,2,3,4,10,11],[0,1,2,3,4,10,11,16],[0,1,3,4,10,11,16],[0,1,2,3,4,10,11]]=some f255:=by kernel_rfl
theorem SA:aI Tryz.prog Tryz.f256 [[0,1],[0,1,5],[0,1,5,6],[0,1,6,11],[12],[4],[4],[0,1,13],[4],[0,1,16],[4],[19],[4],[4]]=some f256:=by kernel_rfl
theorem PN:aI Tryz.prog Tryz.f257 [[0,1],[0,1,7,8],[0,1,7,8,9],[0,1,5,7,8],[0,1,5,7,8,16],[4],[0,1,7,8],[4]]=some f257:=by kernel_rfl
theorem SB:aI Tryz.prog Tryz.f260 [[0],[2]]=some f260:=by kernel_rfl
theorem PO:aI Tryz.prog Tryz.f261 [[2,3,4,5],[2,3,4,5,6],[3,4,5,6,10],[3,4,5,6,7],[4,5,6,8],[4,5,6,8,17],[],[],[4,5]]=some f261:=by kernel_rfl
theorem PR:aI Tryz.prog Tryz.f262 [[1,2,3],[3]]=some f262:=by kernel_rfl
theorem PS:aI Tryz.prog Tryz.f263 [[1,2,4],[1,2,4,5],[1,2,4,6],[1,2,4],[2,4,27,28],[2,4,27,28,29],[2,4,27,28],[2,4,27,28],[4]]=some f263:=by kernel_rfl
theorem PT:aI Tryz.prog Tryz.f264 [[1,2],[2,6],[2,5],[],[4]]=some f264:=by kernel_rfl
theorem PU:aI Tryz.prog Tryz.f265 [[0,6,7],[0,6,7,8],[0,3,4,6,7],[0,3,4,6,7,12],[0,3,4,5,6,7],[0,3,4,6,7,27],[0,3,4,6,7],[0,6,7]]=some f265:=by kernel_rfl
theorem PV:aI Tryz.prog Tryz.f266 [[0],[0,4],[2],[2]]=some f266:=by kernel_rfl
theorem SD:aI Tryz.prog Tryz.f291 [[0,2],[0,2,4],[0],[0,2],[0,2,8],[0,2],[0,2],[0,2,14],[0,2],[0,2],[2]]=some f291:=by kernel_rfl
theorem SF:aI Tryz.prog Tryz.f307 [[0,1,2,3,8],[0,1,2,3,8,14],[0,1,2,3,8,9],[0,1,2,3,8,9,34],[0,1,2,3,8,9],[0,1,2,3,8,9],[0,1,2,3,8]]=some f307:=by kernel_rfl
theorem SG:aI Tryz.prog Tryz.f315 [[0],[2]]=some f315:=by kernel_rfl
theorem PX:aI Tryz.prog Tryz.f317 [[3,4],[4]]=some f317:=by kernel_rfl
theorem PY:aI Tryz.prog Tryz.f318 [[3,4],[4]]=some f318:=by kernel_rfl
theorem PZ:aI Tryz.prog Tryz.f319 [[3,4],[4]]=some f319:=by kernel_rfl
theorem P0:aI Tryz.prog Tryz.f320 [[3,4],[4]]=some f320:=by kernel_rfl
theorem P3:aI Tryz.prog Tryz.f321 [[3,4],[4]]=some f321:=by kernel_rfl
theorem P4:aI Tryz.prog Tryz.f322 [[3,4],[4]]=some f322:=by kernel_rfl
theorem all:tree.all (Entry Tryz.prog):=by
 unfold tree;exact(Tr.aa (Tr.aa (Tr.aa (Tr.aa (Tr.aa (Tr.aa (Tr.aa zq0 (.of Tryz.func21 c21) zq0) (.of Tryz.func22 c22) (Tr.aa zq0 (.of Tryz.func24 c24) zq0)) (.of Tryz.func27 c27) (Tr.aa (Tr.aa zq0 (.of Tryz.func29 c29) zq0) (.of Tryz.func33 c33) (Tr.aa zq0 (.of Tryz.func34 c34) zq0))) SV (Tr.aa (Tr.aa (Tr.aa zq0 (.of Tryz.func36 c36) zq0) (.of Tryz.func37 c37) (Tr.aa zq0 (.of Tryz.func38 c38) zq0)) (.of Tryz.func39 c39) (Tr.aa (Tr.aa zq0 (.of Tryz.func40 c40) zq0) (.of Tryz.func44 c44) zq0))) (.of Tryz.func47 c47) (Tr.aa (Tr.aa (Tr.aa (Tr.aa zq0 (.of Tryz.func62 c62) zq0) (.of Tryz.func72 c72) (Tr.aa zq0 (.of Tryz.func75 c75) zq0)) (.of Tryz.func85 c85) (Tr.aa (Tr.aa zq0 (.of Tryz.func86 c86) zq0) (.of Tryz.func87 c87) zq0)) (.of Tryz.func88 c88) (Tr.aa (Tr.aa (Tr.aa zq0 (.of Tryz.func89 c89) zq0) (.of Tryz.func90 c90) (Tr.aa zq0 (.of Tryz.func91 c91) zq0)) (.of Tryz.func92 c92) (Tr.aa (Tr.aa zq0 (.of Tryz.func96 c96) zq0) (.of Tryz.func97 c97) zq0)))) (.of Tryz.func98 c98) (Tr.aa (Tr.aa (Tr.aa (Tr.aa (Tr.aa zq0 (.of Tryz.func99 c99) zq0) (.of Tryz.func104 RA) (Tr.aa zq0 (.of Tryz.func105 RB) zq0)) (.of Tryz.func106 Pa) (Tr.aa (Tr.aa zq0 (.of Tryz.func107 RC) zq0) (.of Tryz.func108 RD) zq0)) (.of Tryz.func109 RE) (Tr.aa (Tr.aa (Tr.aa zq0 (.of Tryz.func120 Pc) zq0) (.of Tryz.func121 Pd) (Tr.aa zq0 (.of Tryz.func122 RK) zq0)) (.of Tryz.func123 Pe) (Tr.aa (Tr.aa zq0 (.of Tryz.func124 Pf) zq0) (.of Tryz.func125 RL) zq0))) (.of Tryz.func126 Pg) (Tr.aa (Tr.aa (Tr.aa (Tr.aa zq0 (.of Tryz.func127 Ph) zq0) (.of Tryz.func128 RM) (Tr.aa zq0 (.of Tryz.func129 RN) zq0)) (.of Tryz.func131 RO) (Tr.aa (Tr.aa zq0 (.of Tryz.func132 RP) zq0) (.of Tryz.func133 RQ) zq0)) (.of Tryz.func134 RR) (Tr.aa (Tr.aa (Tr.aa zq0 (.of Tryz.func135 RS) zq0) (.of Tryz.func141 Pj) (Tr.aa zq0 (.of Tryz.func143 Pm) zq0)) (.of Tryz.func147 RZ) (Tr.aa (Tr.aa zq0 (.of Tryz.func149 R4) zq0) (.of Tryz.func155 Pn) zq0))))) (.of Tryz.func156 Po) (Tr.aa (Tr.aa (Tr.aa (Tr.aa (Tr.aa (Tr.aa zq0 (.of Tryz.func167 Pp) zq0) (.of Tryz.func168 R6) (Tr.aa zq0 (.of Tryz.func174 Pq) zq0)) (.of Tryz.func188 Pr) (Tr.aa (Tr.aa zq0 (.of Tryz.func189 R9) zq0) (.of Tryz.func190 Sa) (Tr.aa zq0 (.of Tryz.func191 Sb) zq0))) (.of Tryz.func192 Pt) (Tr.aa (Tr.aa (Tr.aa zq0 (.of Tryz.func193 Pv) zq0) (.of Tryz.func194 Pw) (Tr.aa zq0 (.of Tryz.func195 Px) zq0)) (.of Tryz.func196 Py) (Tr.aa (Tr.aa zq0 (.of Tryz.func197 Pz) zq0) (.of Tryz.func201 PA) zq0))) (.of Tryz.func202 Sc) (Tr.aa (Tr.aa (Tr.aa (Tr.aa zq0 (.of Tryz.func203 Sd) zq0) (.of Tryz.func204 Se) (Tr.aa zq0 (.of Tryz.func205 Sf) zq0)) (.of Tryz.func206 Sg) (Tr.aa (Tr.aa zq0 (.of Tryz.func207 PB) zq0) (.of Tryz.func209 PC) zq0)) (.of Tryz.func210 PD) (Tr.aa (Tr.aa (Tr.aa zq0 (.of Tryz.func211 PE) zq0) (.of Tryz.func212 PF) (Tr.aa zq0 (.of Tryz.func213 PG) zq0)) (.of Tryz.func214 PI) (Tr.aa (Tr.aa zq0 (.of Tryz.func215 PJ) zq0) (.of Tryz.func216 Si) zq0)))) (.of Tryz.func217 Sj) (Tr.aa (Tr.aa (Tr.aa (Tr.aa (Tr.aa zq0 (.of Tryz.func218 Sk) zq0) (.of Tryz.func219 Sl) (Tr.aa zq0 (.of Tryz.func220 Sm) zq0)) (.of Tryz.func226 PK) (Tr.aa (Tr.aa zq0 (.of Tryz.func228 Sv) zq0) (.of Tryz.func231 PL) zq0)) (.of Tryz.func241 Sy) (Tr.aa (Tr.aa (Tr.aa zq0 (.of Tryz.func254 PM) zq0) (.of Tryz.func255 Sz) (Tr.aa zq0 (.of Tryz.func256 SA) zq0)) (.of Tryz.func257 PN) (Tr.aa (Tr.aa zq0 (.of Tryz.func260 SB) zq0) (.of Tryz.func261 PO) zq0))) (.of Tryz.func262 PR) (Tr.aa (Tr.aa (Tr.aa (Tr.aa zq0 (.of Tryz.func263 PS) zq0) (.of Tryz.func264 PT) (Tr.aa zq0 (.of Tryz.func265 PU) zq0)) (.of Tryz.func266 PV) (Tr.aa (Tr.aa zq0 (.of Tryz.func291 SD) zq0) (.of Tryz.func307 SF) zq0)) (.of Tryz.func315 SG) (Tr.aa (Tr.aa (Tr.aa zq0 (.of Tryz.func317 PX) zq0) (.of Tryz.func318 PY) (Tr.aa zq0 (.of Tryz.func319 PZ) zq0)) (.of Tryz.func320 P0) (Tr.aa (Tr.aa zq0 (.of Tryz.func321 P3) zq0) (.of Tryz.func322 P4) zq0))))))
theorem sound:dR Tryz.prog T:=pn (by kernel_rfl) all
end Go.A.Pk
