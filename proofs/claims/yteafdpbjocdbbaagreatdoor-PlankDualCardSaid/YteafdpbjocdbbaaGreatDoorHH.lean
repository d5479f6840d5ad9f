/- The table is the program. -/
import Derived.Test.YteafdpbjocdbbaaGreatDoorHG
import Derived.Test.YteafdpbjocdbbaaGreatDoorHJ
import Derived.Test.YteafdpbjocdbbaaGreatDoorProg
import Derived.KernelRfl
set_option linter.all false
set_option maxRecDepth 100000
open Go Go.A Go.Proofs
namespace Go.A.Pk
theorem c18:bB Tryz.prog Tryz.f18 [[1],[2]]=some f18:=by kernel_rfl
theorem c19:bB Tryz.prog Tryz.f19 [[],[1],[1,2,3],[1,2,3,4,5],[1,2,3,4,5,6,7],[1,2,3,4,5,6,7,8,9],[1,2,3,4,5,6,7,9,10,11,12],[1,2,3,4,5,6,7,9,10,11,12,13,14],[1,2,3,4,5,6,7,9,10,11,12,13,14,15,16,17],[1,2,3,4,5,6,7,9,10,11,12,13,14,15,16,17,18,19],[1,2,3,4,5,6,7,9,10,11,12,13,14,15,16,17,18,19,20,21,22],[1,2,3,4,5,6,7,9,10,11,12,13,14,15,16,17,18,19,20,21,22,23,24],[1,2,3,4,5,6,7,9,10,11,12,13,14,15,16,17,18,19,20,21,22,23,24,25,26],[2,3,4,5,6,7,9,10,11,12,13,14,15,16,17,18,19,20,21,22,23,24,25,26,27,29],[2,4,6,10,11,13,15,16,18,20,21,23,25,27,141],[0],[18,20,21,23,25,27,30],[0]]=some f19:=by kernel_rfl
theorem c20:bB Tryz.prog Tryz.f20 [[1,2,3,4],[1,2,3,10,11],[1,2,3,10,11,25],[8,9],[12],[8,9]]=some f20:=by kernel_rfl
theorem c22:bB Tryz.prog Tryz.f22 [[1,2,3],[1,2,8,9],[1,2,8,9,20],[6,7],[6,7]]=some f22:=by kernel_rfl
theorem c24:bB Tryz.prog Tryz.f24 [[1,2,3],[1,2,8,9],[1,2,8,9,24],[6,7,8],[1,2,9,30,31,32],[1,2,9,30,31,32,33],[1,2,9,10,11,30,31,32],[1,2,9,30,31,32],[1,2,9,30,31,32],[1,2,9,12],[1,2,9,12,13],[6,7,8]]=some f24:=by kernel_rfl
theorem c27:bB Tryz.prog Tryz.f27 [[0],[0,4],[0,4,9,10,11],[0,4,9,10,11,12],[0,4,6,9,10,11],[0,4,7,8,9,10,11],[0,4,7,9,10,11,21],[2,3],[0,4,9,10,11],[0,4,9,10,11],[4,29],[2,3],[2,3]]=some f27:=by kernel_rfl
theorem c29:bB Tryz.prog Tryz.f29 [[0],[0,11],[2,3],[0,4],[0,4,13,14,15],[0,4,13,14,15,16],[0,4,6,13,14,15],[0,4,6,13,14,15,31],[2,3],[0,4,6,7,13,14,15],[0,4,7,13,14,15],[0,4,13,14,15],[0,4,13,14,15],[0,4,8,9],[4,60],[2,3],[2,3]]=some f29:=by kernel_rfl
theorem c32:bB Tryz.prog Tryz.f32 [[1,2,3],[1,2,8,9],[1,2,8,9,20],[6,7],[6,7]]=some f32:=by kernel_rfl
theorem c34:bB Tryz.prog Tryz.f34 [[1,2,3],[1,2,8,9],[1,2,8,9,23],[6,7],[1,2,10],[1,2,10,11],[10,11,33],[10,11,12],[],[6,7]]=some f34:=by kernel_rfl
theorem c37:bB Tryz.prog Tryz.f37 [[0,1],[0,1,10],[4],[0,1,5],[0,1,5,14],[0,1,5,26],[4],[0,1,5],[4]]=some f37:=by kernel_rfl
theorem c42:bB Tryz.prog Tryz.f42 [[1,2,3,4],[1,2,3,11,12],[1,2,3,11,12,33],[8,9,10],[1,2,3,11,13,14],[1,2,3,11,13,14,44],[8,9,10],[1,2,3,11,15,16],[1,2,3,11,15,16,50],[1,2,3,11,15,16,17],[1,2,3,11,15,16,17,18,19],[1,2,3,11,15,16,17,66],[1,2,3,11,15,16],[1,2,3,11,15,16],[8,9,10]]=some f42:=by kernel_rfl
theorem c44:bB Tryz.prog Tryz.f44 [[1,2,3],[1,2,8,9],[1,2,8,9,24],[6,7],[1,2,8,10],[1,2,8,10,31,32],[1,2,8,10,31,32,33],[1,2,8,10,11,31,32],[1,2,8,10,11,12,13,31,32],[1,2,8,10,11,31,32,45],[1,2,8,10,31,32],[1,2,8,10,31,32],[6,7]]=some f44:=by kernel_rfl
theorem c46:bB Tryz.prog Tryz.f46 [[1,2,4,7],[1,2,7,10,11],[1,2,7,10,11,37],[8,9,10],[1,2,7,11,12],[1,2,7,11,12,13],[1,2,7,11,12,13,46],[7,11,12,13,14],[7,11,12,13,14,15,16],[7,11,12,13,14,15,17],[7,11,12,13,14,15,17],[7,11,12,13,14,15,17,55],[7,11,17,18],[7,11,17,18,19],[11,17,18,19,61],[11,17,18,19],[],[11,12,13,14,15,17,76],[11,12,13,14,17,20],[12,13,17,21,22],[],[],[23],[8,9,10]]=some f46:=by kernel_rfl
theorem c48:bB Tryz.prog Tryz.f48 [[0,1],[0,1,10],[4],[0,1,5],[0,1,5,14],[0,1,5,25],[4],[0,1,5],[4]]=some f48:=by kernel_rfl
theorem c50:bB Tryz.prog Tryz.f50 [[1,2,3,4],[1,2,3,10,11],[1,2,3,10,11,23],[8,9,10],[9,12],[8,9,10]]=some f50:=by kernel_rfl
theorem c66:bB Tryz.prog Tryz.f66 [[1],[1,9],[2],[1,3],[1,3,14,15,16],[1,3,14,15,16,17],[1,3,4,5,14,15,16],[1,3,14,15,16],[1,3,14,15,16],[38],[2],[2]]=some f66:=by kernel_rfl
theorem c74:bB Tryz.prog Tryz.f74 [[0,2],[2]]=some f74:=by kernel_rfl
theorem c75:bB Tryz.prog Tryz.f75 [[1,2],[1,2,6],[1,2,6,13],[4,5],[2,16],[4,5],[2,7],[7,21,22,23],[7,21,22,23,24],[7,9,21,22,23],[7,21,22,23],[7,21,22,23],[4,5]]=some f75:=by kernel_rfl
theorem c76:bB Tryz.prog Tryz.f76 [[0,1],[4]]=some f76:=by kernel_rfl
theorem c77:bB Tryz.prog Tryz.f77 [[0,1,2],[6]]=some f77:=by kernel_rfl
theorem c78:bB Tryz.prog Tryz.f78 [[1,2,3,4],[1,2,3,4,9],[1,2,3,4,9,10],[1,2,3,4,9,10,26],[4,10,11],[4,10,11,30],[4,10,11,12],[],[1,2,3,4,9,10,13],[1,2,4,9,10,13,50,51],[1,2,4,9,10,13,50,51,52],[1,2,4,9,10,13,14,50,51],[1,2,4,9,10,13,14,50,51,56],[4,10,14,15],[4,10,14,15,16],[4,10,14,15,16,63],[4,10,15,16,17],[10,16,18,19],[],[],[1,2,4,9,10,13,50,51],[1,2,4,9,10,13,50,51],[1,2,4,9,10,13,50,51],[8]]=some f78:=by kernel_rfl
theorem c82:bB Tryz.prog Tryz.f82 [[0,1],[0,1,7,8],[0,1,7,8,9],[0,1,5,7,8],[0,1,5,7,8,16],[4],[0,1,7,8],[4]]=some f82:=by kernel_rfl
theorem c83:bB Tryz.prog Tryz.f83 [[1,2,3],[1,2,3,7],[3,7,17],[3,7,8],[3,7,8,9],[3,7,8,9,21],[3,9,10],[],[3,7,8,9,35],[3,7,8,9,11],[7,9,12,13],[],[],[6]]=some f83:=by kernel_rfl
theorem c84:bB Tryz.prog Tryz.f84 [[3,4,5,6],[3,4,5,6,12],[6],[3,4,5,6,15],[3,4,5,6,7],[6,7,28],[],[3,4,5,6,34],[3,4,5,6,37],[3,4,5,6,8],[3,4,5,6,8,9,10],[3,4,6,8,9,10,56],[],[6]]=some f84:=by kernel_rfl
theorem c86:bB Tryz.prog Tryz.f86 [[1],[1,5],[1,5,6],[2,3],[1,5,11],[1,5,11],[2,3],[1,5,27],[1,27],[2,3],[2,3]]=some f86:=by kernel_rfl
theorem c89:bB Tryz.prog Tryz.f89 [[0,1],[4]]=some f89:=by kernel_rfl
theorem c90:bB Tryz.prog Tryz.f90 [[0,1],[4]]=some f90:=by kernel_rfl
theorem c91:bB Tryz.prog Tryz.f91 [[0,1],[4]]=some f91:=by kernel_rfl
theorem c92:bB Tryz.prog Tryz.f92 [[0],[0,4,5],[0,4,5,12],[2,3],[2,3]]=some f92:=by kernel_rfl
theorem c94:bB Tryz.prog Tryz.f94 [[2,3],[4]]=some f94:=by kernel_rfl
theorem c96:bB Tryz.prog Tryz.f96 [[0],[0,4],[2],[2]]=some f96:=by kernel_rfl
theorem c97:bB Tryz.prog Tryz.f97 [[1,2],[4]]=some f97:=by kernel_rfl
theorem c98:bB Tryz.prog Tryz.f98 [[0,1,2,3,4],[1,2,3,4,12],[1,2,3,12],[1,2,3,12,13],[10,11]]=some f98:=by kernel_rfl
theorem Mi:bB Tryz.prog Tryz.f103 [[0,2,3,4,5,7],[4,5,7,19],[4,5,7,25],[],[]]=some f103:=by kernel_rfl
theorem Lq:bB Tryz.prog Tryz.f104 [[2,3],[4]]=some f104:=by kernel_rfl
theorem Le:bB Tryz.prog Tryz.f105 [[3],[4]]=some f105:=by kernel_rfl
theorem K7:bB Tryz.prog Tryz.f106 [[0,4,5,6,7],[0,4,5,6,7,10],[6,7],[6,7]]=some f106:=by kernel_rfl
theorem KA:bB Tryz.prog Tryz.f109 [[2,3,4,6,7],[2,3,4,6,7],[2,3,4,6,7],[2,3,4,6,7,8],[3,4,6,7,8,9],[3,4,6,7,8,9,10],[4,6,7,9,10],[6,7,9],[6,7],[6,7]]=some f109:=by kernel_rfl
theorem Mg:bB Tryz.prog Tryz.f113 [[1,2],[1,2,4],[1,2,4,8],[2,3],[2,3]]=some f113:=by kernel_rfl
theorem w9:bB Tryz.prog Tryz.f117 [[1],[2]]=some f117:=by kernel_rfl
theorem xT:bB Tryz.prog Tryz.f118 [[0,1],[4]]=some f118:=by kernel_rfl
theorem Ly:bB Tryz.prog Tryz.f119 [[1,2],[3]]=some f119:=by kernel_rfl
theorem Lo:bB Tryz.prog Tryz.f122 [[0,1],[4]]=some f122:=by kernel_rfl
theorem LV:bB Tryz.prog Tryz.f125 [[1],[2]]=some f125:=by kernel_rfl
theorem LC:bB Tryz.prog Tryz.f126 [[1,2],[4]]=some f126:=by kernel_rfl
theorem MQ:bB Tryz.prog Tryz.f127 [[0],[2]]=some f127:=by kernel_rfl
theorem L7:bB Tryz.prog Tryz.f132 [[0,1,2,3],[0,1,2,3,13],[8],[0,1,2,3,15],[8],[0,1,2,3,20],[0,1,2,3],[0,1,2,3],[0,1,2,3,9],[0,1,2,3,9],[0,1,2,3,9,10],[0,1,2,3,9,10,36],[0,1,2,3,9,10,11],[0,1,2,3,9,10,11,41],[0,1,2,3,9,10,11],[0,1,2,3,9,10],[0,1,2,3,9,10],[9,10],[8]]=some f132:=by kernel_rfl
theorem MF:bB Tryz.prog Tryz.f133 [[0,1],[0,1,5],[0,1,5,16],[4],[0,1,5,24],[4],[0,1,5,31],[4],[0,1,5,36],[4],[0,1,5,6],[0,1,5,6,7],[0,1,5,6,7,8],[0,1,5,6,7,8,9],[0,1,5,6,7,8,9,10],[0,1,5,6,7,8,9,10,59],[0,1,5,6,7,8,9,10,64],[0,1,5,6,7,8,9,10,11],[0,1,5,6,7,8,9,10,11,73],[4],[0,1,5,6,7,8,9,10],[0,1,5,6,7,8,9,10,93],[4],[0,1,5,6,7,8,9,10],[0,1,5,6,7,8,9,10],[0,1,5,6,7,8,9,10,107],[8,12],[8,12,114],[4],[4],[0,1,5,6,7,8,9,10,132],[8,13],[8,13,139],[4],[4],[4]]=some f133:=by kernel_rfl
theorem Mt:bB Tryz.prog Tryz.f134 [[0],[0,4],[0,30],[0,5],[0,5,39],[0,5],[0,5,44],[2,3],[0,5,6],[5,6,47,48,49],[5,6,47,48,49,50],[5,6,8,47,48,49],[5,6,8,47,48,49],[5,6,8,47,48,49,56],[2,3],[5,6,47,48,49],[5,6,47,48,49],[6,66],[6],[2,3],[9,10],[2,3]]=some f134:=by kernel_rfl
theorem LS:bB Tryz.prog Tryz.f136 [[0,1,2,4],[0,1,2,4,8],[0,1,2,4,5],[0,1,2,4,5,13],[0,1,2,4,5,21],[0,1,2,4,5],[0,1,2,4]]=some f136:=by kernel_rfl
theorem L6:bB Tryz.prog Tryz.f138 [[0],[0,4],[2],[2]]=some f138:=by kernel_rfl
theorem Md:bB Tryz.prog Tryz.f139 [[2,3,5,6,9],[2,3,5,6,9,11],[2,3,5,6,9,11,12],[5,6,9,11,12,19],[5,6,9,11,12,13],[5,6,11,12,13,14],[],[10]]=some f139:=by kernel_rfl
theorem LK:bB Tryz.prog Tryz.f140 [[0,2,10,11,12],[0,2,10,11,12,13],[0,2,4,5,10,11,12],[0,2,4,5,10,11,12,30],[0,2,10,11,12,48],[0,2,10,11,12]]=some f140:=by kernel_rfl
theorem Lw:bB Tryz.prog Tryz.f141 [[0,1,6,7],[0,1,6,7,8],[0,1,3,4,6,7],[0,1,3,4,5,6,7],[0,1,3,4,5,6,7,15],[0,1,3,4,5,6,7,23],[0,1,3,4,5,6,7],[0,1,6,7]]=some f141:=by kernel_rfl
theorem LU:bB Tryz.prog Tryz.f142 [[0,1,2],[0,1,2,7],[0,1,2,4],[0,1,2,14],[0,1],[]]=some f142:=by kernel_rfl
theorem Lu:bB Tryz.prog Tryz.f143 [[0],[0]]=some f143:=by kernel_rfl
theorem KW:bB Tryz.prog Tryz.f144 [[1,2,3,4,5,6,7],[1,2,3,4,5,6,7],[1,2,3,4,5,6,7,9],[1,3,4,5,6,7,9],[1,4,5,6,7,9],[1,4,5,6,7,9],[1,4,5,6,7,9,44],[1,4,5,6,7,9,44,45],[1,4,5,6,7,9,44,45],[5,7,9],[5,9],[],[1,4,5,6,7,9,44,77],[1,4,5,6,7,9,77],[1,5,6,10,11],[1,5,6,11],[1,5,6,11,93],[],[]]=some f144:=by kernel_rfl
theorem Ls:bB Tryz.prog Tryz.f145 [[3],[]]=some f145:=by kernel_rfl
theorem Lb:bB Tryz.prog Tryz.f147 [[0,1],[0,1,7,8],[0,1,7,8,9],[0,1,5,7,8],[0,1,5,7,8,16],[4],[0,1,7,8],[4]]=some f147:=by kernel_rfl
theorem KG:bB Tryz.prog Tryz.f149 [[0,1],[0,1,7,8],[0,1,7,8,9],[0,1,5,7,8],[0,1,5,7,8,16],[4],[0,1,7,8],[4]]=some f149:=by kernel_rfl
theorem KI:bB Tryz.prog Tryz.f150 [[0],[0,3],[0,3,9,10,11],[0,3,9,10,11,12],[0,3,5,9,10,11],[0,3,9,10,11],[0,3,9,10,11,20],[0,3,9,10,11],[0,3,9,10,11],[0,6],[6,25,26,27],[6,25,26,27,28],[6,8,25,26,27],[6,25,26,27],[6,25,26,27],[2]]=some f150:=by kernel_rfl
theorem L4:bB Tryz.prog Tryz.f151 [[0],[2]]=some f151:=by kernel_rfl
theorem Mn:bB Tryz.prog Tryz.f155 [[0,1],[0,1,9],[4],[0,1,15],[4],[0,1,5],[0,1,5,6],[0,1,5,6,24],[4],[0,1,5,6],[0,1,5]]=some f155:=by kernel_rfl
theorem Mp:bB Tryz.prog Tryz.f156 [[0,1],[4]]=some f156:=by kernel_rfl
theorem Mz:bB Tryz.prog Tryz.f165 [[1,2],[1,2,5],[3],[3]]=some f165:=by kernel_rfl
theorem MC:bB Tryz.prog Tryz.f166 [[1,3,5],[3,5,8],[3,5,7],[],[6]]=some f166:=by kernel_rfl
theorem Mv:bB Tryz.prog Tryz.f167 [[1,2,3],[1,2,8],[4],[4]]=some f167:=by kernel_rfl
theorem Mc:bB Tryz.prog Tryz.f168 [[1,2,3,4,5],[3,4,7,8],[6]]=some f168:=by kernel_rfl
theorem MI:bB Tryz.prog Tryz.f169 [[5],[6]]=some f169:=by kernel_rfl
theorem LI:bB Tryz.prog Tryz.f170 [[0,4,5],[6]]=some f170:=by kernel_rfl
theorem MJ:bB Tryz.prog Tryz.f171 [[0,4,5],[6]]=some f171:=by kernel_rfl
theorem LY:bB Tryz.prog Tryz.f172 [[4,5],[6]]=some f172:=by kernel_rfl
theorem Me:bB Tryz.prog Tryz.f173 [[4,5],[6]]=some f173:=by kernel_rfl
theorem Lr:bB Tryz.prog Tryz.f176 [[0,1],[0,1,6],[0,1],[0,1],[0,1,16],[0],[4]]=some f176:=by kernel_rfl
theorem Ml:bB Tryz.prog Tryz.f177 [[0,1],[0,1,11],[0,17],[4],[0,5],[0,5,6],[0,5,6,23],[0,5,6],[0,5,6,7],[0,5,7],[5,7,34],[5,7],[4],[4],[9],[4]]=some f177:=by kernel_rfl
theorem MS:bB Tryz.prog Tryz.f188 [[0],[0,4],[2],[2]]=some f188:=by kernel_rfl
theorem Kz:Entry Tryz.prog 182 (.jd GK):= .jd (HU Tryz.func182 (by kernel_rfl) rfl (by kernel_rfl) (by kernel_rfl))
theorem KH:Entry Tryz.prog 183 (.jd Ik):= .jd (HW Tryz.func183 (by kernel_rfl) rfl (by kernel_rfl) (by kernel_rfl))
theorem Mb:Entry Tryz.prog 87 (.jd Ap):= .jd (Ds Tryz.func87 (of_decide_eq_true (by kernel_rfl)) (by kernel_rfl) Tryz.strings_Join_none Tryz.strings_Join)
theorem all:tree.all (Entry Tryz.prog):=by
 unfold tree
 exact(Tr.au (Tr.au (Tr.au (Tr.au (Tr.au (Tr.au (Tr.au Tr.all_nil (.of Tryz.func19 c19) Tr.all_nil) (.of Tryz.func20 c20) Tr.all_nil) (.of Tryz.func22 c22) (Tr.au Tr.all_nil (.of Tryz.func24 c24) Tr.all_nil)) (.of Tryz.func27 c27) (Tr.au (Tr.au (Tr.au Tr.all_nil (.of Tryz.func29 c29) Tr.all_nil) (.of Tryz.func32 c32) Tr.all_nil) (.of Tryz.func34 c34) (Tr.au Tr.all_nil (.of Tryz.func37 c37) Tr.all_nil))) (.of Tryz.func42 c42) (Tr.au (Tr.au (Tr.au (Tr.au Tr.all_nil (.of Tryz.func44 c44) Tr.all_nil) (.of Tryz.func46 c46) Tr.all_nil) (.of Tryz.func48 c48) (Tr.au Tr.all_nil (.of Tryz.func50 c50) Tr.all_nil)) (.of Tryz.func66 c66) (Tr.au (Tr.au Tr.all_nil (.of Tryz.func74 c74) Tr.all_nil) (.of Tryz.func75 c75) (Tr.au Tr.all_nil (.of Tryz.func76 c76) Tr.all_nil)))) (.of Tryz.func77 c77) (Tr.au (Tr.au (Tr.au (Tr.au (Tr.au Tr.all_nil (.of Tryz.func78 c78) Tr.all_nil) (.of Tryz.func82 c82) Tr.all_nil) (.of Tryz.func83 c83) (Tr.au Tr.all_nil (.of Tryz.func84 c84) Tr.all_nil)) (.of Tryz.func86 c86) (Tr.au (Tr.au Tr.all_nil Mb Tr.all_nil) (.of Tryz.func89 c89) (Tr.au Tr.all_nil (.of Tryz.func90 c90) Tr.all_nil))) (.of Tryz.func91 c91) (Tr.au (Tr.au (Tr.au (Tr.au Tr.all_nil (.of Tryz.func92 c92) Tr.all_nil) (.of Tryz.func94 c94) Tr.all_nil) (.of Tryz.func97 c97) (Tr.au Tr.all_nil (.of Tryz.func98 c98) Tr.all_nil)) (.of Tryz.func103 Mi) (Tr.au (Tr.au Tr.all_nil (.of Tryz.func104 Lq) Tr.all_nil) (.of Tryz.func105 Le) (Tr.au Tr.all_nil (.of Tryz.func106 K7) Tr.all_nil))))) (.of Tryz.func109 KA) (Tr.au (Tr.au (Tr.au (Tr.au (Tr.au (Tr.au Tr.all_nil (.of Tryz.func117 w9) Tr.all_nil) (.of Tryz.func118 xT) Tr.all_nil) (.of Tryz.func119 Ly) (Tr.au Tr.all_nil (.of Tryz.func122 Lo) Tr.all_nil)) (.of Tryz.func125 LV) (Tr.au (Tr.au (Tr.au Tr.all_nil (.of Tryz.func126 LC) Tr.all_nil) (.of Tryz.func127 MQ) Tr.all_nil) (.of Tryz.func132 L7) (Tr.au Tr.all_nil (.of Tryz.func133 MF) Tr.all_nil))) (.of Tryz.func134 Mt) (Tr.au (Tr.au (Tr.au (Tr.au Tr.all_nil (.of Tryz.func136 LS) Tr.all_nil) (.of Tryz.func138 L6) Tr.all_nil) (.of Tryz.func139 Md) (Tr.au Tr.all_nil (.of Tryz.func140 LK) Tr.all_nil)) (.of Tryz.func141 Lw) (Tr.au (Tr.au Tr.all_nil (.of Tryz.func142 LU) Tr.all_nil) (.of Tryz.func143 Lu) (Tr.au Tr.all_nil (.of Tryz.func144 KW) Tr.all_nil)))) (.of Tryz.func145 Ls) (Tr.au (Tr.au (Tr.au (Tr.au (Tr.au Tr.all_nil (.of Tryz.func147 Lb) Tr.all_nil) (.of Tryz.func149 KG) Tr.all_nil) (.of Tryz.func150 KI) (Tr.au Tr.all_nil (.of Tryz.func151 L4) Tr.all_nil)) (.of Tryz.func155 Mn) (Tr.au (Tr.au Tr.all_nil (.of Tryz.func156 Mp) Tr.all_nil) (.of Tryz.func165 Mz) (Tr.au Tr.all_nil (.of Tryz.func166 MC) Tr.all_nil))) (.of Tryz.func167 Mv) (Tr.au (Tr.au (Tr.au (Tr.au Tr.all_nil (.of Tryz.func168 Mc) Tr.all_nil) (.of Tryz.func170 LI) Tr.all_nil) (.of Tryz.func172 LY) (Tr.au Tr.all_nil (.of Tryz.func176 Lr) Tr.all_nil)) (.of Tryz.func177 Ml) (Tr.au (Tr.au Tr.all_nil Kz Tr.all_nil) KH (Tr.au Tr.all_nil (.of Tryz.func188 MS) Tr.all_nil))))))
theorem sound:eK Tryz.prog T:=uE (by kernel_rfl) all
end Go.A.Pk
