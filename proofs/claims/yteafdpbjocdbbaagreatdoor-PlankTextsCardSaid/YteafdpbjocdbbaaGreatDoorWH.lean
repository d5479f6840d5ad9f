/- The table is the program. -/
import Derived.Test.YteafdpbjocdbbaaGreatDoorWG
import Derived.Test.YteafdpbjocdbbaaGreatDoorWJ
import Derived.Test.YteafdpbjocdbbaaGreatDoorProg
import Derived.KernelRfl
set_option linter.all false
set_option maxRecDepth 100000
open Go Go.A Go.Proofs
namespace Go.A.Pk
theorem c19:compF Tryz.prog Tryz.f19 [[],[1],[1,2,3],[1,2,3,4,5],[1,2,3,4,5,6,7],[1,2,3,4,5,6,7,8,9],[1,2,3,4,5,6,7,9,10,11,12],[1,2,3,4,5,6,7,9,10,11,12,13,14],[1,2,3,4,5,6,7,9,10,11,12,13,14,15,16,17],[1,2,3,4,5,6,7,9,10,11,12,13,14,15,16,17,18,19],[1,2,3,4,5,6,7,9,10,11,12,13,14,15,16,17,18,19,20,21,22],[1,2,3,4,5,6,7,9,10,11,12,13,14,15,16,17,18,19,20,21,22,23,24],[1,2,3,4,5,6,7,9,10,11,12,13,14,15,16,17,18,19,20,21,22,23,24,25,26],[2,3,4,5,6,7,9,10,11,12,13,14,15,16,17,18,19,20,21,22,23,24,25,26,27,29],[2,4,6,10,11,13,15,16,18,20,21,23,25,27,141],[0],[18,20,21,23,25,27,30],[0]]=some f19:=by kernel_rfl
theorem c20:compF Tryz.prog Tryz.f20 [[1,2,3,4],[1,2,3,10,11],[1,2,3,10,11,25],[8,9],[12],[8,9]]=some f20:=by kernel_rfl
theorem c22:compF Tryz.prog Tryz.f22 [[1,2,3],[1,2,8,9],[1,2,8,9,20],[6,7],[6,7]]=some f22:=by kernel_rfl
theorem c24:compF Tryz.prog Tryz.f24 [[1,2,3],[1,2,8,9],[1,2,8,9,24],[6,7,8],[1,2,9,30,31,32],[1,2,9,30,31,32,33],[1,2,9,10,11,30,31,32],[1,2,9,30,31,32],[1,2,9,30,31,32],[1,2,9,12],[1,2,9,12,13],[6,7,8]]=some f24:=by kernel_rfl
theorem c27:compF Tryz.prog Tryz.f27 [[0],[0,4],[0,4,9,10,11],[0,4,9,10,11,12],[0,4,6,9,10,11],[0,4,7,8,9,10,11],[0,4,7,9,10,11,21],[2,3],[0,4,9,10,11],[0,4,9,10,11],[4,29],[2,3],[2,3]]=some f27:=by kernel_rfl
theorem c29:compF Tryz.prog Tryz.f29 [[0],[0,11],[2,3],[0,4],[0,4,13,14,15],[0,4,13,14,15,16],[0,4,6,13,14,15],[0,4,6,13,14,15,31],[2,3],[0,4,6,7,13,14,15],[0,4,7,13,14,15],[0,4,13,14,15],[0,4,13,14,15],[0,4,8,9],[4,60],[2,3],[2,3]]=some f29:=by kernel_rfl
theorem c32:compF Tryz.prog Tryz.f32 [[1,2,3],[1,2,8,9],[1,2,8,9,20],[6,7],[6,7]]=some f32:=by kernel_rfl
theorem c34:compF Tryz.prog Tryz.f34 [[1,2,3],[1,2,8,9],[1,2,8,9,23],[6,7],[1,2,10],[1,2,10,11],[10,11,33],[10,11,12],[],[6,7]]=some f34:=by kernel_rfl
theorem c37:compF Tryz.prog Tryz.f37 [[0,1],[0,1,10],[4],[0,1,5],[0,1,5,14],[0,1,5,26],[4],[0,1,5],[4]]=some f37:=by kernel_rfl
theorem c42:compF Tryz.prog Tryz.f42 [[1,2,3,4],[1,2,3,11,12],[1,2,3,11,12,33],[8,9,10],[1,2,3,11,13,14],[1,2,3,11,13,14,44],[8,9,10],[1,2,3,11,15,16],[1,2,3,11,15,16,50],[1,2,3,11,15,16,17],[1,2,3,11,15,16,17,18,19],[1,2,3,11,15,16,17,66],[1,2,3,11,15,16],[1,2,3,11,15,16],[8,9,10]]=some f42:=by kernel_rfl
theorem c44:compF Tryz.prog Tryz.f44 [[1,2,3],[1,2,8,9],[1,2,8,9,24],[6,7],[1,2,8,10],[1,2,8,10,31,32],[1,2,8,10,31,32,33],[1,2,8,10,11,31,32],[1,2,8,10,11,12,13,31,32],[1,2,8,10,11,31,32,45],[1,2,8,10,31,32],[1,2,8,10,31,32],[6,7]]=some f44:=by kernel_rfl
theorem c46:compF Tryz.prog Tryz.f46 [[1,2,4,7],[1,2,7,10,11],[1,2,7,10,11,37],[8,9,10],[1,2,7,11,12],[1,2,7,11,12,13],[1,2,7,11,12,13,46],[7,11,12,13,14],[7,11,12,13,14,15,16],[7,11,12,13,14,15,17],[7,11,12,13,14,15,17],[7,11,12,13,14,15,17,55],[7,11,17,18],[7,11,17,18,19],[11,17,18,19,61],[11,17,18,19],[],[11,12,13,14,15,17,76],[11,12,13,14,17,20],[12,13,17,21,22],[],[],[23],[8,9,10]]=some f46:=by kernel_rfl
theorem c48:compF Tryz.prog Tryz.f48 [[0,1],[0,1,10],[4],[0,1,5],[0,1,5,14],[0,1,5,25],[4],[0,1,5],[4]]=some f48:=by kernel_rfl
theorem c50:compF Tryz.prog Tryz.f50 [[1,2,3,4],[1,2,3,10,11],[1,2,3,10,11,23],[8,9,10],[9,12],[8,9,10]]=some f50:=by kernel_rfl
theorem c66:compF Tryz.prog Tryz.f66 [[1],[1,9],[2],[1,3],[1,3,14,15,16],[1,3,14,15,16,17],[1,3,4,5,14,15,16],[1,3,14,15,16],[1,3,14,15,16],[38],[2],[2]]=some f66:=by kernel_rfl
theorem c74:compF Tryz.prog Tryz.f74 [[0,2],[2]]=some f74:=by kernel_rfl
theorem c75:compF Tryz.prog Tryz.f75 [[1,2],[1,2,6],[1,2,6,13],[4,5],[2,16],[4,5],[2,7],[7,21,22,23],[7,21,22,23,24],[7,9,21,22,23],[7,21,22,23],[7,21,22,23],[4,5]]=some f75:=by kernel_rfl
theorem c76:compF Tryz.prog Tryz.f76 [[0,1],[4]]=some f76:=by kernel_rfl
theorem c77:compF Tryz.prog Tryz.f77 [[0,1,2],[6]]=some f77:=by kernel_rfl
theorem c78:compF Tryz.prog Tryz.f78 [[1,2,3,4],[1,2,3,4,9],[1,2,3,4,9,10],[1,2,3,4,9,10,26],[4,10,11],[4,10,11,30],[4,10,11,12],[],[1,2,3,4,9,10,13],[1,2,4,9,10,13,50,51],[1,2,4,9,10,13,50,51,52],[1,2,4,9,10,13,14,50,51],[1,2,4,9,10,13,14,50,51,56],[4,10,14,15],[4,10,14,15,16],[4,10,14,15,16,63],[4,10,15,16,17],[10,16,18,19],[],[],[1,2,4,9,10,13,50,51],[1,2,4,9,10,13,50,51],[1,2,4,9,10,13,50,51],[8]]=some f78:=by kernel_rfl
theorem c80:compF Tryz.prog Tryz.f80 [[0,1,2],[6]]=some f80:=by kernel_rfl
theorem c82:compF Tryz.prog Tryz.f82 [[0,1],[0,1,7,8],[0,1,7,8,9],[0,1,5,7,8],[0,1,5,7,8,16],[4],[0,1,7,8],[4]]=some f82:=by kernel_rfl
theorem c83:compF Tryz.prog Tryz.f83 [[1,2,3],[1,2,3,7],[3,7,17],[3,7,8],[3,7,8,9],[3,7,8,9,21],[3,9,10],[],[3,7,8,9,35],[3,7,8,9,11],[7,9,12,13],[],[],[6]]=some f83:=by kernel_rfl
theorem c84:compF Tryz.prog Tryz.f84 [[3,4,5,6],[3,4,5,6,12],[6],[3,4,5,6,15],[3,4,5,6,7],[6,7,28],[],[3,4,5,6,34],[3,4,5,6,37],[3,4,5,6,8],[3,4,5,6,8,9,10],[3,4,6,8,9,10,56],[],[6]]=some f84:=by kernel_rfl
theorem c86:compF Tryz.prog Tryz.f86 [[1],[1,5],[1,5,6],[2,3],[1,5,11],[1,5,11],[2,3],[1,5,27],[1,27],[2,3],[2,3]]=some f86:=by kernel_rfl
theorem c89:compF Tryz.prog Tryz.f89 [[0,1],[4]]=some f89:=by kernel_rfl
theorem c90:compF Tryz.prog Tryz.f90 [[0,1],[4]]=some f90:=by kernel_rfl
theorem c91:compF Tryz.prog Tryz.f91 [[0,1],[4]]=some f91:=by kernel_rfl
theorem c92:compF Tryz.prog Tryz.f92 [[0],[0,4,5],[0,4,5,12],[2,3],[2,3]]=some f92:=by kernel_rfl
theorem c94:compF Tryz.prog Tryz.f94 [[2,3],[4]]=some f94:=by kernel_rfl
theorem c97:compF Tryz.prog Tryz.f97 [[1,2],[4]]=some f97:=by kernel_rfl
theorem c98:compF Tryz.prog Tryz.f98 [[0,1,2,3,4],[1,2,3,4,12],[1,2,3,12],[1,2,3,12,13],[10,11]]=some f98:=by kernel_rfl
theorem c103:compF Tryz.prog Tryz.f103 [[0,2,3,4,5,7],[4,5,7,19],[4,5,7,25],[],[]]=some f103:=by kernel_rfl
theorem c104:compF Tryz.prog Tryz.f104 [[2,3],[4]]=some f104:=by kernel_rfl
theorem c105:compF Tryz.prog Tryz.f105 [[3],[4]]=some f105:=by kernel_rfl
theorem c106:compF Tryz.prog Tryz.f106 [[0,4,5,6,7],[0,4,5,6,7,10],[6,7],[6,7]]=some f106:=by kernel_rfl
theorem c109:compF Tryz.prog Tryz.f109 [[2,3,4,6,7],[2,3,4,6,7],[2,3,4,6,7],[2,3,4,6,7,8],[3,4,6,7,8,9],[3,4,6,7,8,9,10],[4,6,7,9,10],[6,7,9],[6,7],[6,7]]=some f109:=by kernel_rfl
theorem c117:compF Tryz.prog Tryz.f117 [[1],[2]]=some f117:=by kernel_rfl
theorem c118:compF Tryz.prog Tryz.f118 [[0,1],[4]]=some f118:=by kernel_rfl
theorem c119:compF Tryz.prog Tryz.f119 [[1,2],[3]]=some f119:=by kernel_rfl
theorem c122:compF Tryz.prog Tryz.f122 [[0,1],[4]]=some f122:=by kernel_rfl
theorem c125:compF Tryz.prog Tryz.f125 [[1],[2]]=some f125:=by kernel_rfl
theorem c126:compF Tryz.prog Tryz.f126 [[1,2],[4]]=some f126:=by kernel_rfl
theorem c127:compF Tryz.prog Tryz.f127 [[0],[2]]=some f127:=by kernel_rfl
theorem c132:compF Tryz.prog Tryz.f132 [[0,1,2,3],[0,1,2,3,13],[8],[0,1,2,3,15],[8],[0,1,2,3,20],[0,1,2,3],[0,1,2,3],[0,1,2,3,9],[0,1,2,3,9],[0,1,2,3,9,10],[0,1,2,3,9,10,36],[0,1,2,3,9,10,11],[0,1,2,3,9,10,11,41],[0,1,2,3,9,10,11],[0,1,2,3,9,10],[0,1,2,3,9,10],[9,10],[8]]=some f132:=by kernel_rfl
theorem c133:compF Tryz.prog Tryz.f133 [[0,1],[0,1,5],[0,1,5,16],[4],[0,1,5,24],[4],[0,1,5,31],[4],[0,1,5,36],[4],[0,1,5,6],[0,1,5,6,7],[0,1,5,6,7,8],[0,1,5,6,7,8,9],[0,1,5,6,7,8,9,10],[0,1,5,6,7,8,9,10,59],[0,1,5,6,7,8,9,10,64],[0,1,5,6,7,8,9,10,11],[0,1,5,6,7,8,9,10,11,73],[4],[0,1,5,6,7,8,9,10],[0,1,5,6,7,8,9,10,93],[4],[0,1,5,6,7,8,9,10],[0,1,5,6,7,8,9,10],[0,1,5,6,7,8,9,10,107],[8,12],[8,12,114],[4],[4],[0,1,5,6,7,8,9,10,132],[8,13],[8,13,139],[4],[4],[4]]=some f133:=by kernel_rfl
theorem c134:compF Tryz.prog Tryz.f134 [[0],[0,4],[0,30],[0,5],[0,5,39],[0,5],[0,5,44],[2,3],[0,5,6],[5,6,47,48,49],[5,6,47,48,49,50],[5,6,8,47,48,49],[5,6,8,47,48,49],[5,6,8,47,48,49,56],[2,3],[5,6,47,48,49],[5,6,47,48,49],[6,66],[6],[2,3],[9,10],[2,3]]=some f134:=by kernel_rfl
theorem c136:compF Tryz.prog Tryz.f136 [[0,1,2,4],[0,1,2,4,8],[0,1,2,4,5],[0,1,2,4,5,13],[0,1,2,4,5,21],[0,1,2,4,5],[0,1,2,4]]=some f136:=by kernel_rfl
theorem c138:compF Tryz.prog Tryz.f138 [[0],[0,4],[2],[2]]=some f138:=by kernel_rfl
theorem c139:compF Tryz.prog Tryz.f139 [[2,3,5,6,9],[2,3,5,6,9,11],[2,3,5,6,9,11,12],[5,6,9,11,12,19],[5,6,9,11,12,13],[5,6,11,12,13,14],[],[10]]=some f139:=by kernel_rfl
theorem c140:compF Tryz.prog Tryz.f140 [[0,2,10,11,12],[0,2,10,11,12,13],[0,2,4,5,10,11,12],[0,2,4,5,10,11,12,30],[0,2,10,11,12,48],[0,2,10,11,12]]=some f140:=by kernel_rfl
theorem c141:compF Tryz.prog Tryz.f141 [[0,1,6,7],[0,1,6,7,8],[0,1,3,4,6,7],[0,1,3,4,5,6,7],[0,1,3,4,5,6,7,15],[0,1,3,4,5,6,7,23],[0,1,3,4,5,6,7],[0,1,6,7]]=some f141:=by kernel_rfl
theorem c142:compF Tryz.prog Tryz.f142 [[0,1,2],[0,1,2,7],[0,1,2,4],[0,1,2,14],[0,1],[]]=some f142:=by kernel_rfl
theorem c143:compF Tryz.prog Tryz.f143 [[0],[0]]=some f143:=by kernel_rfl
theorem c144:compF Tryz.prog Tryz.f144 [[1,2,3,4,5,6,7],[1,2,3,4,5,6,7],[1,2,3,4,5,6,7,9],[1,3,4,5,6,7,9],[1,4,5,6,7,9],[1,4,5,6,7,9],[1,4,5,6,7,9,44],[1,4,5,6,7,9,44,45],[1,4,5,6,7,9,44,45],[5,7,9],[5,9],[],[1,4,5,6,7,9,44,77],[1,4,5,6,7,9,77],[1,5,6,10,11],[1,5,6,11],[1,5,6,11,93],[],[]]=some f144:=by kernel_rfl
theorem c145:compF Tryz.prog Tryz.f145 [[3],[]]=some f145:=by kernel_rfl
theorem c147:compF Tryz.prog Tryz.f147 [[0,1],[0,1,7,8],[0,1,7,8,9],[0,1,5,7,8],[0,1,5,7,8,16],[4],[0,1,7,8],[4]]=some f147:=by kernel_rfl
theorem c149:compF Tryz.prog Tryz.f149 [[0,1],[0,1,7,8],[0,1,7,8,9],[0,1,5,7,8],[0,1,5,7,8,16],[4],[0,1,7,8],[4]]=some f149:=by kernel_rfl
theorem c150:compF Tryz.prog Tryz.f150 [[0],[0,3],[0,3,9,10,11],[0,3,9,10,11,12],[0,3,5,9,10,11],[0,3,9,10,11],[0,3,9,10,11,20],[0,3,9,10,11],[0,3,9,10,11],[0,6],[6,25,26,27],[6,25,26,27,28],[6,8,25,26,27],[6,25,26,27],[6,25,26,27],[2]]=some f150:=by kernel_rfl
theorem c151:compF Tryz.prog Tryz.f151 [[0],[2]]=some f151:=by kernel_rfl
theorem c155:compF Tryz.prog Tryz.f155 [[0,1],[0,1,9],[4],[0,1,15],[4],[0,1,5],[0,1,5,6],[0,1,5,6,24],[4],[0,1,5,6],[0,1,5]]=some f155:=by kernel_rfl
theorem c156:compF Tryz.prog Tryz.f156 [[0,1],[4]]=some f156:=by kernel_rfl
theorem c165:compF Tryz.prog Tryz.f165 [[1,2],[1,2,5],[3],[3]]=some f165:=by kernel_rfl
theorem c166:compF Tryz.prog Tryz.f166 [[1,3,5],[3,5,8],[3,5,7],[],[6]]=some f166:=by kernel_rfl
theorem c167:compF Tryz.prog Tryz.f167 [[1,2,3],[1,2,8],[4],[4]]=some f167:=by kernel_rfl
theorem c168:compF Tryz.prog Tryz.f168 [[1,2,3,4,5],[3,4,7,8],[6]]=some f168:=by kernel_rfl
theorem c170:compF Tryz.prog Tryz.f170 [[0,4,5],[6]]=some f170:=by kernel_rfl
theorem c171:compF Tryz.prog Tryz.f171 [[0,4,5],[6]]=some f171:=by kernel_rfl
theorem c172:compF Tryz.prog Tryz.f172 [[4,5],[6]]=some f172:=by kernel_rfl
theorem c173:compF Tryz.prog Tryz.f173 [[4,5],[6]]=some f173:=by kernel_rfl
theorem c176:compF Tryz.prog Tryz.f176 [[0,1],[0,1,6],[0,1],[0,1],[0,1,16],[0],[4]]=some f176:=by kernel_rfl
theorem c177:compF Tryz.prog Tryz.f177 [[0,1],[0,1,11],[0,17],[4],[0,5],[0,5,6],[0,5,6,23],[0,5,6],[0,5,6,7],[0,5,7],[5,7,34],[5,7],[4],[4],[9],[4]]=some f177:=by kernel_rfl
theorem c188:compF Tryz.prog Tryz.f188 [[0],[0,4],[2],[2]]=some f188:=by kernel_rfl
theorem ok182:Entry Tryz.prog 182 (.prim pCnt):= .prim (pCnt_ok Tryz.func182 (by kernel_rfl) rfl (by kernel_rfl) (by kernel_rfl))
theorem ok183:Entry Tryz.prog 183 (.prim pIdx):= .prim (pIdx_ok Tryz.func183 (by kernel_rfl) rfl (by kernel_rfl) (by kernel_rfl))
theorem ok87:Entry Tryz.prog 87 (.prim pJoin):= .prim (pJoin_ok Tryz.func87 (of_decide_eq_true (by kernel_rfl)) (by kernel_rfl) Tryz.strings_Join_none Tryz.strings_Join)
theorem all:tree.all (Entry Tryz.prog):=by
 unfold tree
 exact(Tr.all_node (Tr.all_node (Tr.all_node (Tr.all_node (Tr.all_node (Tr.all_node (Tr.all_node Tr.all_nil (.of Tryz.func19 c19) Tr.all_nil) (.of Tryz.func20 c20) Tr.all_nil) (.of Tryz.func22 c22) (Tr.all_node Tr.all_nil (.of Tryz.func24 c24) Tr.all_nil)) (.of Tryz.func27 c27) (Tr.all_node (Tr.all_node (Tr.all_node Tr.all_nil (.of Tryz.func29 c29) Tr.all_nil) (.of Tryz.func32 c32) Tr.all_nil) (.of Tryz.func34 c34) (Tr.all_node Tr.all_nil (.of Tryz.func37 c37) Tr.all_nil))) (.of Tryz.func42 c42) (Tr.all_node (Tr.all_node (Tr.all_node (Tr.all_node Tr.all_nil (.of Tryz.func44 c44) Tr.all_nil) (.of Tryz.func46 c46) Tr.all_nil) (.of Tryz.func48 c48) (Tr.all_node Tr.all_nil (.of Tryz.func50 c50) Tr.all_nil)) (.of Tryz.func66 c66) (Tr.all_node (Tr.all_node Tr.all_nil (.of Tryz.func74 c74) Tr.all_nil) (.of Tryz.func75 c75) (Tr.all_node Tr.all_nil (.of Tryz.func76 c76) Tr.all_nil)))) (.of Tryz.func77 c77) (Tr.all_node (Tr.all_node (Tr.all_node (Tr.all_node (Tr.all_node Tr.all_nil (.of Tryz.func78 c78) Tr.all_nil) (.of Tryz.func82 c82) Tr.all_nil) (.of Tryz.func83 c83) (Tr.all_node Tr.all_nil (.of Tryz.func84 c84) Tr.all_nil)) (.of Tryz.func86 c86) (Tr.all_node (Tr.all_node Tr.all_nil ok87 Tr.all_nil) (.of Tryz.func89 c89) (Tr.all_node Tr.all_nil (.of Tryz.func90 c90) Tr.all_nil))) (.of Tryz.func91 c91) (Tr.all_node (Tr.all_node (Tr.all_node (Tr.all_node Tr.all_nil (.of Tryz.func92 c92) Tr.all_nil) (.of Tryz.func94 c94) Tr.all_nil) (.of Tryz.func97 c97) (Tr.all_node Tr.all_nil (.of Tryz.func98 c98) Tr.all_nil)) (.of Tryz.func103 c103) (Tr.all_node (Tr.all_node Tr.all_nil (.of Tryz.func104 c104) Tr.all_nil) (.of Tryz.func105 c105) (Tr.all_node Tr.all_nil (.of Tryz.func106 c106) Tr.all_nil))))) (.of Tryz.func109 c109) (Tr.all_node (Tr.all_node (Tr.all_node (Tr.all_node (Tr.all_node (Tr.all_node Tr.all_nil (.of Tryz.func117 c117) Tr.all_nil) (.of Tryz.func118 c118) Tr.all_nil) (.of Tryz.func119 c119) (Tr.all_node Tr.all_nil (.of Tryz.func122 c122) Tr.all_nil)) (.of Tryz.func125 c125) (Tr.all_node (Tr.all_node (Tr.all_node Tr.all_nil (.of Tryz.func126 c126) Tr.all_nil) (.of Tryz.func127 c127) Tr.all_nil) (.of Tryz.func132 c132) (Tr.all_node Tr.all_nil (.of Tryz.func133 c133) Tr.all_nil))) (.of Tryz.func134 c134) (Tr.all_node (Tr.all_node (Tr.all_node (Tr.all_node Tr.all_nil (.of Tryz.func136 c136) Tr.all_nil) (.of Tryz.func138 c138) Tr.all_nil) (.of Tryz.func139 c139) (Tr.all_node Tr.all_nil (.of Tryz.func140 c140) Tr.all_nil)) (.of Tryz.func141 c141) (Tr.all_node (Tr.all_node Tr.all_nil (.of Tryz.func142 c142) Tr.all_nil) (.of Tryz.func143 c143) (Tr.all_node Tr.all_nil (.of Tryz.func144 c144) Tr.all_nil)))) (.of Tryz.func145 c145) (Tr.all_node (Tr.all_node (Tr.all_node (Tr.all_node (Tr.all_node Tr.all_nil (.of Tryz.func147 c147) Tr.all_nil) (.of Tryz.func149 c149) Tr.all_nil) (.of Tryz.func150 c150) (Tr.all_node Tr.all_nil (.of Tryz.func151 c151) Tr.all_nil)) (.of Tryz.func155 c155) (Tr.all_node (Tr.all_node Tr.all_nil (.of Tryz.func156 c156) Tr.all_nil) (.of Tryz.func165 c165) (Tr.all_node Tr.all_nil (.of Tryz.func166 c166) Tr.all_nil))) (.of Tryz.func167 c167) (Tr.all_node (Tr.all_node (Tr.all_node (Tr.all_node Tr.all_nil (.of Tryz.func168 c168) Tr.all_nil) (.of Tryz.func170 c170) Tr.all_nil) (.of Tryz.func172 c172) (Tr.all_node Tr.all_nil (.of Tryz.func176 c176) Tr.all_nil)) (.of Tryz.func177 c177) (Tr.all_node (Tr.all_node Tr.all_nil ok182 Tr.all_nil) ok183 (Tr.all_node Tr.all_nil (.of Tryz.func188 c188) Tr.all_nil))))))
theorem sound:SoundT Tryz.prog T:=soundT_of (by kernel_rfl) all
end Go.A.Pk
