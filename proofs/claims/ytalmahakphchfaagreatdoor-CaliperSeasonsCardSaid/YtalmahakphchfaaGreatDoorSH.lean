/- The table is the program. -/
import Derived.Test.YtalmahakphchfaaGreatDoorSV
import Derived.Test.YtalmahakphchfaaGreatDoorSD
import Derived.Test.YtalmahakphchfaaGreatDoorProg
import Derived.KernelRfl
import Derived.Test.YtalmahakphchfaaGreatDoorSG
set_option linter.all false
set_option maxRecDepth 100000
open Go Go.A Go.Proofs
namespace Go.A.Pk
def Hz:Tr:=(.node (.node .nil 39 f35 .nil) 73 f121 .nil)
def TB:Nat→Option af:=Hz.get
theorem b35:aH Tryz.prog Tryz.f39 (ksO f35)=some f35:=by kernel_rfl
theorem OT:aH Tryz.prog Tryz.f73 (ksO f121)=some f121:=by kernel_rfl
theorem OP:Hz.all (Entry Tryz.prog):=by
 unfold Hz
 exact(Tr.aa (Tr.aa Tr.all_nil (.of Tryz.func39 b35) Tr.all_nil) (.of Tryz.func73 OT) Tr.all_nil)
theorem G5:dY Tryz.prog TB:=ru (by kernel_rfl) OP
theorem pU:Tryz.prog.globals.size≤1000:=of_decide_eq_true (by kernel_rfl)
theorem QF:Entry Tryz.prog 39 (.mA pIn):= .mA (Gq G5 (n:=1000) Tryz.func39 (of_decide_eq_true (by kernel_rfl)) (by kernel_rfl) pU (by kernel_rfl) (IV G5.bI (by kernel_rfl) (by kernel_rfl)))
theorem c21:aH Tryz.prog Tryz.f6 (ksO f21)=some f21:=by kernel_rfl
theorem c22:aH Tryz.prog Tryz.f17 (ksO f22)=some f22:=by kernel_rfl
theorem c24:aH Tryz.prog Tryz.f23 (ksO f24)=some f24:=by kernel_rfl
theorem c27:aH Tryz.prog Tryz.f20 (ksO f27)=some f27:=by kernel_rfl
theorem c29:aH Tryz.prog Tryz.f21 (ksO f29)=some f29:=by kernel_rfl
theorem c33:aH Tryz.prog Tryz.f15 (ksO f33)=some f33:=by kernel_rfl
theorem c34:aH Tryz.prog Tryz.f44 (ksO f34)=some f34:=by kernel_rfl
theorem c36:aH Tryz.prog Tryz.f14 (ksO f36)=some f36:=by kernel_rfl
theorem c37:aH Tryz.prog Tryz.f11 (ksO f37)=some f37:=by kernel_rfl
theorem c38:aH Tryz.prog Tryz.f43 (ksO f38)=some f38:=by kernel_rfl
theorem c39:aH Tryz.prog Tryz.f18 (ksO f39)=some f39:=by kernel_rfl
theorem c40:aH Tryz.prog Tryz.f66 (ksO f40)=some f40:=by kernel_rfl
theorem c44:aH Tryz.prog Tryz.f37 (ksO f44)=some f44:=by kernel_rfl
theorem c47:aH Tryz.prog Tryz.f142 (ksO f47)=some f47:=by kernel_rfl
theorem c62:aH Tryz.prog Tryz.f134 (ksO f62)=some f62:=by kernel_rfl
theorem c72:aH Tryz.prog Tryz.f80 (ksO f72)=some f72:=by kernel_rfl
theorem c75:aH Tryz.prog Tryz.f22 (ksO f75)=some f75:=by kernel_rfl
theorem c85:aH Tryz.prog Tryz.f12 (ksO f85)=some f85:=by kernel_rfl
theorem c86:aH Tryz.prog Tryz.f13 (ksO f86)=some f86:=by kernel_rfl
theorem c87:aH Tryz.prog Tryz.f16 (ksO f87)=some f87:=by kernel_rfl
theorem c88:aH Tryz.prog Tryz.f19 (ksO f88)=some f88:=by kernel_rfl
theorem c89:aH Tryz.prog Tryz.f25 (ksO f89)=some f89:=by kernel_rfl
theorem c90:aH Tryz.prog Tryz.f26 (ksO f90)=some f90:=by kernel_rfl
theorem c91:aH Tryz.prog Tryz.f45 (ksO f91)=some f91:=by kernel_rfl
theorem c92:aH Tryz.prog Tryz.f46 (ksO f92)=some f92:=by kernel_rfl
theorem c96:aH Tryz.prog Tryz.f47 (ksO f96)=some f96:=by kernel_rfl
theorem c97:aH Tryz.prog Tryz.f49 (ksO f97)=some f97:=by kernel_rfl
theorem c98:aH Tryz.prog Tryz.f50 (ksO f98)=some f98:=by kernel_rfl
theorem c99:aH Tryz.prog Tryz.f51 (ksO f99)=some f99:=by kernel_rfl
theorem OV:aH Tryz.prog Tryz.f52 (ksO f104)=some f104:=by kernel_rfl
theorem OW:aH Tryz.prog Tryz.f53 (ksO f105)=some f105:=by kernel_rfl
theorem OX:aH Tryz.prog Tryz.f54 (ksO f106)=some f106:=by kernel_rfl
theorem OY:aH Tryz.prog Tryz.f55 (ksO f107)=some f107:=by kernel_rfl
theorem OZ:aH Tryz.prog Tryz.f56 (ksO f108)=some f108:=by kernel_rfl
theorem O0:aH Tryz.prog Tryz.f57 (ksO f109)=some f109:=by kernel_rfl
theorem M4:aH Tryz.prog Tryz.f78 (ksO f120)=some f120:=by kernel_rfl
theorem M5:aH Tryz.prog Tryz.f73 (ksO f121)=some f121:=by kernel_rfl
theorem O3:aH Tryz.prog Tryz.f38 (ksO f122)=some f122:=by kernel_rfl
theorem M6:aH Tryz.prog Tryz.f40 (ksO f123)=some f123:=by kernel_rfl
theorem O4:aH Tryz.prog Tryz.f41 (ksO f124)=some f124:=by kernel_rfl
theorem O5:aH Tryz.prog Tryz.f42 (ksO f125)=some f125:=by kernel_rfl
theorem M7:aH Tryz.prog Tryz.f76 (ksO f126)=some f126:=by kernel_rfl
theorem M8:aH Tryz.prog Tryz.f77 (ksO f127)=some f127:=by kernel_rfl
theorem O6:aH Tryz.prog Tryz.f48 (ksO f128)=some f128:=by kernel_rfl
theorem O7:aH Tryz.prog Tryz.f115 (ksO f129)=some f129:=by kernel_rfl
theorem O8:aH Tryz.prog Tryz.f68 (ksO f131)=some f131:=by kernel_rfl
theorem O9:aH Tryz.prog Tryz.f67 (ksO f132)=some f132:=by kernel_rfl
theorem Pa:aH Tryz.prog Tryz.f69 (ksO f133)=some f133:=by kernel_rfl
theorem Pc:aH Tryz.prog Tryz.f70 (ksO f134)=some f134:=by kernel_rfl
theorem Pd:aH Tryz.prog Tryz.f71 (ksO f135)=some f135:=by kernel_rfl
theorem Pe:aH Tryz.prog Tryz.f90 (ksO f141)=some f141:=by kernel_rfl
theorem Pf:aH Tryz.prog Tryz.f99 (ksO f143)=some f143:=by kernel_rfl
theorem Pg:aH Tryz.prog Tryz.f92 (ksO f147)=some f147:=by kernel_rfl
theorem Ph:aH Tryz.prog Tryz.f93 (ksO f149)=some f149:=by kernel_rfl
theorem Pj:aH Tryz.prog Tryz.f157 (ksO f155)=some f155:=by kernel_rfl
theorem Pm:aH Tryz.prog Tryz.f158 (ksO f156)=some f156:=by kernel_rfl
theorem Pw:aH Tryz.prog Tryz.f128 (ksO f167)=some f167:=by kernel_rfl
theorem Px:aH Tryz.prog Tryz.f129 (ksO f168)=some f168:=by kernel_rfl
theorem Py:aH Tryz.prog Tryz.f72 (ksO f174)=some f174:=by kernel_rfl
theorem M9:aH Tryz.prog Tryz.f79 (ksO f188)=some f188:=by kernel_rfl
theorem Pz:aH Tryz.prog Tryz.f81 (ksO f189)=some f189:=by kernel_rfl
theorem PA:aH Tryz.prog Tryz.f82 (ksO f190)=some f190:=by kernel_rfl
theorem PB:aH Tryz.prog Tryz.f83 (ksO f191)=some f191:=by kernel_rfl
theorem PC:aH Tryz.prog Tryz.f84 (ksO f192)=some f192:=by kernel_rfl
theorem PD:aH Tryz.prog Tryz.f85 (ksO f193)=some f193:=by kernel_rfl
theorem PE:aH Tryz.prog Tryz.f86 (ksO f194)=some f194:=by kernel_rfl
theorem PF:aH Tryz.prog Tryz.f87 (ksO f195)=some f195:=by kernel_rfl
theorem PG:aH Tryz.prog Tryz.f88 (ksO f196)=some f196:=by kernel_rfl
theorem PI:aH Tryz.prog Tryz.f89 (ksO f197)=some f197:=by kernel_rfl
theorem PJ:aH Tryz.prog Tryz.f91 (ksO f201)=some f201:=by kernel_rfl
theorem PK:aH Tryz.prog Tryz.f94 (ksO f202)=some f202:=by kernel_rfl
theorem PL:aH Tryz.prog Tryz.f95 (ksO f203)=some f203:=by kernel_rfl
theorem PM:aH Tryz.prog Tryz.f96 (ksO f204)=some f204:=by kernel_rfl
theorem PN:aH Tryz.prog Tryz.f97 (ksO f205)=some f205:=by kernel_rfl
theorem PO:aH Tryz.prog Tryz.f98 (ksO f206)=some f206:=by kernel_rfl
theorem PR:aH Tryz.prog Tryz.f100 (ksO f207)=some f207:=by kernel_rfl
theorem Na:aH Tryz.prog Tryz.f123 (ksO f209)=some f209:=by kernel_rfl
theorem Nb:aH Tryz.prog Tryz.f124 (ksO f210)=some f210:=by kernel_rfl
theorem Nc:aH Tryz.prog Tryz.f125 (ksO f211)=some f211:=by kernel_rfl
theorem Nd:aH Tryz.prog Tryz.f126 (ksO f212)=some f212:=by kernel_rfl
theorem Nf:aH Tryz.prog Tryz.f74 (ksO f213)=some f213:=by kernel_rfl
theorem Ng:aH Tryz.prog Tryz.f75 (ksO f214)=some f214:=by kernel_rfl
theorem Nh:aH Tryz.prog Tryz.f122 (ksO f215)=some f215:=by kernel_rfl
theorem PS:aH Tryz.prog Tryz.f140 (ksO f216)=some f216:=by kernel_rfl
theorem PT:aH Tryz.prog Tryz.f141 (ksO f217)=some f217:=by kernel_rfl
theorem PU:aH Tryz.prog Tryz.f117 (ksO f218)=some f218:=by kernel_rfl
theorem PV:aH Tryz.prog Tryz.f116 (ksO f219)=some f219:=by kernel_rfl
theorem PX:aH Tryz.prog Tryz.f118 (ksO f220)=some f220:=by kernel_rfl
theorem PY:aH Tryz.prog Tryz.f137 (ksO f226)=some f226:=by kernel_rfl
theorem PZ:aH Tryz.prog Tryz.f135 (ksO f228)=some f228:=by kernel_rfl
theorem P0:aH Tryz.prog Tryz.f175 (ksO f231)=some f231:=by kernel_rfl
theorem P7:aH Tryz.prog Tryz.f131 (ksO f241)=some f241:=by kernel_rfl
theorem Ni:aH Tryz.prog Tryz.f127 (ksO f254)=some f254:=by kernel_rfl
theorem P8:aH Tryz.prog Tryz.f130 (ksO f255)=some f255:=by kernel_rfl
theorem P9:aH Tryz.prog Tryz.f132 (ksO f256)=some f256:=by kernel_rfl
theorem Qa:aH Tryz.prog Tryz.f133 (ksO f257)=some f257:=by kernel_rfl
theorem Qb:aH Tryz.prog Tryz.f136 (ksO f260)=some f260:=by kernel_rfl
theorem Nj:aH Tryz.prog Tryz.f143 (ksO f261)=some f261:=by kernel_rfl
theorem Nk:aH Tryz.prog Tryz.f144 (ksO f262)=some f262:=by kernel_rfl
theorem Nl:aH Tryz.prog Tryz.f145 (ksO f263)=some f263:=by kernel_rfl
theorem Nn:aH Tryz.prog Tryz.f119 (ksO f264)=some f264:=by kernel_rfl
theorem No:aH Tryz.prog Tryz.f120 (ksO f265)=some f265:=by kernel_rfl
theorem Np:aH Tryz.prog Tryz.f121 (ksO f266)=some f266:=by kernel_rfl
theorem Ql:aH Tryz.prog Tryz.f155 (ksO f291)=some f291:=by kernel_rfl
theorem Qm:aH Tryz.prog Tryz.f146 (ksO f307)=some f307:=by kernel_rfl
theorem Qn:aH Tryz.prog Tryz.f156 (ksO f315)=some f315:=by kernel_rfl
theorem Nq:aH Tryz.prog Tryz.f164 (ksO f317)=some f317:=by kernel_rfl
theorem Nr:aH Tryz.prog Tryz.f165 (ksO f318)=some f318:=by kernel_rfl
theorem Ns:aH Tryz.prog Tryz.f166 (ksO f319)=some f319:=by kernel_rfl
theorem Nt:aH Tryz.prog Tryz.f167 (ksO f320)=some f320:=by kernel_rfl
theorem Nu:aH Tryz.prog Tryz.f168 (ksO f321)=some f321:=by kernel_rfl
theorem Nv:aH Tryz.prog Tryz.f169 (ksO f322)=some f322:=by kernel_rfl
theorem all:tree.all (Entry Tryz.prog):=by
 unfold tree
 exact(Tr.aa (Tr.aa (Tr.aa (Tr.aa (Tr.aa (Tr.aa (Tr.aa Tr.all_nil (.of Tryz.func6 c21) Tr.all_nil) (.of Tryz.func11 c37) (Tr.aa Tr.all_nil (.of Tryz.func12 c85) Tr.all_nil)) (.of Tryz.func13 c86) (Tr.aa (Tr.aa Tr.all_nil (.of Tryz.func14 c36) Tr.all_nil) (.of Tryz.func15 c33) (Tr.aa Tr.all_nil (.of Tryz.func16 c87) Tr.all_nil))) (.of Tryz.func17 c22) (Tr.aa (Tr.aa (Tr.aa Tr.all_nil (.of Tryz.func18 c39) Tr.all_nil) (.of Tryz.func19 c88) (Tr.aa Tr.all_nil (.of Tryz.func20 c27) Tr.all_nil)) (.of Tryz.func21 c29) (Tr.aa (Tr.aa Tr.all_nil (.of Tryz.func22 c75) Tr.all_nil) (.of Tryz.func23 c24) Tr.all_nil))) (.of Tryz.func25 c89) (Tr.aa (Tr.aa (Tr.aa (Tr.aa Tr.all_nil (.of Tryz.func26 c90) Tr.all_nil) (.of Tryz.func37 c44) (Tr.aa Tr.all_nil (.of Tryz.func38 O3) Tr.all_nil)) QF (Tr.aa (Tr.aa Tr.all_nil (.of Tryz.func40 M6) Tr.all_nil) (.of Tryz.func41 O4) Tr.all_nil)) (.of Tryz.func42 O5) (Tr.aa (Tr.aa (Tr.aa Tr.all_nil (.of Tryz.func43 c38) Tr.all_nil) (.of Tryz.func44 c34) (Tr.aa Tr.all_nil (.of Tryz.func45 c91) Tr.all_nil)) (.of Tryz.func46 c92) (Tr.aa (Tr.aa Tr.all_nil (.of Tryz.func47 c96) Tr.all_nil) (.of Tryz.func48 O6) Tr.all_nil)))) (.of Tryz.func49 c97) (Tr.aa (Tr.aa (Tr.aa (Tr.aa (Tr.aa Tr.all_nil (.of Tryz.func50 c98) Tr.all_nil) (.of Tryz.func51 c99) (Tr.aa Tr.all_nil (.of Tryz.func52 OV) Tr.all_nil)) (.of Tryz.func53 OW) (Tr.aa (Tr.aa Tr.all_nil (.of Tryz.func54 OX) Tr.all_nil) (.of Tryz.func55 OY) Tr.all_nil)) (.of Tryz.func56 OZ) (Tr.aa (Tr.aa (Tr.aa Tr.all_nil (.of Tryz.func57 O0) Tr.all_nil) (.of Tryz.func66 c40) (Tr.aa Tr.all_nil (.of Tryz.func67 O9) Tr.all_nil)) (.of Tryz.func68 O8) (Tr.aa (Tr.aa Tr.all_nil (.of Tryz.func69 Pa) Tr.all_nil) (.of Tryz.func70 Pc) Tr.all_nil))) (.of Tryz.func71 Pd) (Tr.aa (Tr.aa (Tr.aa (Tr.aa Tr.all_nil (.of Tryz.func72 Py) Tr.all_nil) (.of Tryz.func73 M5) (Tr.aa Tr.all_nil (.of Tryz.func74 Nf) Tr.all_nil)) (.of Tryz.func75 Ng) (Tr.aa (Tr.aa Tr.all_nil (.of Tryz.func76 M7) Tr.all_nil) (.of Tryz.func77 M8) Tr.all_nil)) (.of Tryz.func78 M4) (Tr.aa (Tr.aa (Tr.aa Tr.all_nil (.of Tryz.func79 M9) Tr.all_nil) (.of Tryz.func80 c72) (Tr.aa Tr.all_nil (.of Tryz.func81 Pz) Tr.all_nil)) (.of Tryz.func82 PA) (Tr.aa (Tr.aa Tr.all_nil (.of Tryz.func83 PB) Tr.all_nil) (.of Tryz.func84 PC) Tr.all_nil))))) (.of Tryz.func85 PD) (Tr.aa (Tr.aa (Tr.aa (Tr.aa (Tr.aa (Tr.aa Tr.all_nil (.of Tryz.func86 PE) Tr.all_nil) (.of Tryz.func87 PF) (Tr.aa Tr.all_nil (.of Tryz.func88 PG) Tr.all_nil)) (.of Tryz.func89 PI) (Tr.aa (Tr.aa Tr.all_nil (.of Tryz.func90 Pe) Tr.all_nil) (.of Tryz.func91 PJ) (Tr.aa Tr.all_nil (.of Tryz.func92 Pg) Tr.all_nil))) (.of Tryz.func93 Ph) (Tr.aa (Tr.aa (Tr.aa Tr.all_nil (.of Tryz.func94 PK) Tr.all_nil) (.of Tryz.func95 PL) (Tr.aa Tr.all_nil (.of Tryz.func96 PM) Tr.all_nil)) (.of Tryz.func97 PN) (Tr.aa (Tr.aa Tr.all_nil (.of Tryz.func98 PO) Tr.all_nil) (.of Tryz.func99 Pf) Tr.all_nil))) (.of Tryz.func100 PR) (Tr.aa (Tr.aa (Tr.aa (Tr.aa Tr.all_nil (.of Tryz.func115 O7) Tr.all_nil) (.of Tryz.func116 PV) (Tr.aa Tr.all_nil (.of Tryz.func117 PU) Tr.all_nil)) (.of Tryz.func118 PX) (Tr.aa (Tr.aa Tr.all_nil (.of Tryz.func119 Nn) Tr.all_nil) (.of Tryz.func120 No) Tr.all_nil)) (.of Tryz.func121 Np) (Tr.aa (Tr.aa (Tr.aa Tr.all_nil (.of Tryz.func122 Nh) Tr.all_nil) (.of Tryz.func123 Na) (Tr.aa Tr.all_nil (.of Tryz.func124 Nb) Tr.all_nil)) (.of Tryz.func125 Nc) (Tr.aa (Tr.aa Tr.all_nil (.of Tryz.func126 Nd) Tr.all_nil) (.of Tryz.func127 Ni) Tr.all_nil)))) (.of Tryz.func128 Pw) (Tr.aa (Tr.aa (Tr.aa (Tr.aa (Tr.aa Tr.all_nil (.of Tryz.func129 Px) Tr.all_nil) (.of Tryz.func130 P8) (Tr.aa Tr.all_nil (.of Tryz.func131 P7) Tr.all_nil)) (.of Tryz.func132 P9) (Tr.aa (Tr.aa Tr.all_nil (.of Tryz.func133 Qa) Tr.all_nil) (.of Tryz.func134 c62) Tr.all_nil)) (.of Tryz.func135 PZ) (Tr.aa (Tr.aa (Tr.aa Tr.all_nil (.of Tryz.func136 Qb) Tr.all_nil) (.of Tryz.func137 PY) (Tr.aa Tr.all_nil (.of Tryz.func140 PS) Tr.all_nil)) (.of Tryz.func141 PT) (Tr.aa (Tr.aa Tr.all_nil (.of Tryz.func142 c47) Tr.all_nil) (.of Tryz.func143 Nj) Tr.all_nil))) (.of Tryz.func144 Nk) (Tr.aa (Tr.aa (Tr.aa (Tr.aa Tr.all_nil (.of Tryz.func145 Nl) Tr.all_nil) (.of Tryz.func146 Qm) (Tr.aa Tr.all_nil (.of Tryz.func155 Ql) Tr.all_nil)) (.of Tryz.func156 Qn) (Tr.aa (Tr.aa Tr.all_nil (.of Tryz.func157 Pj) Tr.all_nil) (.of Tryz.func158 Pm) Tr.all_nil)) (.of Tryz.func164 Nq) (Tr.aa (Tr.aa (Tr.aa Tr.all_nil (.of Tryz.func165 Nr) Tr.all_nil) (.of Tryz.func166 Ns) (Tr.aa Tr.all_nil (.of Tryz.func167 Nt) Tr.all_nil)) (.of Tryz.func168 Nu) (Tr.aa (Tr.aa Tr.all_nil (.of Tryz.func169 Nv) Tr.all_nil) (.of Tryz.func175 P0) Tr.all_nil))))))
theorem sound:dY Tryz.prog T:=ru (by kernel_rfl) all
end Go.A.Pk
