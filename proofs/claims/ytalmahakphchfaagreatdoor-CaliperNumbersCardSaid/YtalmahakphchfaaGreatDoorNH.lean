/- The table is the program. -/
import Derived.Test.YtalmahakphchfaaGreatDoorNV
import Derived.Test.YtalmahakphchfaaGreatDoorND
import Derived.Test.YtalmahakphchfaaGreatDoorProg
import Derived.KernelRfl
import Derived.Test.YtalmahakphchfaaGreatDoorNG
set_option linter.all false
set_option maxRecDepth 100000
open Go Go.A Go.Proofs
namespace Go.A.Pk
def JH:Tr:=(.node (.node .nil 39 f35 .nil) 73 f121 .nil)
def TB:Nat->Option af:=JH.get
theorem b35:aD Tryz.prog Tryz.f39 (ksO f35)=some f35:=by kernel_rfl
theorem RB:aD Tryz.prog Tryz.f73 (ksO f121)=some f121:=by kernel_rfl
abbrev zq0:=@Tr.all_nil
theorem Ry:JH.all (Entry Tryz.prog):=by
 unfold JH;exact(Tr.aa (Tr.aa zq0 (.of Tryz.func39 b35) zq0) (.of Tryz.func73 RB) zq0)
theorem Jk:ew Tryz.prog TB:=sD (by kernel_rfl) Ry
theorem qA:Tryz.prog.globals.size<=1000:=of_decide_eq_true (by kernel_rfl)
theorem TS:Entry Tryz.prog 39 (.mQ pIn):= .mQ (IB Jk (n:=1000) Tryz.func39 (of_decide_eq_true (by kernel_rfl)) (by kernel_rfl) qA (by kernel_rfl) (K9 Jk.aV (by kernel_rfl) (by kernel_rfl)))
theorem c21:aD Tryz.prog Tryz.f6 (ksO f21)=some f21:=by kernel_rfl
theorem c22:aD Tryz.prog Tryz.f17 (ksO f22)=some f22:=by kernel_rfl
theorem c24:aD Tryz.prog Tryz.f23 (ksO f24)=some f24:=by kernel_rfl
theorem c27:aD Tryz.prog Tryz.f20 (ksO f27)=some f27:=by kernel_rfl
theorem c29:aD Tryz.prog Tryz.f21 (ksO f29)=some f29:=by kernel_rfl
theorem c33:aD Tryz.prog Tryz.f15 (ksO f33)=some f33:=by kernel_rfl
theorem c34:aD Tryz.prog Tryz.f44 (ksO f34)=some f34:=by kernel_rfl
theorem c36:aD Tryz.prog Tryz.f14 (ksO f36)=some f36:=by kernel_rfl
theorem c37:aD Tryz.prog Tryz.f11 (ksO f37)=some f37:=by kernel_rfl
theorem c38:aD Tryz.prog Tryz.f43 (ksO f38)=some f38:=by kernel_rfl
theorem c39:aD Tryz.prog Tryz.f18 (ksO f39)=some f39:=by kernel_rfl
theorem c40:aD Tryz.prog Tryz.f66 (ksO f40)=some f40:=by kernel_rfl
theorem c44:aD Tryz.prog Tryz.f37 (ksO f44)=some f44:=by kernel_rfl
theorem c47:aD Tryz.prog Tryz.f142 (ksO f47)=some f47:=by kernel_rfl
theorem c62:aD Tryz.prog Tryz.f134 (ksO f62)=some f62:=by kernel_rfl
theorem c72:aD Tryz.prog Tryz.f80 (ksO f72)=some f72:=by kernel_rfl
theorem c75:aD Tryz.prog Tryz.f22 (ksO f75)=some f75:=by kernel_rfl
theorem c85:aD Tryz.prog Tryz.f12 (ksO f85)=some f85:=by kernel_rfl
theorem c86:aD Tryz.prog Tryz.f13 (ksO f86)=some f86:=by kernel_rfl
theorem c87:aD Tryz.prog Tryz.f16 (ksO f87)=some f87:=by kernel_rfl
theorem c88:aD Tryz.prog Tryz.f19 (ksO f88)=some f88:=by kernel_rfl
theorem c89:aD Tryz.prog Tryz.f25 (ksO f89)=some f89:=by kernel_rfl
theorem c90:aD Tryz.prog Tryz.f26 (ksO f90)=some f90:=by kernel_rfl
theorem c91:aD Tryz.prog Tryz.f45 (ksO f91)=some f91:=by kernel_rfl
theorem c92:aD Tryz.prog Tryz.f46 (ksO f92)=some f92:=by kernel_rfl
theorem c96:aD Tryz.prog Tryz.f47 (ksO f96)=some f96:=by kernel_rfl
theorem c97:aD Tryz.prog Tryz.f49 (ksO f97)=some f97:=by kernel_rfl
theorem c98:aD Tryz.prog Tryz.f50 (ksO f98)=some f98:=by kernel_rfl
theorem c99:aD Tryz.prog Tryz.f51 (ksO f99)=some f99:=by kernel_rfl
theorem RE:aD Tryz.prog Tryz.f52 (ksO f104)=some f104:=by kernel_rfl
theorem RG:aD Tryz.prog Tryz.f53 (ksO f105)=some f105:=by kernel_rfl
theorem RI:aD Tryz.prog Tryz.f54 (ksO f106)=some f106:=by kernel_rfl
theorem RJ:aD Tryz.prog Tryz.f55 (ksO f107)=some f107:=by kernel_rfl
theorem RK:aD Tryz.prog Tryz.f56 (ksO f108)=some f108:=by kernel_rfl
theorem RL:aD Tryz.prog Tryz.f57 (ksO f109)=some f109:=by kernel_rfl
theorem PI:aD Tryz.prog Tryz.f78 (ksO f120)=some f120:=by kernel_rfl
theorem PJ:aD Tryz.prog Tryz.f73 (ksO f121)=some f121:=by kernel_rfl
theorem RM:aD Tryz.prog Tryz.f38 (ksO f122)=some f122:=by kernel_rfl
theorem PK:aD Tryz.prog Tryz.f40 (ksO f123)=some f123:=by kernel_rfl
theorem RN:aD Tryz.prog Tryz.f41 (ksO f124)=some f124:=by kernel_rfl
theorem RO:aD Tryz.prog Tryz.f42 (ksO f125)=some f125:=by kernel_rfl
theorem PL:aD Tryz.prog Tryz.f76 (ksO f126)=some f126:=by kernel_rfl
theorem PM:aD Tryz.prog Tryz.f77 (ksO f127)=some f127:=by kernel_rfl
theorem RP:aD Tryz.prog Tryz.f48 (ksO f128)=some f128:=by kernel_rfl
theorem RQ:aD Tryz.prog Tryz.f115 (ksO f129)=some f129:=by kernel_rfl
theorem RS:aD Tryz.prog Tryz.f68 (ksO f131)=some f131:=by kernel_rfl
theorem RT:aD Tryz.prog Tryz.f67 (ksO f132)=some f132:=by kernel_rfl
theorem RU:aD Tryz.prog Tryz.f69 (ksO f133)=some f133:=by kernel_rfl
theorem RV:aD Tryz.prog Tryz.f70 (ksO f134)=some f134:=by kernel_rfl
theorem RW:aD Tryz.prog Tryz.f71 (ksO f135)=some f135:=by kernel_rfl
theorem R5:aD Tryz.prog Tryz.f90 (ksO f141)=some f141:=by kernel_rfl
theorem R7:aD Tryz.prog Tryz.f99 (ksO f143)=some f143:=by kernel_rfl
theorem R8:aD Tryz.prog Tryz.f92 (ksO f147)=some f147:=by kernel_rfl
theorem R9:aD Tryz.prog Tryz.f93 (ksO f149)=some f149:=by kernel_rfl
theorem Sa:aD Tryz.prog Tryz.f157 (ksO f155)=some f155:=by kernel_rfl
theorem Sb:aD Tryz.prog Tryz.f158 (ksO f156)=some f156:=by kernel_rfl
theorem Sk:aD Tryz.prog Tryz.f128 (ksO f167)=some f167:=by kernel_rfl
theorem Sl:aD Tryz.prog Tryz.f129 (ksO f168)=some f168:=by kernel_rfl
theorem Sq:aD Tryz.prog Tryz.f72 (ksO f174)=some f174:=by kernel_rfl
theorem PN:aD Tryz.prog Tryz.f79 (ksO f188)=some f188:=by kernel_rfl
theorem Sr:aD Tryz.prog Tryz.f81 (ksO f189)=some f189:=by kernel_rfl
theorem Ss:aD Tryz.prog Tryz.f82 (ksO f190)=some f190:=by kernel_rfl
theorem Su:aD Tryz.prog Tryz.f83 (ksO f191)=some f191:=by kernel_rfl
theorem Sv:aD Tryz.prog Tryz.f84 (ksO f192)=some f192:=by kernel_rfl
theorem Sw:aD Tryz.prog Tryz.f85 (ksO f193)=some f193:=by kernel_rfl
theorem Sy:aD Tryz.prog Tryz.f86 (ksO f194)=some f194:=by kernel_rfl
theorem Sz:aD Tryz.prog Tryz.f87 (ksO f195)=some f195:=by kernel_rfl
theorem SA:aD Tryz.prog Tryz.f88 (ksO f196)=some f196:=by kernel_rfl
theorem SB:aD Tryz.prog Tryz.f89 (ksO f197)=some f197:=by kernel_rfl
theorem SC:aD Tryz.prog Tryz.f91 (ksO f201)=some f201:=by kernel_rfl
theorem SD:aD Tryz.prog Tryz.f94 (ksO f202)=some f202:=by kernel_rfl
theorem SF:aD Tryz.prog Tryz.f95 (ksO f203)=some f203:=by kernel_rfl
theorem SG:aD Tryz.prog Tryz.f96 (ksO f204)=some f204:=by kernel_rfl
theorem SH:aD Tryz.prog Tryz.f97 (ksO f205)=some f205:=by kernel_rfl
theorem SI:aD Tryz.prog Tryz.f98 (ksO f206)=some f206:=by kernel_rfl
theorem SJ:aD Tryz.prog Tryz.f100 (ksO f207)=some f207:=by kernel_rfl
theorem PO:aD Tryz.prog Tryz.f123 (ksO f209)=some f209:=by kernel_rfl
theorem PR:aD Tryz.prog Tryz.f124 (ksO f210)=some f210:=by kernel_rfl
theorem PS:aD Tryz.prog Tryz.f125 (ksO f211)=some f211:=by kernel_rfl
theorem PT:aD Tryz.prog Tryz.f126 (ksO f212)=some f212:=by kernel_rfl
theorem PU:aD Tryz.prog Tryz.f74 (ksO f213)=some f213:=by kernel_rfl
theorem PV:aD Tryz.prog Tryz.f75 (ksO f214)=some f214:=by kernel_rfl
theorem PX:aD Tryz.prog Tryz.f122 (ksO f215)=some f215:=by kernel_rfl
theorem SK:aD Tryz.prog Tryz.f140 (ksO f216)=some f216:=by kernel_rfl
theorem SL:aD Tryz.prog Tryz.f141 (ksO f217)=some f217:=by kernel_rfl
theorem SM:aD Tryz.prog Tryz.f117 (ksO f218)=some f218:=by kernel_rfl
theorem SN:aD Tryz.prog Tryz.f116 (ksO f219)=some f219:=by kernel_rfl
theorem SO:aD Tryz.prog Tryz.f118 (ksO f220)=some f220:=by kernel_rfl
theorem SV:aD Tryz.prog Tryz.f137 (ksO f226)=some f226:=by kernel_rfl
theorem SX:aD Tryz.prog Tryz.f135 (ksO f228)=some f228:=by kernel_rfl
theorem SY:aD Tryz.prog Tryz.f175 (ksO f231)=some f231:=by kernel_rfl
theorem Ta:aD Tryz.prog Tryz.f131 (ksO f241)=some f241:=by kernel_rfl
theorem PY:aD Tryz.prog Tryz.f127 (ksO f254)=some f254:=by kernel_rfl
theorem Tb:aD Tryz.prog Tryz.f130 (ksO f255)=some f255:=by kernel_rfl
theorem Tc:aD Tryz.prog Tryz.f132 (ksO f256)=some f256:=by kernel_rfl
theorem Td:aD Tryz.prog Tryz.f133 (ksO f257)=some f257:=by kernel_rfl
theorem Te:aD Tryz.prog Tryz.f136 (ksO f260)=some f260:=by kernel_rfl
theorem PZ:aD Tryz.prog Tryz.f143 (ksO f261)=some f261:=by kernel_rfl
theorem P0:aD Tryz.prog Tryz.f144 (ksO f262)=some f262:=by kernel_rfl
theorem P3:aD Tryz.prog Tryz.f145 (ksO f263)=some f263:=by kernel_rfl
theorem P4:aD Tryz.prog Tryz.f119 (ksO f264)=some f264:=by kernel_rfl
theorem P5:aD Tryz.prog Tryz.f120 (ksO f265)=some f265:=by kernel_rfl
theorem P6:aD Tryz.prog Tryz.f121 (ksO f266)=some f266:=by kernel_rfl
theorem Tu:aD Tryz.prog Tryz.f155 (ksO f291)=some f291:=by kernel_rfl
theorem Tv:aD Tryz.prog Tryz.f146 (ksO f307)=some f307:=by kernel_rfl
theorem Tw:aD Tryz.prog Tryz.f156 (ksO f315)=some f315:=by kernel_rfl
theorem P7:aD Tryz.prog Tryz.f164 (ksO f317)=some f317:=by kernel_rfl
theorem P8:aD Tryz.prog Tryz.f165 (ksO f318)=some f318:=by kernel_rfl
theorem P9:aD Tryz.prog Tryz.f166 (ksO f319)=some f319:=by kernel_rfl
theorem Qa:aD Tryz.prog Tryz.f167 (ksO f320)=some f320:=by kernel_rfl
theorem Qb:aD Tryz.prog Tryz.f168 (ksO f321)=some f321:=by kernel_rfl
theorem Qc:aD Tryz.prog Tryz.f169 (ksO f322)=some f322:=by kernel_rfl
theorem all:tree.all (Entry Tryz.prog):=by
 unfold tree;exact(Tr.aa (Tr.aa (Tr.aa (Tr.aa (Tr.aa (Tr.aa (Tr.aa zq0 (.of Tryz.func6 c21) zq0) (.of Tryz.func11 c37) (Tr.aa zq0 (.of Tryz.func12 c85) zq0)) (.of Tryz.func13 c86) (Tr.aa (Tr.aa zq0 (.of Tryz.func14 c36) zq0) (.of Tryz.func15 c33) (Tr.aa zq0 (.of Tryz.func16 c87) zq0))) (.of Tryz.func17 c22) (Tr.aa (Tr.aa (Tr.aa zq0 (.of Tryz.func18 c39) zq0) (.of Tryz.func19 c88) (Tr.aa zq0 (.of Tryz.func20 c27) zq0)) (.of Tryz.func21 c29) (Tr.aa (Tr.aa zq0 (.of Tryz.func22 c75) zq0) (.of Tryz.func23 c24) zq0))) (.of Tryz.func25 c89) (Tr.aa (Tr.aa (Tr.aa (Tr.aa zq0 (.of Tryz.func26 c90) zq0) (.of Tryz.func37 c44) (Tr.aa zq0 (.of Tryz.func38 RM) zq0)) TS (Tr.aa (Tr.aa zq0 (.of Tryz.func40 PK) zq0) (.of Tryz.func41 RN) zq0)) (.of Tryz.func42 RO) (Tr.aa (Tr.aa (Tr.aa zq0 (.of Tryz.func43 c38) zq0) (.of Tryz.func44 c34) (Tr.aa zq0 (.of Tryz.func45 c91) zq0)) (.of Tryz.func46 c92) (Tr.aa (Tr.aa zq0 (.of Tryz.func47 c96) zq0) (.of Tryz.func48 RP) zq0)))) (.of Tryz.func49 c97) (Tr.aa (Tr.aa (Tr.aa (Tr.aa (Tr.aa zq0 (.of Tryz.func50 c98) zq0) (.of Tryz.func51 c99) (Tr.aa zq0 (.of Tryz.func52 RE) zq0)) (.of Tryz.func53 RG) (Tr.aa (Tr.aa zq0 (.of Tryz.func54 RI) zq0) (.of Tryz.func55 RJ) zq0)) (.of Tryz.func56 RK) (Tr.aa (Tr.aa (Tr.aa zq0 (.of Tryz.func57 RL) zq0) (.of Tryz.func66 c40) (Tr.aa zq0 (.of Tryz.func67 RT) zq0)) (.of Tryz.func68 RS) (Tr.aa (Tr.aa zq0 (.of Tryz.func69 RU) zq0) (.of Tryz.func70 RV) zq0))) (.of Tryz.func71 RW) (Tr.aa (Tr.aa (Tr.aa (Tr.aa zq0 (.of Tryz.func72 Sq) zq0) (.of Tryz.func73 PJ) (Tr.aa zq0 (.of Tryz.func74 PU) zq0)) (.of Tryz.func75 PV) (Tr.aa (Tr.aa zq0 (.of Tryz.func76 PL) zq0) (.of Tryz.func77 PM) zq0)) (.of Tryz.func78 PI) (Tr.aa (Tr.aa (Tr.aa zq0 (.of Tryz.func79 PN) zq0) (.of Tryz.func80 c72) (Tr.aa zq0 (.of Tryz.func81 Sr) zq0)) (.of Tryz.func82 Ss) (Tr.aa (Tr.aa zq0 (.of Tryz.func83 Su) zq0) (.of Tryz.func84 Sv) zq0))))) (.of Tryz.func85 Sw) (Tr.aa (Tr.aa (Tr.aa (Tr.aa (Tr.aa (Tr.aa zq0 (.of Tryz.func86 Sy) zq0) (.of Tryz.func87 Sz) (Tr.aa zq0 (.of Tryz.func88 SA) zq0)) (.of Tryz.func89 SB) (Tr.aa (Tr.aa zq0 (.of Tryz.func90 R5) zq0) (.of Tryz.func91 SC) (Tr.aa zq0 (.of Tryz.func92 R8) zq0))) (.of Tryz.func93 R9) (Tr.aa (Tr.aa (Tr.aa zq0 (.of Tryz.func94 SD) zq0) (.of Tryz.func95 SF) (Tr.aa zq0 (.of Tryz.func96 SG) zq0)) (.of Tryz.func97 SH) (Tr.aa (Tr.aa zq0 (.of Tryz.func98 SI) zq0) (.of Tryz.func99 R7) zq0))) (.of Tryz.func100 SJ) (Tr.aa (Tr.aa (Tr.aa (Tr.aa zq0 (.of Tryz.func115 RQ) zq0) (.of Tryz.func116 SN) (Tr.aa zq0 (.of Tryz.func117 SM) zq0)) (.of Tryz.func118 SO) (Tr.aa (Tr.aa zq0 (.of Tryz.func119 P4) zq0) (.of Tryz.func120 P5) zq0)) (.of Tryz.func121 P6) (Tr.aa (Tr.aa (Tr.aa zq0 (.of Tryz.func122 PX) zq0) (.of Tryz.func123 PO) (Tr.aa zq0 (.of Tryz.func124 PR) zq0)) (.of Tryz.func125 PS) (Tr.aa (Tr.aa zq0 (.of Tryz.func126 PT) zq0) (.of Tryz.func127 PY) zq0)))) (.of Tryz.func128 Sk) (Tr.aa (Tr.aa (Tr.aa (Tr.aa (Tr.aa zq0 (.of Tryz.func129 Sl) zq0) (.of Tryz.func130 Tb) (Tr.aa zq0 (.of Tryz.func131 Ta) zq0)) (.of Tryz.func132 Tc) (Tr.aa (Tr.aa zq0 (.of Tryz.func133 Td) zq0) (.of Tryz.func134 c62) zq0)) (.of Tryz.func135 SX) (Tr.aa (Tr.aa (Tr.aa zq0 (.of Tryz.func136 Te) zq0) (.of Tryz.func137 SV) (Tr.aa zq0 (.of Tryz.func140 SK) zq0)) (.of Tryz.func141 SL) (Tr.aa (Tr.aa zq0 (.of Tryz.func142 c47) zq0) (.of Tryz.func143 PZ) zq0))) (.of Tryz.func144 P0) (Tr.aa (Tr.aa (Tr.aa (Tr.aa zq0 (.of Tryz.func145 P3) zq0) (.of Tryz.func146 Tv) (Tr.aa zq0 (.of Tryz.func155 Tu) zq0)) (.of Tryz.func156 Tw) (Tr.aa (Tr.aa zq0 (.of Tryz.func157 Sa) zq0) (.of Tryz.func158 Sb) zq0)) (.of Tryz.func164 P7) (Tr.aa (Tr.aa (Tr.aa zq0 (.of Tryz.func165 P8) zq0) (.of Tryz.func166 P9) (Tr.aa zq0 (.of Tryz.func167 Qa) zq0)) (.of Tryz.func168 Qb) (Tr.aa (Tr.aa zq0 (.of Tryz.func169 Qc) zq0) (.of Tryz.func175 SY) zq0))))))
theorem sound:ew Tryz.prog T:=sD (by kernel_rfl) all
end Go.A.Pk
