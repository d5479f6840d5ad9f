/- The table is the program. -/
import Derived.Test.YtppgkemkfdkobaaGreatDoorGV
import Derived.Test.YtppgkemkfdkobaaGreatDoorGD
import Derived.Test.YtppgkemkfdkobaaGreatDoorProg
import Derived.KernelRfl
import Derived.Test.YtppgkemkfdkobaaGreatDoorGG
set_option linter.all false
set_option maxRecDepth 100000
open Go Go.A Go.Proofs
namespace Go.A.Pk
def Qk:Tr:=(.node (.node .nil 53 f35 .nil) 94 f121 .nil)
def TB:Nat->Option aq:=Qk.get
def b35:aI Tryz.prog Tryz.f53 (ksO f35)=some f35:=by kernel_rfl
def ZW:aI Tryz.prog Tryz.f94 (ksO f121)=some f121:=by kernel_rfl
abbrev zq0:=@Tr.all_nil
def ZS:Qk.all (Entry Tryz.prog):=by
 unfold Qk;exact(Tr.aa (Tr.aa zq0 (.of Tryz.func53 b35) zq0) (.of Tryz.func94 ZW) zq0)
def PJ:eZ Tryz.prog TB:=tN (by kernel_rfl) ZS
def pM:Tryz.prog.globals.size<=1000:=of_decide_eq_true (by kernel_rfl)
def abv:Entry Tryz.prog 53 (.mW pIn):= .mW (O0 PJ (n:=1000) Tryz.func53 (of_decide_eq_true (by kernel_rfl)) (by kernel_rfl) pM (by kernel_rfl) (SK PJ.aK (by kernel_rfl) (by kernel_rfl)))
def c21:aI Tryz.prog Tryz.f5 (ksO f21)=some f21:=by kernel_rfl
def c22:aI Tryz.prog Tryz.f19 (ksO f22)=some f22:=by kernel_rfl
def c24:aI Tryz.prog Tryz.f24 (ksO f24)=some f24:=by kernel_rfl
def c27:aI Tryz.prog Tryz.f21 (ksO f27)=some f27:=by kernel_rfl
def c29:aI Tryz.prog Tryz.f22 (ksO f29)=some f29:=by kernel_rfl
def c33:aI Tryz.prog Tryz.f17 (ksO f33)=some f33:=by kernel_rfl
def c34:aI Tryz.prog Tryz.f60 (ksO f34)=some f34:=by kernel_rfl
def c36:aI Tryz.prog Tryz.f16 (ksO f36)=some f36:=by kernel_rfl
def c37:aI Tryz.prog Tryz.f13 (ksO f37)=some f37:=by kernel_rfl
def c38:aI Tryz.prog Tryz.f57 (ksO f38)=some f38:=by kernel_rfl
def c39:aI Tryz.prog Tryz.f6 (ksO f39)=some f39:=by kernel_rfl
def c40:aI Tryz.prog Tryz.f87 (ksO f40)=some f40:=by kernel_rfl
def c44:aI Tryz.prog Tryz.f51 (ksO f44)=some f44:=by kernel_rfl
def c47:aI Tryz.prog Tryz.f152 (ksO f47)=some f47:=by kernel_rfl
def c62:aI Tryz.prog Tryz.f118 (ksO f62)=some f62:=by kernel_rfl
def c72:aI Tryz.prog Tryz.f101 (ksO f72)=some f72:=by kernel_rfl
def c75:aI Tryz.prog Tryz.f23 (ksO f75)=some f75:=by kernel_rfl
def c85:aI Tryz.prog Tryz.f14 (ksO f85)=some f85:=by kernel_rfl
def c86:aI Tryz.prog Tryz.f15 (ksO f86)=some f86:=by kernel_rfl
def c87:aI Tryz.prog Tryz.f18 (ksO f87)=some f87:=by kernel_rfl
def c88:aI Tryz.prog Tryz.f20 (ksO f88)=some f88:=by kernel_rfl
def c89:aI Tryz.prog Tryz.f58 (ksO f89)=some f89:=by kernel_rfl
def c90:aI Tryz.prog Tryz.f59 (ksO f90)=some f90:=by kernel_rfl
def c91:aI Tryz.prog Tryz.f61 (ksO f91)=some f91:=by kernel_rfl
def c92:aI Tryz.prog Tryz.f62 (ksO f92)=some f92:=by kernel_rfl
def c96:aI Tryz.prog Tryz.f25 (ksO f96)=some f96:=by kernel_rfl
def c97:aI Tryz.prog Tryz.f63 (ksO f97)=some f97:=by kernel_rfl
def c98:aI Tryz.prog Tryz.f64 (ksO f98)=some f98:=by kernel_rfl
def c99:aI Tryz.prog Tryz.f65 (ksO f99)=some f99:=by kernel_rfl
def Z6:aI Tryz.prog Tryz.f66 (ksO f104)=some f104:=by kernel_rfl
def Z7:aI Tryz.prog Tryz.f67 (ksO f105)=some f105:=by kernel_rfl
def Xy:aI Tryz.prog Tryz.f68 (ksO f106)=some f106:=by kernel_rfl
def Z8:aI Tryz.prog Tryz.f69 (ksO f107)=some f107:=by kernel_rfl
def Xz:aI Tryz.prog Tryz.f70 (ksO f108)=some f108:=by kernel_rfl
def Z9:aI Tryz.prog Tryz.f71 (ksO f109)=some f109:=by kernel_rfl
def XA:aI Tryz.prog Tryz.f99 (ksO f120)=some f120:=by kernel_rfl
def XB:aI Tryz.prog Tryz.f94 (ksO f121)=some f121:=by kernel_rfl
def aaj:aI Tryz.prog Tryz.f52 (ksO f122)=some f122:=by kernel_rfl
def XC:aI Tryz.prog Tryz.f54 (ksO f123)=some f123:=by kernel_rfl
def XD:aI Tryz.prog Tryz.f55 (ksO f124)=some f124:=by kernel_rfl
def aak:aI Tryz.prog Tryz.f56 (ksO f125)=some f125:=by kernel_rfl
def XE:aI Tryz.prog Tryz.f97 (ksO f126)=some f126:=by kernel_rfl
def XF:aI Tryz.prog Tryz.f98 (ksO f127)=some f127:=by kernel_rfl
def XG:aI Tryz.prog Tryz.f26 (ksO f128)=some f128:=by kernel_rfl
def aal:aI Tryz.prog Tryz.f123 (ksO f129)=some f129:=by kernel_rfl
def aam:aI Tryz.prog Tryz.f89 (ksO f131)=some f131:=by kernel_rfl
def aan:aI Tryz.prog Tryz.f88 (ksO f132)=some f132:=by kernel_rfl
def aao:aI Tryz.prog Tryz.f90 (ksO f133)=some f133:=by kernel_rfl
def aap:aI Tryz.prog Tryz.f91 (ksO f134)=some f134:=by kernel_rfl
def aaq:aI Tryz.prog Tryz.f92 (ksO f135)=some f135:=by kernel_rfl
def XH:aI Tryz.prog Tryz.f72 (ksO f141)=some f141:=by kernel_rfl
def XI:aI Tryz.prog Tryz.f116 (ksO f143)=some f143:=by kernel_rfl
def XJ:aI Tryz.prog Tryz.f31 (ksO f147)=some f147:=by kernel_rfl
def XK:aI Tryz.prog Tryz.f33 (ksO f149)=some f149:=by kernel_rfl
def XL:aI Tryz.prog Tryz.f144 (ksO f155)=some f155:=by kernel_rfl
def XM:aI Tryz.prog Tryz.f145 (ksO f156)=some f156:=by kernel_rfl
def XN:aI Tryz.prog Tryz.f136 (ksO f167)=some f167:=by kernel_rfl
def aaD:aI Tryz.prog Tryz.f137 (ksO f168)=some f168:=by kernel_rfl
def XO:aI Tryz.prog Tryz.f93 (ksO f174)=some f174:=by kernel_rfl
def XP:aI Tryz.prog Tryz.f100 (ksO f188)=some f188:=by kernel_rfl
def aaG:aI Tryz.prog Tryz.f102 (ksO f189)=some f189:=by kernel_rfl
def aaH:aI Tryz.prog Tryz.f103 (ksO f190)=some f190:=by kernel_rfl
def aaI:aI Tryz.prog Tryz.f104 (ksO f191)=some f191:=by kernel_rfl
def XS:aI Tryz.prog Tryz.f105 (ksO f192)=some f192:=by kernel_rfl
def XT:aI Tryz.prog Tryz.f106 (ksO f193)=some f193:=by kernel_rfl
def XU:aI Tryz.prog Tryz.f107 (ksO f194)=some f194:=by kernel_rfl
def XV:aI Tryz.prog Tryz.f108 (ksO f195)=some f195:=by kernel_rfl
def XX:aI Tryz.prog Tryz.f109 (ksO f196)=some f196:=by kernel_rfl
def XY:aI Tryz.prog Tryz.f110 (ksO f197)=some f197:=by kernel_rfl
def XZ:aI Tryz.prog Tryz.f73 (ksO f201)=some f201:=by kernel_rfl
def aaM:aI Tryz.prog Tryz.f111 (ksO f202)=some f202:=by kernel_rfl
def aaN:aI Tryz.prog Tryz.f112 (ksO f203)=some f203:=by kernel_rfl
def aaO:aI Tryz.prog Tryz.f113 (ksO f204)=some f204:=by kernel_rfl
def aaP:aI Tryz.prog Tryz.f114 (ksO f205)=some f205:=by kernel_rfl
def aaQ:aI Tryz.prog Tryz.f115 (ksO f206)=some f206:=by kernel_rfl
def X0:aI Tryz.prog Tryz.f117 (ksO f207)=some f207:=by kernel_rfl
def X1:aI Tryz.prog Tryz.f131 (ksO f209)=some f209:=by kernel_rfl
def X2:aI Tryz.prog Tryz.f132 (ksO f210)=some f210:=by kernel_rfl
def X3:aI Tryz.prog Tryz.f133 (ksO f211)=some f211:=by kernel_rfl
def X4:aI Tryz.prog Tryz.f134 (ksO f212)=some f212:=by kernel_rfl
def X5:aI Tryz.prog Tryz.f95 (ksO f213)=some f213:=by kernel_rfl
def X6:aI Tryz.prog Tryz.f96 (ksO f214)=some f214:=by kernel_rfl
def X7:aI Tryz.prog Tryz.f130 (ksO f215)=some f215:=by kernel_rfl
def aaS:aI Tryz.prog Tryz.f150 (ksO f216)=some f216:=by kernel_rfl
def aaT:aI Tryz.prog Tryz.f151 (ksO f217)=some f217:=by kernel_rfl
def aaU:aI Tryz.prog Tryz.f125 (ksO f218)=some f218:=by kernel_rfl
def aaV:aI Tryz.prog Tryz.f124 (ksO f219)=some f219:=by kernel_rfl
def aaW:aI Tryz.prog Tryz.f126 (ksO f220)=some f220:=by kernel_rfl
def X8:aI Tryz.prog Tryz.f143 (ksO f226)=some f226:=by kernel_rfl
def X9:aI Tryz.prog Tryz.f79 (ksO f228)=some f228:=by kernel_rfl
def Ya:aI Tryz.prog Tryz.f167 (ksO f231)=some f231:=by kernel_rfl
def aa5:aI Tryz.prog Tryz.f139 (ksO f241)=some f241:=by kernel_rfl
def Yb:aI Tryz.prog Tryz.f135 (ksO f254)=some f254:=by kernel_rfl
def aa6:aI Tryz.prog Tryz.f138 (ksO f255)=some f255:=by kernel_rfl
def aa7:aI Tryz.prog Tryz.f140 (ksO f256)=some f256:=by kernel_rfl
def Yc:aI Tryz.prog Tryz.f141 (ksO f257)=some f257:=by kernel_rfl
def aba:aI Tryz.prog Tryz.f142 (ksO f260)=some f260:=by kernel_rfl
def Yd:aI Tryz.prog Tryz.f153 (ksO f261)=some f261:=by kernel_rfl
def Ye:aI Tryz.prog Tryz.f154 (ksO f262)=some f262:=by kernel_rfl
def Yf:aI Tryz.prog Tryz.f155 (ksO f263)=some f263:=by kernel_rfl
def Yg:aI Tryz.prog Tryz.f127 (ksO f264)=some f264:=by kernel_rfl
def Yh:aI Tryz.prog Tryz.f128 (ksO f265)=some f265:=by kernel_rfl
def Yi:aI Tryz.prog Tryz.f129 (ksO f266)=some f266:=by kernel_rfl
def abc:aI Tryz.prog Tryz.f165 (ksO f291)=some f291:=by kernel_rfl
def abd:aI Tryz.prog Tryz.f156 (ksO f307)=some f307:=by kernel_rfl
def abe:aI Tryz.prog Tryz.f166 (ksO f315)=some f315:=by kernel_rfl
def Yj:aI Tryz.prog Tryz.f173 (ksO f317)=some f317:=by kernel_rfl
def Yk:aI Tryz.prog Tryz.f174 (ksO f318)=some f318:=by kernel_rfl
def Yl:aI Tryz.prog Tryz.f175 (ksO f319)=some f319:=by kernel_rfl
def Ym:aI Tryz.prog Tryz.f176 (ksO f320)=some f320:=by kernel_rfl
def Yn:aI Tryz.prog Tryz.f177 (ksO f321)=some f321:=by kernel_rfl
def Yo:aI Tryz.prog Tryz.f178 (ksO f322)=some f322:=by kernel_rfl
def all:tree.all (Entry Tryz.prog):=by
 unfold tree;exact(Tr.aa (Tr.aa (Tr.aa (Tr.aa (Tr.aa (Tr.aa (Tr.aa zq0 (.of Tryz.func5 c21) zq0) (.of Tryz.func6 c39) (Tr.aa zq0 (.of Tryz.func13 c37) zq0)) (.of Tryz.func14 c85) (Tr.aa (Tr.aa zq0 (.of Tryz.func15 c86) zq0) (.of Tryz.func16 c36) (Tr.aa zq0 (.of Tryz.func17 c33) zq0))) (.of Tryz.func18 c87) (Tr.aa (Tr.aa (Tr.aa zq0 (.of Tryz.func19 c22) zq0) (.of Tryz.func20 c88) (Tr.aa zq0 (.of Tryz.func21 c27) zq0)) (.of Tryz.func22 c29) (Tr.aa (Tr.aa zq0 (.of Tryz.func23 c75) zq0) (.of Tryz.func24 c24) zq0))) (.of Tryz.func25 c96) (Tr.aa (Tr.aa (Tr.aa (Tr.aa zq0 (.of Tryz.func26 XG) zq0) (.of Tryz.func31 XJ) (Tr.aa zq0 (.of Tryz.func33 XK) zq0)) (.of Tryz.func51 c44) (Tr.aa (Tr.aa zq0 (.of Tryz.func52 aaj) zq0) abv zq0)) (.of Tryz.func54 XC) (Tr.aa (Tr.aa (Tr.aa zq0 (.of Tryz.func55 XD) zq0) (.of Tryz.func56 aak) (Tr.aa zq0 (.of Tryz.func57 c38) zq0)) (.of Tryz.func58 c89) (Tr.aa (Tr.aa zq0 (.of Tryz.func59 c90) zq0) (.of Tryz.func60 c34) zq0)))) (.of Tryz.func61 c91) (Tr.aa (Tr.aa (Tr.aa (Tr.aa (Tr.aa zq0 (.of Tryz.func62 c92) zq0) (.of Tryz.func63 c97) (Tr.aa zq0 (.of Tryz.func64 c98) zq0)) (.of Tryz.func65 c99) (Tr.aa (Tr.aa zq0 (.of Tryz.func66 Z6) zq0) (.of Tryz.func67 Z7) zq0)) (.of Tryz.func68 Xy) (Tr.aa (Tr.aa (Tr.aa zq0 (.of Tryz.func69 Z8) zq0) (.of Tryz.func70 Xz) (Tr.aa zq0 (.of Tryz.func71 Z9) zq0)) (.of Tryz.func72 XH) (Tr.aa (Tr.aa zq0 (.of Tryz.func73 XZ) zq0) (.of Tryz.func79 X9) zq0))) (.of Tryz.func87 c40) (Tr.aa (Tr.aa (Tr.aa (Tr.aa zq0 (.of Tryz.func88 aan) zq0) (.of Tryz.func89 aam) (Tr.aa zq0 (.of Tryz.func90 aao) zq0)) (.of Tryz.func91 aap) (Tr.aa (Tr.aa zq0 (.of Tryz.func92 aaq) zq0) (.of Tryz.func93 XO) zq0)) (.of Tryz.func94 XB) (Tr.aa (Tr.aa (Tr.aa zq0 (.of Tryz.func95 X5) zq0) (.of Tryz.func96 X6) (Tr.aa zq0 (.of Tryz.func97 XE) zq0)) (.of Tryz.func98 XF) (Tr.aa (Tr.aa zq0 (.of Tryz.func99 XA) zq0) (.of Tryz.func100 XP) zq0))))) (.of Tryz.func101 c72) (Tr.aa (Tr.aa (Tr.aa (Tr.aa (Tr.aa (Tr.aa zq0 (.of Tryz.func102 aaG) zq0) (.of Tryz.func103 aaH) (Tr.aa zq0 (.of Tryz.func104 aaI) zq0)) (.of Tryz.func105 XS) (Tr.aa (Tr.aa zq0 (.of Tryz.func106 XT) zq0) (.of Tryz.func107 XU) (Tr.aa zq0 (.of Tryz.func108 XV) zq0))) (.of Tryz.func109 XX) (Tr.aa (Tr.aa (Tr.aa zq0 (.of Tryz.func110 XY) zq0) (.of Tryz.func111 aaM) (Tr.aa zq0 (.of Tryz.func112 aaN) zq0)) (.of Tryz.func113 aaO) (Tr.aa (Tr.aa zq0 (.of Tryz.func114 aaP) zq0) (.of Tryz.func115 aaQ) zq0))) (.of Tryz.func116 XI) (Tr.aa (Tr.aa (Tr.aa (Tr.aa zq0 (.of Tryz.func117 X0) zq0) (.of Tryz.func118 c62) (Tr.aa zq0 (.of Tryz.func123 aal) zq0)) (.of Tryz.func124 aaV) (Tr.aa (Tr.aa zq0 (.of Tryz.func125 aaU) zq0) (.of Tryz.func126 aaW) zq0)) (.of Tryz.func127 Yg) (Tr.aa (Tr.aa (Tr.aa zq0 (.of Tryz.func128 Yh) zq0) (.of Tryz.func129 Yi) (Tr.aa zq0 (.of Tryz.func130 X7) zq0)) (.of Tryz.func131 X1) (Tr.aa (Tr.aa zq0 (.of Tryz.func132 X2) zq0) (.of Tryz.func133 X3) zq0)))) (.of Tryz.func134 X4) (Tr.aa (Tr.aa (Tr.aa (Tr.aa (Tr.aa zq0 (.of Tryz.func135 Yb) zq0) (.of Tryz.func136 XN) (Tr.aa zq0 (.of Tryz.func137 aaD) zq0)) (.of Tryz.func138 aa6) (Tr.aa (Tr.aa zq0 (.of Tryz.func139 aa5) zq0) (.of Tryz.func140 aa7) zq0)) (.of Tryz.func141 Yc) (Tr.aa (Tr.aa (Tr.aa zq0 (.of Tryz.func142 aba) zq0) (.of Tryz.func143 X8) (Tr.aa zq0 (.of Tryz.func144 XL) zq0)) (.of Tryz.func145 XM) (Tr.aa (Tr.aa zq0 (.of Tryz.func150 aaS) zq0) (.of Tryz.func151 aaT) zq0))) (.of Tryz.func152 c47) (Tr.aa (Tr.aa (Tr.aa (Tr.aa zq0 (.of Tryz.func153 Yd) zq0) (.of Tryz.func154 Ye) (Tr.aa zq0 (.of Tryz.func155 Yf) zq0)) (.of Tryz.func156 abd) (Tr.aa (Tr.aa zq0 (.of Tryz.func165 abc) zq0) (.of Tryz.func166 abe) zq0)) (.of Tryz.func167 Ya) (Tr.aa (Tr.aa (Tr.aa zq0 (.of Tryz.func173 Yj) zq0) (.of Tryz.func174 Yk) (Tr.aa zq0 (.of Tryz.func175 Yl) zq0)) (.of Tryz.func176 Ym) (Tr.aa (Tr.aa zq0 (.of Tryz.func177 Yn) zq0) (.of Tryz.func178 Yo) zq0))))))
def sound:eZ Tryz.prog T:=tN (by kernel_rfl) all
end Go.A.Pk
