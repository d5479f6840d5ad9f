/- The table is the program. -/
import Derived.Test.YtjancmjkjgpfpaaGreatDoorVV
import Derived.Test.YtjancmjkjgpfpaaGreatDoorVD
import Derived.Test.YtjancmjkjgpfpaaGreatDoorProg
import Derived.KernelRfl
import Derived.Test.YtjancmjkjgpfpaaGreatDoorVG
set_option linter.all false
set_option maxRecDepth 100000
open Go Go.A Go.Proofs
namespace Go.A.Pk
def Nd:Tr:=(.node (.node .nil 8 f35 .nil) 26 f121 .nil)
def TB:Nat->Option an:=Nd.get
theorem b35:aW Tryz.prog Tryz.f8 (ksO f35)=some f35:=by kernel_rfl
theorem VT:aW Tryz.prog Tryz.f26 (ksO f121)=some f121:=by kernel_rfl
abbrev zq0:=@Tr.all_nil
theorem VO:Nd.all (Entry Tryz.prog):=by
 unfold Nd;exact(Tr.af (Tr.af zq0 (.of Tryz.func8 b35) zq0) (.of Tryz.func26 VT) zq0)
theorem ML:ef Tryz.prog TB:=qk (by kernel_rfl) VO
theorem mY:Tryz.prog.globals.size<=1000:=of_decide_eq_true (by kernel_rfl)
theorem WZ:Entry Tryz.prog 8 (.kT pIn):= .kT (Mb ML (n:=1000) Tryz.func8 (of_decide_eq_true (by kernel_rfl)) (by kernel_rfl) mY (by kernel_rfl) (O8 ML.aF (by kernel_rfl) (by kernel_rfl)))
theorem c29:aW Tryz.prog Tryz.f12 (ksO f29)=some f29:=by kernel_rfl
theorem c33:aW Tryz.prog Tryz.f14 (ksO f33)=some f33:=by kernel_rfl
theorem c34:aW Tryz.prog Tryz.f41 (ksO f34)=some f34:=by kernel_rfl
theorem c39:aW Tryz.prog Tryz.f5 (ksO f39)=some f39:=by kernel_rfl
theorem c62:aW Tryz.prog Tryz.f64 (ksO f62)=some f62:=by kernel_rfl
theorem c72:aW Tryz.prog Tryz.f10 (ksO f72)=some f72:=by kernel_rfl
theorem c89:aW Tryz.prog Tryz.f39 (ksO f89)=some f89:=by kernel_rfl
theorem c90:aW Tryz.prog Tryz.f40 (ksO f90)=some f90:=by kernel_rfl
theorem c91:aW Tryz.prog Tryz.f43 (ksO f91)=some f91:=by kernel_rfl
theorem c92:aW Tryz.prog Tryz.f65 (ksO f92)=some f92:=by kernel_rfl
theorem c96:aW Tryz.prog Tryz.f15 (ksO f96)=some f96:=by kernel_rfl
theorem VZ:aW Tryz.prog Tryz.f33 (ksO f104)=some f104:=by kernel_rfl
theorem V0:aW Tryz.prog Tryz.f34 (ksO f105)=some f105:=by kernel_rfl
theorem TI:aW Tryz.prog Tryz.f35 (ksO f106)=some f106:=by kernel_rfl
theorem V1:aW Tryz.prog Tryz.f36 (ksO f107)=some f107:=by kernel_rfl
theorem TJ:aW Tryz.prog Tryz.f37 (ksO f108)=some f108:=by kernel_rfl
theorem V2:aW Tryz.prog Tryz.f38 (ksO f109)=some f109:=by kernel_rfl
theorem TK:aW Tryz.prog Tryz.f28 (ksO f120)=some f120:=by kernel_rfl
theorem V3:aW Tryz.prog Tryz.f26 (ksO f121)=some f121:=by kernel_rfl
theorem V4:aW Tryz.prog Tryz.f24 (ksO f123)=some f123:=by kernel_rfl
theorem TL:aW Tryz.prog Tryz.f25 (ksO f124)=some f124:=by kernel_rfl
theorem TM:aW Tryz.prog Tryz.f87 (ksO f126)=some f126:=by kernel_rfl
theorem TN:aW Tryz.prog Tryz.f88 (ksO f127)=some f127:=by kernel_rfl
theorem TO:aW Tryz.prog Tryz.f16 (ksO f128)=some f128:=by kernel_rfl
theorem TQ:aW Tryz.prog Tryz.f42 (ksO f141)=some f141:=by kernel_rfl
theorem TR:aW Tryz.prog Tryz.f50 (ksO f143)=some f143:=by kernel_rfl
theorem TS:aW Tryz.prog Tryz.f18 (ksO f147)=some f147:=by kernel_rfl
theorem TT:aW Tryz.prog Tryz.f20 (ksO f149)=some f149:=by kernel_rfl
theorem TU:aW Tryz.prog Tryz.f80 (ksO f155)=some f155:=by kernel_rfl
theorem TV:aW Tryz.prog Tryz.f81 (ksO f156)=some f156:=by kernel_rfl
theorem TW:aW Tryz.prog Tryz.f29 (ksO f167)=some f167:=by kernel_rfl
theorem Wf:aW Tryz.prog Tryz.f30 (ksO f168)=some f168:=by kernel_rfl
theorem TX:aW Tryz.prog Tryz.f69 (ksO f174)=some f174:=by kernel_rfl
theorem TY:aW Tryz.prog Tryz.f54 (ksO f188)=some f188:=by kernel_rfl
theorem Wg:aW Tryz.prog Tryz.f57 (ksO f189)=some f189:=by kernel_rfl
theorem Wi:aW Tryz.prog Tryz.f82 (ksO f190)=some f190:=by kernel_rfl
theorem Wk:aW Tryz.prog Tryz.f59 (ksO f191)=some f191:=by kernel_rfl
theorem TZ:aW Tryz.prog Tryz.f58 (ksO f192)=some f192:=by kernel_rfl
theorem T1:aW Tryz.prog Tryz.f83 (ksO f193)=some f193:=by kernel_rfl
theorem T2:aW Tryz.prog Tryz.f84 (ksO f194)=some f194:=by kernel_rfl
theorem T3:aW Tryz.prog Tryz.f85 (ksO f195)=some f195:=by kernel_rfl
theorem T4:aW Tryz.prog Tryz.f63 (ksO f196)=some f196:=by kernel_rfl
theorem T5:aW Tryz.prog Tryz.f86 (ksO f197)=some f197:=by kernel_rfl
theorem T6:aW Tryz.prog Tryz.f44 (ksO f201)=some f201:=by kernel_rfl
theorem Wl:aW Tryz.prog Tryz.f61 (ksO f205)=some f205:=by kernel_rfl
theorem Wm:aW Tryz.prog Tryz.f62 (ksO f206)=some f206:=by kernel_rfl
theorem T7:aW Tryz.prog Tryz.f51 (ksO f207)=some f207:=by kernel_rfl
theorem T8:aW Tryz.prog Tryz.f52 (ksO f209)=some f209:=by kernel_rfl
theorem T9:aW Tryz.prog Tryz.f53 (ksO f210)=some f210:=by kernel_rfl
theorem Ua:aW Tryz.prog Tryz.f55 (ksO f211)=some f211:=by kernel_rfl
theorem Ub:aW Tryz.prog Tryz.f56 (ksO f212)=some f212:=by kernel_rfl
theorem Wn:aW Tryz.prog Tryz.f47 (ksO f213)=some f213:=by kernel_rfl
theorem Uc:aW Tryz.prog Tryz.f48 (ksO f214)=some f214:=by kernel_rfl
theorem Ud:aW Tryz.prog Tryz.f107 (ksO f215)=some f215:=by kernel_rfl
theorem Ue:aW Tryz.prog Tryz.f70 (ksO f226)=some f226:=by kernel_rfl
theorem Uf:aW Tryz.prog Tryz.f45 (ksO f228)=some f228:=by kernel_rfl
theorem Ug:aW Tryz.prog Tryz.f106 (ksO f231)=some f231:=by kernel_rfl
theorem Wq:aW Tryz.prog Tryz.f76 (ksO f241)=some f241:=by kernel_rfl
theorem Uh:aW Tryz.prog Tryz.f71 (ksO f254)=some f254:=by kernel_rfl
theorem Wt:aW Tryz.prog Tryz.f75 (ksO f255)=some f255:=by kernel_rfl
theorem Wu:aW Tryz.prog Tryz.f77 (ksO f256)=some f256:=by kernel_rfl
theorem Ui:aW Tryz.prog Tryz.f79 (ksO f257)=some f257:=by kernel_rfl
theorem Wv:aW Tryz.prog Tryz.f78 (ksO f260)=some f260:=by kernel_rfl
theorem Uj:aW Tryz.prog Tryz.f72 (ksO f261)=some f261:=by kernel_rfl
theorem Uk:aW Tryz.prog Tryz.f73 (ksO f262)=some f262:=by kernel_rfl
theorem Ul:aW Tryz.prog Tryz.f74 (ksO f263)=some f263:=by kernel_rfl
theorem Ww:aW Tryz.prog Tryz.f66 (ksO f264)=some f264:=by kernel_rfl
theorem Um:aW Tryz.prog Tryz.f67 (ksO f265)=some f265:=by kernel_rfl
theorem Un:aW Tryz.prog Tryz.f68 (ksO f266)=some f266:=by kernel_rfl
theorem Wx:aW Tryz.prog Tryz.f104 (ksO f291)=some f291:=by kernel_rfl
theorem Wy:aW Tryz.prog Tryz.f95 (ksO f307)=some f307:=by kernel_rfl
theorem Wz:aW Tryz.prog Tryz.f105 (ksO f315)=some f315:=by kernel_rfl
theorem Uo:aW Tryz.prog Tryz.f89 (ksO f317)=some f317:=by kernel_rfl
theorem Up:aW Tryz.prog Tryz.f90 (ksO f318)=some f318:=by kernel_rfl
theorem Uq:aW Tryz.prog Tryz.f91 (ksO f319)=some f319:=by kernel_rfl
theorem Ur:aW Tryz.prog Tryz.f92 (ksO f320)=some f320:=by kernel_rfl
theorem Us:aW Tryz.prog Tryz.f93 (ksO f321)=some f321:=by kernel_rfl
theorem Ut:aW Tryz.prog Tryz.f94 (ksO f322)=some f322:=by kernel_rfl
theorem c70:aW Tryz.prog Tryz.f4 (ksO f70)=some f70:=by kernel_rfl
theorem We:aW Tryz.prog Tryz.f13 (ksO f166)=some f166:=by kernel_rfl
theorem VQ:Ng.all (Entry Tryz.prog):=by
 unfold Ng;exact(Tr.af (Tr.af (Tr.af (Tr.af (Tr.af (Tr.af (Tr.af zq0 (.of Tryz.func4 c70) zq0) (.of Tryz.func5 c39) zq0) WZ (Tr.af zq0 (.of Tryz.func10 c72) zq0)) (.of Tryz.func13 We) (Tr.af (Tr.af zq0 (.of Tryz.func14 c33) zq0) (.of Tryz.func15 c96) (Tr.af zq0 (.of Tryz.func16 TO) zq0))) (.of Tryz.func18 TS) (Tr.af (Tr.af (Tr.af (Tr.af zq0 (.of Tryz.func20 TT) zq0) (.of Tryz.func25 TL) zq0) (.of Tryz.func28 TK) (Tr.af zq0 (.of Tryz.func29 TW) zq0)) (.of Tryz.func30 Wf) (Tr.af (Tr.af zq0 (.of Tryz.func35 TI) zq0) (.of Tryz.func37 TJ) (Tr.af zq0 (.of Tryz.func39 c89) zq0)))) (.of Tryz.func40 c90) (Tr.af (Tr.af (Tr.af (Tr.af (Tr.af zq0 (.of Tryz.func41 c34) zq0) (.of Tryz.func42 TQ) zq0) (.of Tryz.func43 c91) (Tr.af zq0 (.of Tryz.func44 T6) zq0)) (.of Tryz.func45 Uf) (Tr.af (Tr.af zq0 (.of Tryz.func48 Uc) zq0) (.of Tryz.func50 TR) (Tr.af zq0 (.of Tryz.func51 T7) zq0))) (.of Tryz.func52 T8) (Tr.af (Tr.af (Tr.af zq0 (.of Tryz.func53 T9) zq0) (.of Tryz.func54 TY) (Tr.af zq0 (.of Tryz.func55 Ua) zq0)) (.of Tryz.func56 Ub) (Tr.af (Tr.af zq0 (.of Tryz.func57 Wg) zq0) (.of Tryz.func58 TZ) (Tr.af zq0 (.of Tryz.func59 Wk) zq0))))) (.of Tryz.func63 T4) (Tr.af (Tr.af (Tr.af (Tr.af (Tr.af (Tr.af zq0 (.of Tryz.func64 c62) zq0) (.of Tryz.func65 c92) zq0) (.of Tryz.func67 Um) (Tr.af zq0 (.of Tryz.func68 Un) zq0)) (.of Tryz.func69 TX) (Tr.af (Tr.af zq0 (.of Tryz.func70 Ue) zq0) (.of Tryz.func71 Uh) (Tr.af zq0 (.of Tryz.func72 Uj) zq0))) (.of Tryz.func73 Uk) (Tr.af (Tr.af (Tr.af (Tr.af zq0 (.of Tryz.func74 Ul) zq0) (.of Tryz.func75 Wt) zq0) (.of Tryz.func76 Wq) (Tr.af zq0 (.of Tryz.func77 Wu) zq0)) (.of Tryz.func79 Ui) (Tr.af (Tr.af zq0 (.of Tryz.func80 TU) zq0) (.of Tryz.func81 TV) (Tr.af zq0 (.of Tryz.func82 Wi) zq0)))) (.of Tryz.func83 T1) (Tr.af (Tr.af (Tr.af (Tr.af (Tr.af zq0 (.of Tryz.func84 T2) zq0) (.of Tryz.func85 T3) zq0) (.of Tryz.func86 T5) (Tr.af zq0 (.of Tryz.func87 TM) zq0)) (.of Tryz.func88 TN) (Tr.af (Tr.af zq0 (.of Tryz.func89 Uo) zq0) (.of Tryz.func90 Up) (Tr.af zq0 (.of Tryz.func91 Uq) zq0))) (.of Tryz.func92 Ur) (Tr.af (Tr.af (Tr.af zq0 (.of Tryz.func93 Us) zq0) (.of Tryz.func94 Ut) (Tr.af zq0 (.of Tryz.func95 Wy) zq0)) (.of Tryz.func104 Wx) (Tr.af (Tr.af zq0 (.of Tryz.func105 Wz) zq0) (.of Tryz.func106 Ug) (Tr.af zq0 (.of Tryz.func107 Ud) zq0))))))
theorem SS:ef Tryz.prog TP:=qk (by kernel_rfl) VQ
end Go.A.Pk
