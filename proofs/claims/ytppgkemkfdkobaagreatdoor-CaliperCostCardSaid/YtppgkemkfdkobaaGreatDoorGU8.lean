/- Walks of functions, plain laws, the table. -/
import Derived.Test.YtppgkemkfdkobaaGreatDoorGU7
import Derived.Test.YtppgkemkfdkobaaGreatDoorGU3
import Derived.KernelRfl
import Derived.Test.YtppgkemkfdkobaaGreatDoorGD
set_option linter.all false
set_option maxRecDepth 100000
namespace Go.A.Pk
open Go Go.Proofs
def c12:aI Tryz.prog Tryz.f3 (ksO f12)=some f12:=by kernel_rfl
def c25:aI Tryz.prog Tryz.f4 (ksO f25)=some f25:=by kernel_rfl
def c28:aI Tryz.prog Tryz.f11 (ksO f28)=some f28:=by kernel_rfl
def c30:aI Tryz.prog Tryz.f10 (ksO f30)=some f30:=by kernel_rfl
def c31:aI Tryz.prog Tryz.f74 (ksO f31)=some f31:=by kernel_rfl
def c35:aI Tryz.prog Tryz.f53 (ksO f35)=some f35:=by kernel_rfl
def c52:aI Tryz.prog Tryz.f85 (ksO f52)=some f52:=by kernel_rfl
def c53:aI Tryz.prog Tryz.f76 (ksO f53)=some f53:=by kernel_rfl
def c57:aI Tryz.prog Tryz.f7 (ksO f57)=some f57:=by kernel_rfl
def c58:aI Tryz.prog Tryz.f8 (ksO f58)=some f58:=by kernel_rfl
def c59:aI Tryz.prog Tryz.f9 (ksO f59)=some f59:=by kernel_rfl
def c84:aI Tryz.prog Tryz.f12 (ksO f84)=some f84:=by kernel_rfl
def c93:aI Tryz.prog Tryz.f75 (ksO f93)=some f93:=by kernel_rfl
def c94:aI Tryz.prog Tryz.f28 (ksO f94)=some f94:=by kernel_rfl
def c95:aI Tryz.prog Tryz.f82 (ksO f95)=some f95:=by kernel_rfl
def Z2:aI Tryz.prog Tryz.f27 (ksO f100)=some f100:=by kernel_rfl
def Z3:aI Tryz.prog Tryz.f48 (ksO f101)=some f101:=by kernel_rfl
def Z4:aI Tryz.prog Tryz.f49 (ksO f102)=some f102:=by kernel_rfl
def Z5:aI Tryz.prog Tryz.f39 (ksO f103)=some f103:=by kernel_rfl
def aaa:aI Tryz.prog Tryz.f40 (ksO f110)=some f110:=by kernel_rfl
def aab:aI Tryz.prog Tryz.f41 (ksO f111)=some f111:=by kernel_rfl
def aac:aI Tryz.prog Tryz.f42 (ksO f112)=some f112:=by kernel_rfl
def aad:aI Tryz.prog Tryz.f43 (ksO f113)=some f113:=by kernel_rfl
def aae:aI Tryz.prog Tryz.f44 (ksO f114)=some f114:=by kernel_rfl
def aaf:aI Tryz.prog Tryz.f45 (ksO f115)=some f115:=by kernel_rfl
def aag:aI Tryz.prog Tryz.f46 (ksO f116)=some f116:=by kernel_rfl
def aah:aI Tryz.prog Tryz.f47 (ksO f117)=some f117:=by kernel_rfl
def aai:aI Tryz.prog Tryz.f83 (ksO f118)=some f118:=by kernel_rfl
def aar:aI Tryz.prog Tryz.f168 (ksO f137)=some f137:=by kernel_rfl
def aas:aI Tryz.prog Tryz.f147 (ksO f138)=some f138:=by kernel_rfl
def aat:aI Tryz.prog Tryz.f148 (ksO f139)=some f139:=by kernel_rfl
def aau:aI Tryz.prog Tryz.f119 (ksO f140)=some f140:=by kernel_rfl
def aav:aI Tryz.prog Tryz.f29 (ksO f145)=some f145:=by kernel_rfl
def aaw:aI Tryz.prog Tryz.f30 (ksO f146)=some f146:=by kernel_rfl
def aax:aI Tryz.prog Tryz.f32 (ksO f148)=some f148:=by kernel_rfl
def aay:aI Tryz.prog Tryz.f34 (ksO f150)=some f150:=by kernel_rfl
def aaz:aI Tryz.prog Tryz.f35 (ksO f151)=some f151:=by kernel_rfl
def aaA:aI Tryz.prog Tryz.f36 (ksO f152)=some f152:=by kernel_rfl
def aaB:aI Tryz.prog Tryz.f37 (ksO f153)=some f153:=by kernel_rfl
def aaC:aI Tryz.prog Tryz.f38 (ksO f154)=some f154:=by kernel_rfl
def aaE:aI Tryz.prog Tryz.f50 (ksO f170)=some f170:=by kernel_rfl
def aaF:aI Tryz.prog Tryz.f86 (ksO f171)=some f171:=by kernel_rfl
def aaJ:aI Tryz.prog Tryz.f77 (ksO f198)=some f198:=by kernel_rfl
def aaK:aI Tryz.prog Tryz.f120 (ksO f199)=some f199:=by kernel_rfl
def aaL:aI Tryz.prog Tryz.f121 (ksO f200)=some f200:=by kernel_rfl
def aaR:aI Tryz.prog Tryz.f84 (ksO f208)=some f208:=by kernel_rfl
def aaX:aI Tryz.prog Tryz.f172 (ksO f221)=some f221:=by kernel_rfl
def aaY:aI Tryz.prog Tryz.f184 (ksO f222)=some f222:=by kernel_rfl
def aaZ:aI Tryz.prog Tryz.f170 (ksO f223)=some f223:=by kernel_rfl
def aa0:aI Tryz.prog Tryz.f171 (ksO f224)=some f224:=by kernel_rfl
def aa1:aI Tryz.prog Tryz.f122 (ksO f225)=some f225:=by kernel_rfl
def aa2:aI Tryz.prog Tryz.f78 (ksO f227)=some f227:=by kernel_rfl
def aa3:aI Tryz.prog Tryz.f80 (ksO f229)=some f229:=by kernel_rfl
def aa4:aI Tryz.prog Tryz.f81 (ksO f230)=some f230:=by kernel_rfl
def aa8:aI Tryz.prog Tryz.f146 (ksO f258)=some f258:=by kernel_rfl
def aa9:aI Tryz.prog Tryz.f149 (ksO f259)=some f259:=by kernel_rfl
def abb:aI Tryz.prog Tryz.f186 (ksO f267)=some f267:=by kernel_rfl
def abf:aI Tryz.prog Tryz.f169 (ksO f316)=some f316:=by kernel_rfl
noncomputable def Ic:Tr:=(.node (.node (.node (.node (.node (.node (.node .nil 3 f12 .nil) 4 f25 (.node .nil 5 (.mW pSd) .nil)) 6 f39 (.node (.node .nil 7 f57 .nil) 8 f58 (.node .nil 9 f59 .nil))) 10 f30 (.node (.node (.node .nil 11 f28 .nil) 12 f84 (.node .nil 19 f22 .nil)) 25 f96 (.node (.node .nil 26 f128 .nil) 27 f100 (.node .nil 28 f94 .nil)))) 29 f145 (.node (.node (.node (.node .nil 30 f146 .nil) 31 f147 (.node .nil 32 f148 .nil)) 33 f149 (.node (.node .nil 34 f150 .nil) 35 f151 (.node .nil 36 f152 .nil))) 37 f153 (.node (.node (.node .nil 38 f154 .nil) 39 f103 (.node .nil 40 f110 .nil)) 41 f111 (.node (.node .nil 42 f112 .nil) 43 f113 .nil)))) 44 f114 (.node (.node (.node (.node (.node .nil 45 f115 .nil) 46 f116 (.node .nil 47 f117 .nil)) 48 f101 (.node (.node .nil 49 f102 .nil) 50 f170 (.node .nil 53 f35 .nil))) 54 f123 (.node (.node (.node .nil 55 f124 .nil) 58 f89 (.node .nil 59 f90 .nil)) 60 f34 (.node (.node .nil 61 f91 .nil) 62 f92 .nil))) 68 f106 (.node (.node (.node (.node .nil 70 f108 .nil) 72 f141 (.node .nil 73 f201 .nil)) 74 f31 (.node (.node .nil 75 f93 .nil) 76 f53 (.node .nil 77 f198 .nil))) 78 f227 (.node (.node (.node .nil 79 f228 .nil) 80 f229 (.node .nil 81 f230 .nil)) 82 f95 (.node (.node .nil 83 f118 .nil) 84 f208 .nil))))) 85 f52 (.node (.node (.node (.node (.node (.node .nil 86 f171 .nil) 93 f174 (.node .nil 94 f121 .nil)) 95 f213 (.node (.node .nil 96 f214 .nil) 97 f126 (.node .nil 98 f127 .nil))) 99 f120 (.node (.node (.node .nil 100 f188 .nil) 101 f72 (.node .nil 102 (.mW (sM 137 103)) .nil)) 105 f192 (.node (.node .nil 106 f193 .nil) 107 f194 .nil))) 108 f195 (.node (.node (.node (.node .nil 109 f196 .nil) 110 f197 (.node .nil 116 f143 .nil)) 117 f207 (.node (.node .nil 118 f62 .nil) 119 f140 (.node .nil 120 f199 .nil))) 121 f200 (.node (.node (.node .nil 122 f225 .nil) 127 f264 (.node .nil 128 f265 .nil)) 129 f266 (.node (.node .nil 130 f215 .nil) 131 f209 .nil)))) 132 f210 (.node (.node (.node (.node (.node .nil 133 f211 .nil) 134 f212 (.node .nil 135 f254 .nil)) 136 f167 (.node (.node .nil 141 f257 .nil) 143 f226 (.node .nil 144 f155 .nil))) 145 f156 (.node (.node (.node .nil 146 f258 .nil) 147 f138 (.node .nil 148 f139 .nil)) 149 f259 (.node (.node .nil 153 f261 .nil) 154 f262 .nil))) 155 f263 (.node (.node (.node (.node .nil 167 f231 .nil) 168 f137 (.node .nil 169 f316 .nil)) 170 f223 (.node (.node .nil 171 f224 .nil) 172 f221 (.node .nil 173 f317 .nil))) 174 f318 (.node (.node (.node .nil 175 f319 .nil) 176 f320 (.node .nil 177 f321 .nil)) 178 f322 (.node (.node .nil 184 f222 .nil) 186 f267 .nil))))))
noncomputable def T12:Nat->Option aq:=Ic.get
abbrev zq1:=@Tr.all_nil
def Xw:Ic.all (Entry Tryz.prog):=by
 unfold Ic;exact(Tr.aa (Tr.aa (Tr.aa (Tr.aa (Tr.aa (Tr.aa (Tr.aa zq1 (.of Tryz.func3 c12) zq1) (.of Tryz.func4 c25) (Tr.aa zq1 abu zq1)) (.of Tryz.func6 c39) (Tr.aa (Tr.aa zq1 (.of Tryz.func7 c57) zq1) (.of Tryz.func8 c58) (Tr.aa zq1 (.of Tryz.func9 c59) zq1))) (.of Tryz.func10 c30) (Tr.aa (Tr.aa (Tr.aa zq1 (.of Tryz.func11 c28) zq1) (.of Tryz.func12 c84) (Tr.aa zq1 (.of Tryz.func19 c22) zq1)) (.of Tryz.func25 c96) (Tr.aa (Tr.aa zq1 (.of Tryz.func26 XG) zq1) (.of Tryz.func27 Z2) (Tr.aa zq1 (.of Tryz.func28 c94) zq1)))) (.of Tryz.func29 aav) (Tr.aa (Tr.aa (Tr.aa (Tr.aa zq1 (.of Tryz.func30 aaw) zq1) (.of Tryz.func31 XJ) (Tr.aa zq1 (.of Tryz.func32 aax) zq1)) (.of Tryz.func33 XK) (Tr.aa (Tr.aa zq1 (.of Tryz.func34 aay) zq1) (.of Tryz.func35 aaz) (Tr.aa zq1 (.of Tryz.func36 aaA) zq1))) (.of Tryz.func37 aaB) (Tr.aa (Tr.aa (Tr.aa zq1 (.of Tryz.func38 aaC) zq1) (.of Tryz.func39 Z5) (Tr.aa zq1 (.of Tryz.func40 aaa) zq1)) (.of Tryz.func41 aab) (Tr.aa (Tr.aa zq1 (.of Tryz.func42 aac) zq1) (.of Tryz.func43 aad) zq1)))) (.of Tryz.func44 aae) (Tr.aa (Tr.aa (Tr.aa (Tr.aa (Tr.aa zq1 (.of Tryz.func45 aaf) zq1) (.of Tryz.func46 aag) (Tr.aa zq1 (.of Tryz.func47 aah) zq1)) (.of Tryz.func48 Z3) (Tr.aa (Tr.aa zq1 (.of Tryz.func49 Z4) zq1) (.of Tryz.func50 aaE) (Tr.aa zq1 (.of Tryz.func53 c35) zq1))) (.of Tryz.func54 XC) (Tr.aa (Tr.aa (Tr.aa zq1 (.of Tryz.func55 XD) zq1) (.of Tryz.func58 c89) (Tr.aa zq1 (.of Tryz.func59 c90) zq1)) (.of Tryz.func60 c34) (Tr.aa (Tr.aa zq1 (.of Tryz.func61 c91) zq1) (.of Tryz.func62 c92) zq1))) (.of Tryz.func68 Xy) (Tr.aa (Tr.aa (Tr.aa (Tr.aa zq1 (.of Tryz.func70 Xz) zq1) (.of Tryz.func72 XH) (Tr.aa zq1 (.of Tryz.func73 XZ) zq1)) (.of Tryz.func74 c31) (Tr.aa (Tr.aa zq1 (.of Tryz.func75 c93) zq1) (.of Tryz.func76 c53) (Tr.aa zq1 (.of Tryz.func77 aaJ) zq1))) (.of Tryz.func78 aa2) (Tr.aa (Tr.aa (Tr.aa zq1 (.of Tryz.func79 X9) zq1) (.of Tryz.func80 aa3) (Tr.aa zq1 (.of Tryz.func81 aa4) zq1)) (.of Tryz.func82 c95) (Tr.aa (Tr.aa zq1 (.of Tryz.func83 aai) zq1) (.of Tryz.func84 aaR) zq1))))) (.of Tryz.func85 c52) (Tr.aa (Tr.aa (Tr.aa (Tr.aa (Tr.aa (Tr.aa zq1 (.of Tryz.func86 aaF) zq1) (.of Tryz.func93 XO) (Tr.aa zq1 (.of Tryz.func94 XB) zq1)) (.of Tryz.func95 X5) (Tr.aa (Tr.aa zq1 (.of Tryz.func96 X6) zq1) (.of Tryz.func97 XE) (Tr.aa zq1 (.of Tryz.func98 XF) zq1))) (.of Tryz.func99 XA) (Tr.aa (Tr.aa (Tr.aa zq1 (.of Tryz.func100 XP) zq1) (.of Tryz.func101 c72) (Tr.aa zq1 Y1 zq1)) (.of Tryz.func105 XS) (Tr.aa (Tr.aa zq1 (.of Tryz.func106 XT) zq1) (.of Tryz.func107 XU) zq1))) (.of Tryz.func108 XV) (Tr.aa (Tr.aa (Tr.aa (Tr.aa zq1 (.of Tryz.func109 XX) zq1) (.of Tryz.func110 XY) (Tr.aa zq1 (.of Tryz.func116 XI) zq1)) (.of Tryz.func117 X0) (Tr.aa (Tr.aa zq1 (.of Tryz.func118 c62) zq1) (.of Tryz.func119 aau) (Tr.aa zq1 (.of Tryz.func120 aaK) zq1))) (.of Tryz.func121 aaL) (Tr.aa (Tr.aa (Tr.aa zq1 (.of Tryz.func122 aa1) zq1) (.of Tryz.func127 Yg) (Tr.aa zq1 (.of Tryz.func128 Yh) zq1)) (.of Tryz.func129 Yi) (Tr.aa (Tr.aa zq1 (.of Tryz.func130 X7) zq1) (.of Tryz.func131 X1) zq1)))) (.of Tryz.func132 X2) (Tr.aa (Tr.aa (Tr.aa (Tr.aa (Tr.aa zq1 (.of Tryz.func133 X3) zq1) (.of Tryz.func134 X4) (Tr.aa zq1 (.of Tryz.func135 Yb) zq1)) (.of Tryz.func136 XN) (Tr.aa (Tr.aa zq1 (.of Tryz.func141 Yc) zq1) (.of Tryz.func143 X8) (Tr.aa zq1 (.of Tryz.func144 XL) zq1))) (.of Tryz.func145 XM) (Tr.aa (Tr.aa (Tr.aa zq1 (.of Tryz.func146 aa8) zq1) (.of Tryz.func147 aas) (Tr.aa zq1 (.of Tryz.func148 aat) zq1)) (.of Tryz.func149 aa9) (Tr.aa (Tr.aa zq1 (.of Tryz.func153 Yd) zq1) (.of Tryz.func154 Ye) zq1))) (.of Tryz.func155 Yf) (Tr.aa (Tr.aa (Tr.aa (Tr.aa zq1 (.of Tryz.func167 Ya) zq1) (.of Tryz.func168 aar) (Tr.aa zq1 (.of Tryz.func169 abf) zq1)) (.of Tryz.func170 aaZ) (Tr.aa (Tr.aa zq1 (.of Tryz.func171 aa0) zq1) (.of Tryz.func172 aaX) (Tr.aa zq1 (.of Tryz.func173 Yj) zq1))) (.of Tryz.func174 Yk) (Tr.aa (Tr.aa (Tr.aa zq1 (.of Tryz.func175 Yl) zq1) (.of Tryz.func176 Ym) (Tr.aa zq1 (.of Tryz.func177 Yn) zq1)) (.of Tryz.func178 Yo) (Tr.aa (Tr.aa zq1 (.of Tryz.func184 aaY) zq1) (.of Tryz.func186 abb) zq1))))))
def bR:eZ Tryz.prog T12:=tN (by kernel_rfl) Xw
def iA0:Iq T12:=⟨bR.aK,rfl,rfl,rfl,rfl,rfl,rfl⟩
def iA1:yg T12:=⟨iA0,rfl,rfl,rfl,rfl⟩
def iA2:Is T12:=⟨iA1,rfl⟩
def iA3:Im T12:=⟨bR.aK,rfl,rfl,rfl,rfl,rfl,rfl⟩
def iA4:uL T12:=⟨bR.aK,rfl,rfl,rfl,rfl,rfl,rfl,rfl⟩
def iA5:Ek T12:=⟨iA3,iA4,rfl,rfl,rfl,rfl,rfl,rfl⟩
def iA6:Ua T12:=⟨iA3,rfl⟩
def iA7:Uh T12:=⟨bR.aK,rfl⟩
def iA8:Ub T12:=⟨bR.aK,rfl,rfl⟩
def iA9:Ue T12:=⟨iA5,iA6,iA7,iA8,rfl,rfl,rfl⟩
def iB0:Ud T12:=⟨iA9,rfl,rfl⟩
def iB1:LI T12:=⟨iB0,rfl,rfl,rfl,rfl⟩
def iB2:El T12:=⟨iB1,rfl,rfl,rfl,rfl,rfl,rfl,rfl,rfl,rfl,rfl⟩
def iB3:LG T12:=⟨iB2,rfl,rfl,rfl,rfl⟩
def iB4:Il T12:=⟨bR.aK,rfl,rfl,rfl,rfl,rfl,rfl⟩
def iB5:T9 T12:=⟨iB3,iB4,rfl⟩
def iB6:Ui T12:=⟨iB2,rfl⟩
def iB7:Ip T12:=⟨iA2,iB5,iB6,rfl⟩
def iB8:Ug T12:=⟨iB7,rfl⟩
def iB9:Uf T12:=⟨bR.aK,rfl,rfl⟩
def iC0:Io T12:=⟨iB9,rfl⟩
def iC1:Uc T12:=⟨bR.aK,iC0,rfl,rfl⟩
def iC2:LN T12:=⟨iA1,rfl,rfl⟩
def iC3:Ly T12:=⟨iB7,iC2,rfl,rfl⟩
def iC4:AZ T12:=⟨iA2,rfl,rfl,rfl,rfl,rfl⟩
def iC5:Lz T12:=⟨iC4,rfl⟩
def iC6:Uo T12:=⟨iC5,iB7,rfl⟩
def iC7:Em T12:=⟨bR.aK,rfl,rfl,rfl,rfl,rfl,rfl,rfl,rfl⟩
def iC8:Ch T12:=⟨iC0,rfl,rfl,rfl,rfl,rfl,rfl,rfl⟩
def iC9:Uk T12:=⟨iC8,rfl,rfl,rfl,rfl,rfl⟩
def iD0:Uj T12:=⟨bR.aK,rfl,rfl⟩
def iD1:LA T12:=⟨iC9,iD0,rfl,rfl⟩
def iD2:Um T12:=⟨iD1,rfl⟩
def iD3:Ul T12:=⟨iD2,rfl⟩
def iD4:Un T12:=⟨iC9,rfl,rfl⟩
def iD5:LF T12:=⟨iD3,iD4,rfl,rfl⟩
def iD6:LL T12:=⟨iC7,iD5,rfl,rfl⟩
def iD7:LM T12:=⟨iD6,rfl,rfl⟩
def iD8:Ir T12:=⟨bR.aK,rfl,rfl⟩
def iD9:En T12:=⟨iD7,iD8,rfl,rfl⟩
def iE0:LJ T12:=⟨iD9,rfl⟩
def iE1:LH T12:=⟨iD8,rfl,rfl⟩
def iE2:LK T12:=⟨iD9,iE1,rfl⟩
def iE3:Gx T12:=⟨iD9,rfl,rfl⟩
def YA:LC T12:=⟨iB8,iC1,iC3,iC6,iE0,iE2,iE3,rfl,rfl⟩
open Go.RowKit in
def GO{W:World}(V:A4 W){w:List Nat×List Nat}(K:IsW w){d f:Value}{l:List Pb}(h1:Up W d l){os:List (List Nat)}(q:Xr W f os):Calls Tryz.prog 3 #[wV w,d,f] W λe z=>e= .returned (.bool true)/\Below W.heap.size W z:=by
 obtain⟨h,μ,r,t,i,H,s,⟨A,L,u,k,E⟩,⟨B,M,v,p,F⟩,_⟩:=Vm V.gl h1.1 q.1 q.1;have g:∀{sz n:Nat} {a:Option Addr} {c:Nat} {cs:List Value},aH h sz (.slice a n c) n cs->c<=UNK-1->n<4611686018427387904:=λJ D=>by
  rcases aH.inv J with⟨_,_,h0,_⟩|⟨b,o,cap,x,_,D⟩
  ·rw[h0];decide
  ·cases x;unfold UNK at*;omega
 obtain⟨Q,O,⟨m,G⟩,rfl,rfl⟩:=YN YA i (s 0 _ b7) ω K ⟨k,h1.2⟩ (g k (by unfold UNK at*;omega)) ⟨p,q.2⟩ (g p (by unfold UNK at*;omega));have j:=G m (bl _);have C:LR μ [wV w, .slice A l.length L, .slice B os.length M] [wV w,d,f]:= .cons (VR.dA (Om w)).1 (.cons u (.cons v .nil));refine(og bR j i.log (by kernel_rfl) r C).mono λe z I=> ?_;obtain⟨μ',y,P,N⟩:=I;cases e with
 |returned v'=>
  have x:VR μ' (.bool true) v':=y;cases x;exact⟨rfl,St.below N t⟩
 |panicked _=>exact y.elim
 |outgrown=>exact y.elim
end Go.A.Pk
