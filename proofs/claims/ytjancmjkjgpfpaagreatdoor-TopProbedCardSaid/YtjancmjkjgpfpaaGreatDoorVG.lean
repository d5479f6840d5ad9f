/- The table of functions. -/
import Derived.Test.YtjancmjkjgpfpaaGreatDoorVF
import Derived.Test.YtjancmjkjgpfpaaGreatDoorVA
import Derived.Test.YtjancmjkjgpfpaaGreatDoorVV
set_option linter.all false
namespace Go.A.Pk
def Ng:Tr:=(.node (.node (.node (.node (.node (.node (.node .nil 4 f70 .nil) 5 f39 .nil) 8 (.kT pIn) (.node .nil 10 f72 .nil)) 13 f166 (.node (.node .nil 14 f33 .nil) 15 f96 (.node .nil 16 f128 .nil))) 18 f147 (.node (.node (.node (.node .nil 20 f149 .nil) 25 f124 .nil) 28 f120 (.node .nil 29 f167 .nil)) 30 f168 (.node (.node .nil 35 f106 .nil) 37 f108 (.node .nil 39 f89 .nil)))) 40 f90 (.node (.node (.node (.node (.node .nil 41 f34 .nil) 42 f141 .nil) 43 f91 (.node .nil 44 f201 .nil)) 45 f228 (.node (.node .nil 48 f214 .nil) 50 f143 (.node .nil 51 f207 .nil))) 52 f209 (.node (.node (.node .nil 53 f210 .nil) 54 f188 (.node .nil 55 f211 .nil)) 56 f212 (.node (.node .nil 57 f189 .nil) 58 f192 (.node .nil 59 f191 .nil))))) 63 f196 (.node (.node (.node (.node (.node (.node .nil 64 f62 .nil) 65 f92 .nil) 67 f265 (.node .nil 68 f266 .nil)) 69 f174 (.node (.node .nil 70 f226 .nil) 71 f254 (.node .nil 72 f261 .nil))) 73 f262 (.node (.node (.node (.node .nil 74 f263 .nil) 75 f255 .nil) 76 f241 (.node .nil 77 f256 .nil)) 79 f257 (.node (.node .nil 80 f155 .nil) 81 f156 (.node .nil 82 f190 .nil)))) 83 f193 (.node (.node (.node (.node (.node .nil 84 f194 .nil) 85 f195 .nil) 86 f197 (.node .nil 87 f126 .nil)) 88 f127 (.node (.node .nil 89 f317 .nil) 90 f318 (.node .nil 91 f319 .nil))) 92 f320 (.node (.node (.node .nil 93 f321 .nil) 94 f322 (.node .nil 95 f307 .nil)) 104 f291 (.node (.node .nil 105 f315 .nil) 106 f231 (.node .nil 107 f215 .nil))))))
def TP:Nat->Option an:=Ng.get
end Go.A.Pk
