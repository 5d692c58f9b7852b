/- The whole of the law SignalSaved, which returns true for every input. Saved between any two steps, and loaded into another chip with the same memory, it goes on just so; steps in parts are steps at one go. No condition. -/
import Derived.Test.YtcckecfjjccffaaSignalSaved0
namespace Go.Proofs.Ytcckecfjjccffaa.SignalSaved
open Go.Sx Go.ChangeShapes Go.WideShapes Go.ChangeAt Go.RowKit
set_option linter.unusedVariables false
set_option linter.unusedSimpArgs false
set_option maxRecDepth 100000
def eHy:Hyp:=⟨[(.v 0,(0,9223372036854775807)),(.v 1,(0,9223372036854775807)),(.v 2,(0,255)),(.v 3,(0,9223372036854775807))],[(0,(0,4294967295)),(1,(0,65535)),(2,(-9223372036854775808,9223372036854775807)),(3,(-9223372036854775808,9223372036854775807)),(4,(-9223372036854775808,9223372036854775807)),(5,(0,255))],[(10,(0,4294967295)),(40,(0,65535)),(41,(0,63)),(70,(0,2047)),(71,(0,65535)),(72,(0,65535)),(73,(0,65535)),(74,(0,65535)),(75,(0,255)),(76,(0,1023)),(77,(0,65535)),(78,(0,65535)),(79,(0,65535)),(80,(0,65535)),(81,(0,65535)),(82,(0,65535)),(83,(0,63)),(84,(0,63)),(85,(0,3))],[(20,(0,255)),(50,(0,255)),(90,(0,2047)),(91,(0,65535))],[],[(0,⟨.v 0,[(some .u32,.av 0)],[]⟩),(1,⟨.v 1,[(some .u16,.av 1)],[]⟩),(2,⟨.v 3,[(some .i64,.av 3),(some .i64,.av 4),(some .u8,.av 5)],[]⟩)]⟩
def eLs:List SV:=[.agg [.one (.xslc 0 (.lit 0) (.lit 0) (.v 0)),.one (.xslc 1 (.lit 0) (.lit 0) (.v 1)),.one (.int .u8 (.v 2))],.agg (oG 2 0 3 Pc1),.s (.xslc 2 (.lit 0) (.lit 0) (.v 3))]
def e0:E:=.sel (.av 2) (.lit 1)
def e1:E:=.app 20 (.cons (.v 0) (.cons (.av 0) (.cons (.v 1) (.cons (.av 1) (.cons (.v 2) .nil)))))
def e2:E:=.sel (.av 2) (.lit 0)
def e3:E:=.le (.lit 3001) e2
def e4:E:=.le e2 (.lit (-1))
def e5:E:=.or e3 e4
def e6:E:=.ite e5 (.lit 1) e2
def e7:E:=.mod e6 (.lit 3001)
def e8:E:=.sel e1 (.lit 0)
def e9:E:=.upd e1 (.lit 0) e8
def e10:E:=.app 70 (.cons e7 (.cons (.lit 0) (.cons (.lit 0) (.cons (.lit 0) (.cons (.lit 0) (.cons (.lit 0) (.cons (.lit 0) (.cons (.lit 0) (.cons (.lit 0) (.cons (.lit 0) (.cons (.lit 0) (.cons (.lit 0) (.cons (.lit 0) (.cons (.lit 0) (.cons (.lit 0) (.cons (.lit 0) (.cons (.lit 0) (.cons e9 (.cons (.tab []) (.cons (.tab []) .nil))))))))))))))))))))
def e11:E:=.app 71 (.cons e7 (.cons (.lit 0) (.cons (.lit 0) (.cons (.lit 0) (.cons (.lit 0) (.cons (.lit 0) (.cons (.lit 0) (.cons (.lit 0) (.cons (.lit 0) (.cons (.lit 0) (.cons (.lit 0) (.cons (.lit 0) (.cons (.lit 0) (.cons (.lit 0) (.cons (.lit 0) (.cons (.lit 0) (.cons (.lit 0) (.cons e9 (.cons (.tab []) (.cons (.tab []) .nil))))))))))))))))))))
def e12:E:=.app 72 (.cons e7 (.cons (.lit 0) (.cons (.lit 0) (.cons (.lit 0) (.cons (.lit 0) (.cons (.lit 0) (.cons (.lit 0) (.cons (.lit 0) (.cons (.lit 0) (.cons (.lit 0) (.cons (.lit 0) (.cons (.lit 0) (.cons (.lit 0) (.cons (.lit 0) (.cons (.lit 0) (.cons (.lit 0) (.cons (.lit 0) (.cons e9 (.cons (.tab []) (.cons (.tab []) .nil))))))))))))))))))))
def e13:E:=.app 73 (.cons e7 (.cons (.lit 0) (.cons (.lit 0) (.cons (.lit 0) (.cons (.lit 0) (.cons (.lit 0) (.cons (.lit 0) (.cons (.lit 0) (.cons (.lit 0) (.cons (.lit 0) (.cons (.lit 0) (.cons (.lit 0) (.cons (.lit 0) (.cons (.lit 0) (.cons (.lit 0) (.cons (.lit 0) (.cons (.lit 0) (.cons e9 (.cons (.tab []) (.cons (.tab []) .nil))))))))))))))))))))
def e14:E:=.app 74 (.cons e7 (.cons (.lit 0) (.cons (.lit 0) (.cons (.lit 0) (.cons (.lit 0) (.cons (.lit 0) (.cons (.lit 0) (.cons (.lit 0) (.cons (.lit 0) (.cons (.lit 0) (.cons (.lit 0) (.cons (.lit 0) (.cons (.lit 0) (.cons (.lit 0) (.cons (.lit 0) (.cons (.lit 0) (.cons (.lit 0) (.cons e9 (.cons (.tab []) (.cons (.tab []) .nil))))))))))))))))))))
def e15:E:=.app 75 (.cons e7 (.cons (.lit 0) (.cons (.lit 0) (.cons (.lit 0) (.cons (.lit 0) (.cons (.lit 0) (.cons (.lit 0) (.cons (.lit 0) (.cons (.lit 0) (.cons (.lit 0) (.cons (.lit 0) (.cons (.lit 0) (.cons (.lit 0) (.cons (.lit 0) (.cons (.lit 0) (.cons (.lit 0) (.cons (.lit 0) (.cons e9 (.cons (.tab []) (.cons (.tab []) .nil))))))))))))))))))))
def e16:E:=.app 76 (.cons e7 (.cons (.lit 0) (.cons (.lit 0) (.cons (.lit 0) (.cons (.lit 0) (.cons (.lit 0) (.cons (.lit 0) (.cons (.lit 0) (.cons (.lit 0) (.cons (.lit 0) (.cons (.lit 0) (.cons (.lit 0) (.cons (.lit 0) (.cons (.lit 0) (.cons (.lit 0) (.cons (.lit 0) (.cons (.lit 0) (.cons e9 (.cons (.tab []) (.cons (.tab []) .nil))))))))))))))))))))
def e17:E:=.app 77 (.cons e7 (.cons (.lit 0) (.cons (.lit 0) (.cons (.lit 0) (.cons (.lit 0) (.cons (.lit 0) (.cons (.lit 0) (.cons (.lit 0) (.cons (.lit 0) (.cons (.lit 0) (.cons (.lit 0) (.cons (.lit 0) (.cons (.lit 0) (.cons (.lit 0) (.cons (.lit 0) (.cons (.lit 0) (.cons (.lit 0) (.cons e9 (.cons (.tab []) (.cons (.tab []) .nil))))))))))))))))))))
def e18:E:=.app 78 (.cons e7 (.cons (.lit 0) (.cons (.lit 0) (.cons (.lit 0) (.cons (.lit 0) (.cons (.lit 0) (.cons (.lit 0) (.cons (.lit 0) (.cons (.lit 0) (.cons (.lit 0) (.cons (.lit 0) (.cons (.lit 0) (.cons (.lit 0) (.cons (.lit 0) (.cons (.lit 0) (.cons (.lit 0) (.cons (.lit 0) (.cons e9 (.cons (.tab []) (.cons (.tab []) .nil))))))))))))))))))))
def e19:E:=.app 79 (.cons e7 (.cons (.lit 0) (.cons (.lit 0) (.cons (.lit 0) (.cons (.lit 0) (.cons (.lit 0) (.cons (.lit 0) (.cons (.lit 0) (.cons (.lit 0) (.cons (.lit 0) (.cons (.lit 0) (.cons (.lit 0) (.cons (.lit 0) (.cons (.lit 0) (.cons (.lit 0) (.cons (.lit 0) (.cons (.lit 0) (.cons e9 (.cons (.tab []) (.cons (.tab []) .nil))))))))))))))))))))
def e20:E:=.app 80 (.cons e7 (.cons (.lit 0) (.cons (.lit 0) (.cons (.lit 0) (.cons (.lit 0) (.cons (.lit 0) (.cons (.lit 0) (.cons (.lit 0) (.cons (.lit 0) (.cons (.lit 0) (.cons (.lit 0) (.cons (.lit 0) (.cons (.lit 0) (.cons (.lit 0) (.cons (.lit 0) (.cons (.lit 0) (.cons (.lit 0) (.cons e9 (.cons (.tab []) (.cons (.tab []) .nil))))))))))))))))))))
def e21:E:=.app 81 (.cons e7 (.cons (.lit 0) (.cons (.lit 0) (.cons (.lit 0) (.cons (.lit 0) (.cons (.lit 0) (.cons (.lit 0) (.cons (.lit 0) (.cons (.lit 0) (.cons (.lit 0) (.cons (.lit 0) (.cons (.lit 0) (.cons (.lit 0) (.cons (.lit 0) (.cons (.lit 0) (.cons (.lit 0) (.cons (.lit 0) (.cons e9 (.cons (.tab []) (.cons (.tab []) .nil))))))))))))))))))))
def e22:E:=.app 82 (.cons e7 (.cons (.lit 0) (.cons (.lit 0) (.cons (.lit 0) (.cons (.lit 0) (.cons (.lit 0) (.cons (.lit 0) (.cons (.lit 0) (.cons (.lit 0) (.cons (.lit 0) (.cons (.lit 0) (.cons (.lit 0) (.cons (.lit 0) (.cons (.lit 0) (.cons (.lit 0) (.cons (.lit 0) (.cons (.lit 0) (.cons e9 (.cons (.tab []) (.cons (.tab []) .nil))))))))))))))))))))
def e23:E:=.app 83 (.cons e7 (.cons (.lit 0) (.cons (.lit 0) (.cons (.lit 0) (.cons (.lit 0) (.cons (.lit 0) (.cons (.lit 0) (.cons (.lit 0) (.cons (.lit 0) (.cons (.lit 0) (.cons (.lit 0) (.cons (.lit 0) (.cons (.lit 0) (.cons (.lit 0) (.cons (.lit 0) (.cons (.lit 0) (.cons (.lit 0) (.cons e9 (.cons (.tab []) (.cons (.tab []) .nil))))))))))))))))))))
def e24:E:=.app 84 (.cons e7 (.cons (.lit 0) (.cons (.lit 0) (.cons (.lit 0) (.cons (.lit 0) (.cons (.lit 0) (.cons (.lit 0) (.cons (.lit 0) (.cons (.lit 0) (.cons (.lit 0) (.cons (.lit 0) (.cons (.lit 0) (.cons (.lit 0) (.cons (.lit 0) (.cons (.lit 0) (.cons (.lit 0) (.cons (.lit 0) (.cons e9 (.cons (.tab []) (.cons (.tab []) .nil))))))))))))))))))))
def e25:E:=.app 85 (.cons e7 (.cons (.lit 0) (.cons (.lit 0) (.cons (.lit 0) (.cons (.lit 0) (.cons (.lit 0) (.cons (.lit 0) (.cons (.lit 0) (.cons (.lit 0) (.cons (.lit 0) (.cons (.lit 0) (.cons (.lit 0) (.cons (.lit 0) (.cons (.lit 0) (.cons (.lit 0) (.cons (.lit 0) (.cons (.lit 0) (.cons e9 (.cons (.tab []) (.cons (.tab []) .nil))))))))))))))))))))
def e26:E:=.app 90 (.cons e7 (.cons (.lit 0) (.cons (.lit 0) (.cons (.lit 0) (.cons (.lit 0) (.cons (.lit 0) (.cons (.lit 0) (.cons (.lit 0) (.cons (.lit 0) (.cons (.lit 0) (.cons (.lit 0) (.cons (.lit 0) (.cons (.lit 0) (.cons (.lit 0) (.cons (.lit 0) (.cons (.lit 0) (.cons (.lit 0) (.cons e9 (.cons (.tab []) (.cons (.tab []) .nil))))))))))))))))))))
def e27:E:=.app 91 (.cons e7 (.cons (.lit 0) (.cons (.lit 0) (.cons (.lit 0) (.cons (.lit 0) (.cons (.lit 0) (.cons (.lit 0) (.cons (.lit 0) (.cons (.lit 0) (.cons (.lit 0) (.cons (.lit 0) (.cons (.lit 0) (.cons (.lit 0) (.cons (.lit 0) (.cons (.lit 0) (.cons (.lit 0) (.cons (.lit 0) (.cons e9 (.cons (.tab []) (.cons (.tab []) .nil))))))))))))))))))))
def e28:E:=.upd (.tab []) (.lit 0) (.lit 76)
def e29:E:=.upd e28 (.lit 1) (.lit 65)
def e30:E:=.upd e29 (.lit 2) (.lit 78)
def e31:E:=.upd e30 (.lit 3) (.lit 84)
def e32:E:=.upd e31 (.lit 4) (.lit 1)
def e33:E:=.upd e32 (.lit 5) (.lit 42)
def e34:E:=.upd e33 (.lit 6) (.lit 2)
def e35:E:=.upd e34 (.lit 7) (.lit 0)
def e36:E:=.upd e35 (.lit 8) (.lit 0)
def e37:E:=.upd (.tab []) (.lit 0) (.lit 28)
def e38:E:=.upd e37 (.lit 1) (.lit 0)
def e39:E:=.upd e38 (.lit 2) (.lit 0)
def e40:E:=.upd e39 (.lit 3) (.lit 0)
def e41:E:=.upd e40 (.lit 4) (.lit 0)
def e42:E:=.mod e10 (.lit 256)
def e43:E:=.upd e41 (.lit 5) e42
def e44:E:=.div e10 (.lit 256)
def e45:E:=.upd e43 (.lit 6) e44
def e46:E:=.mod e11 (.lit 256)
def e47:E:=.upd e45 (.lit 7) e46
def e48:E:=.div e11 (.lit 256)
def e49:E:=.upd e47 (.lit 8) e48
def e50:E:=.mod e12 (.lit 256)
def e51:E:=.upd e49 (.lit 9) e50
def e52:E:=.div e12 (.lit 256)
def e53:E:=.upd e51 (.lit 10) e52
def e54:E:=.mod e13 (.lit 256)
def e55:E:=.upd e53 (.lit 11) e54
def e56:E:=.div e13 (.lit 256)
def e57:E:=.upd e55 (.lit 12) e56
def e58:E:=.mod e14 (.lit 256)
def e59:E:=.upd e57 (.lit 13) e58
def e60:E:=.div e14 (.lit 256)
def e61:E:=.upd e59 (.lit 14) e60
def e62:E:=.upd e61 (.lit 15) e15
def e63:E:=.upd e62 (.lit 16) (.lit 0)
def e64:E:=.mod e16 (.lit 256)
def e65:E:=.upd e63 (.lit 17) e64
def e66:E:=.div e16 (.lit 256)
def e67:E:=.upd e65 (.lit 18) e66
def e68:E:=.mod e17 (.lit 256)
def e69:E:=.upd e67 (.lit 19) e68
def e70:E:=.div e17 (.lit 256)
def e71:E:=.upd e69 (.lit 20) e70
def e72:E:=.mod e18 (.lit 256)
def e73:E:=.upd e71 (.lit 21) e72
def e74:E:=.div e18 (.lit 256)
def e75:E:=.upd e73 (.lit 22) e74
def e76:E:=.mod e21 (.lit 256)
def e77:E:=.upd e75 (.lit 23) e76
def e78:E:=.div e21 (.lit 256)
def e79:E:=.upd e77 (.lit 24) e78
def e80:E:=.mod e22 (.lit 256)
def e81:E:=.upd e79 (.lit 25) e80
def e82:E:=.div e22 (.lit 256)
def e83:E:=.upd e81 (.lit 26) e82
def e84:E:=.upd e83 (.lit 27) e23
def e85:E:=.upd e84 (.lit 28) e24
def e86:E:=.upd e85 (.lit 29) e25
def e87:E:=.sel e26 (.lit 0)
def e88:E:=.mod e87 (.lit 256)
def e89:E:=.upd e86 (.lit 30) e88
def e90:E:=.div e87 (.lit 256)
def e91:E:=.upd e89 (.lit 31) e90
def e92:E:=.sel e26 (.lit 1)
def e93:E:=.mod e92 (.lit 256)
def e94:E:=.upd e91 (.lit 32) e93
def e95:E:=.div e92 (.lit 256)
def e96:E:=.upd e94 (.lit 33) e95
def e97:E:=.sel e26 (.lit 2)
def e98:E:=.mod e97 (.lit 256)
def e99:E:=.upd e96 (.lit 34) e98
def e100:E:=.div e97 (.lit 256)
def e101:E:=.upd e99 (.lit 35) e100
def e102:E:=.sel e26 (.lit 3)
def e103:E:=.mod e102 (.lit 256)
def e104:E:=.upd e101 (.lit 36) e103
def e105:E:=.div e102 (.lit 256)
def e106:E:=.upd e104 (.lit 37) e105
def e107:E:=.blt (.tab []) (.lit 0) (.lit 38) e106 (.lit 0)
def e108:E:=.upd (.tab []) (.lit 0) (.lit 0)
def e109:E:=.upd e108 (.lit 1) (.lit 2)
def e110:E:=.upd e109 (.lit 2) (.lit 0)
def bIv:E:=.upd e110 (.lit 3) (.lit 0)
def bOt:E:=.sel e27 (.lit 0)
def iN:E:=.upd e27 (.lit 0) bOt
def e114:E:=.app 50 (.cons iN .nil)
def e115:E:=.blt bIv (.lit 4) (.lit 512) e114 (.lit 0)
def e116:E:=.blt e107 (.lit 38) (.lit 516) e115 (.lit 0)
def e117:E:=.upd e116 (.lit 1) (.lit 37)
def e118:E:=.upd e117 (.lit 2) (.lit 2)
def e119:E:=.upd e118 (.lit 3) (.lit 0)
def e120:E:=.upd e119 (.lit 4) (.lit 0)
def bIw:E:=.app 10 (.cons (.lit 554) (.cons e120 .nil))
def e122:E:=.mod bIw (.lit 256)
def e123:E:=.upd e36 (.lit 9) e122
def e124:E:=.div bIw (.lit 256)
def e125:E:=.mod e124 (.lit 256)
def e126:E:=.upd e123 (.lit 10) e125
def e127:E:=.div bIw (.lit 65536)
def e128:E:=.mod e127 (.lit 256)
def e129:E:=.upd e126 (.lit 11) e128
def e130:E:=.div bIw (.lit 16777216)
def e131:E:=.upd e129 (.lit 12) e130
def e132:E:=.blt e131 (.lit 13) (.lit 554) e120 (.lit 0)
def e133:E:=.le (.lit 3001) e0
def e134:E:=.le e0 (.lit (-1))
def bDF:E:=.or e133 e134
def aIh:E:=.ite bDF (.lit 1) e0
def kM:E:=.mod aIh (.lit 3001)
def lC:E:=.add e10 (.lit 0)
def lD:E:=.add e11 (.lit 0)
def lE:E:=.add e12 (.lit 0)
def lF:E:=.add e13 (.lit 0)
def lG:E:=.add e14 (.lit 0)
def lH:E:=.add e15 (.lit 0)
def lI:E:=.add e16 (.lit 0)
def lJ:E:=.add e17 (.lit 0)
def lK:E:=.add e18 (.lit 0)
def lL:E:=.add e19 (.lit 0)
def lM:E:=.add e20 (.lit 0)
def lN:E:=.add e21 (.lit 0)
def lO:E:=.add e22 (.lit 0)
def lP:E:=.add e23 (.lit 0)
def lQ:E:=.add e24 (.lit 0)
def lR:E:=.add e25 (.lit 0)
def lS:E:=.upd e26 (.lit 0) e87
def aSM:E:=.app 70 (.cons kM (.cons lC (.cons lD (.cons lE (.cons lF (.cons lG (.cons lH (.cons lI (.cons lJ (.cons lK (.cons lL (.cons lM (.cons lN (.cons lO (.cons lP (.cons lQ (.cons lR (.cons e9 (.cons lS (.cons iN .nil))))))))))))))))))))
def aSN:E:=.app 71 (.cons kM (.cons lC (.cons lD (.cons lE (.cons lF (.cons lG (.cons lH (.cons lI (.cons lJ (.cons lK (.cons lL (.cons lM (.cons lN (.cons lO (.cons lP (.cons lQ (.cons lR (.cons e9 (.cons lS (.cons iN .nil))))))))))))))))))))
def aSO:E:=.app 72 (.cons kM (.cons lC (.cons lD (.cons lE (.cons lF (.cons lG (.cons lH (.cons lI (.cons lJ (.cons lK (.cons lL (.cons lM (.cons lN (.cons lO (.cons lP (.cons lQ (.cons lR (.cons e9 (.cons lS (.cons iN .nil))))))))))))))))))))
def aSP:E:=.app 73 (.cons kM (.cons lC (.cons lD (.cons lE (.cons lF (.cons lG (.cons lH (.cons lI (.cons lJ (.cons lK (.cons lL (.cons lM (.cons lN (.cons lO (.cons lP (.cons lQ (.cons lR (.cons e9 (.cons lS (.cons iN .nil))))))))))))))))))))
def aSQ:E:=.app 74 (.cons kM (.cons lC (.cons lD (.cons lE (.cons lF (.cons lG (.cons lH (.cons lI (.cons lJ (.cons lK (.cons lL (.cons lM (.cons lN (.cons lO (.cons lP (.cons lQ (.cons lR (.cons e9 (.cons lS (.cons iN .nil))))))))))))))))))))
def aUK:E:=.app 75 (.cons kM (.cons lC (.cons lD (.cons lE (.cons lF (.cons lG (.cons lH (.cons lI (.cons lJ (.cons lK (.cons lL (.cons lM (.cons lN (.cons lO (.cons lP (.cons lQ (.cons lR (.cons e9 (.cons lS (.cons iN .nil))))))))))))))))))))
def aSR:E:=.app 76 (.cons kM (.cons lC (.cons lD (.cons lE (.cons lF (.cons lG (.cons lH (.cons lI (.cons lJ (.cons lK (.cons lL (.cons lM (.cons lN (.cons lO (.cons lP (.cons lQ (.cons lR (.cons e9 (.cons lS (.cons iN .nil))))))))))))))))))))
def aSS:E:=.app 77 (.cons kM (.cons lC (.cons lD (.cons lE (.cons lF (.cons lG (.cons lH (.cons lI (.cons lJ (.cons lK (.cons lL (.cons lM (.cons lN (.cons lO (.cons lP (.cons lQ (.cons lR (.cons e9 (.cons lS (.cons iN .nil))))))))))))))))))))
def aST:E:=.app 78 (.cons kM (.cons lC (.cons lD (.cons lE (.cons lF (.cons lG (.cons lH (.cons lI (.cons lJ (.cons lK (.cons lL (.cons lM (.cons lN (.cons lO (.cons lP (.cons lQ (.cons lR (.cons e9 (.cons lS (.cons iN .nil))))))))))))))))))))
def bBk:E:=.app 79 (.cons kM (.cons lC (.cons lD (.cons lE (.cons lF (.cons lG (.cons lH (.cons lI (.cons lJ (.cons lK (.cons lL (.cons lM (.cons lN (.cons lO (.cons lP (.cons lQ (.cons lR (.cons e9 (.cons lS (.cons iN .nil))))))))))))))))))))
def bBl:E:=.app 80 (.cons kM (.cons lC (.cons lD (.cons lE (.cons lF (.cons lG (.cons lH (.cons lI (.cons lJ (.cons lK (.cons lL (.cons lM (.cons lN (.cons lO (.cons lP (.cons lQ (.cons lR (.cons e9 (.cons lS (.cons iN .nil))))))))))))))))))))
def aSU:E:=.app 81 (.cons kM (.cons lC (.cons lD (.cons lE (.cons lF (.cons lG (.cons lH (.cons lI (.cons lJ (.cons lK (.cons lL (.cons lM (.cons lN (.cons lO (.cons lP (.cons lQ (.cons lR (.cons e9 (.cons lS (.cons iN .nil))))))))))))))))))))
def aSV:E:=.app 82 (.cons kM (.cons lC (.cons lD (.cons lE (.cons lF (.cons lG (.cons lH (.cons lI (.cons lJ (.cons lK (.cons lL (.cons lM (.cons lN (.cons lO (.cons lP (.cons lQ (.cons lR (.cons e9 (.cons lS (.cons iN .nil))))))))))))))))))))
def aUL:E:=.app 83 (.cons kM (.cons lC (.cons lD (.cons lE (.cons lF (.cons lG (.cons lH (.cons lI (.cons lJ (.cons lK (.cons lL (.cons lM (.cons lN (.cons lO (.cons lP (.cons lQ (.cons lR (.cons e9 (.cons lS (.cons iN .nil))))))))))))))))))))
def aUM:E:=.app 84 (.cons kM (.cons lC (.cons lD (.cons lE (.cons lF (.cons lG (.cons lH (.cons lI (.cons lJ (.cons lK (.cons lL (.cons lM (.cons lN (.cons lO (.cons lP (.cons lQ (.cons lR (.cons e9 (.cons lS (.cons iN .nil))))))))))))))))))))
def bBm:E:=.app 85 (.cons kM (.cons lC (.cons lD (.cons lE (.cons lF (.cons lG (.cons lH (.cons lI (.cons lJ (.cons lK (.cons lL (.cons lM (.cons lN (.cons lO (.cons lP (.cons lQ (.cons lR (.cons e9 (.cons lS (.cons iN .nil))))))))))))))))))))
def aIi:E:=.app 90 (.cons kM (.cons lC (.cons lD (.cons lE (.cons lF (.cons lG (.cons lH (.cons lI (.cons lJ (.cons lK (.cons lL (.cons lM (.cons lN (.cons lO (.cons lP (.cons lQ (.cons lR (.cons e9 (.cons lS (.cons iN .nil))))))))))))))))))))
def aSW:E:=.app 91 (.cons kM (.cons lC (.cons lD (.cons lE (.cons lF (.cons lG (.cons lH (.cons lI (.cons lJ (.cons lK (.cons lL (.cons lM (.cons lN (.cons lO (.cons lP (.cons lQ (.cons lR (.cons e9 (.cons lS (.cons iN .nil))))))))))))))))))))
def e173:E:=.lt (.v 4) (.v 3)
def bOu:E:=.sel (.av 4) (.v 4)
def e175:E:=.le (.lit 3001) bOu
def e176:E:=.le bOu (.lit (-1))
def e177:E:=.or e175 e176
def e178:E:=.ite e177 (.lit 1) bOu
def rD:E:=.mod e178 (.lit 3001)
def e180:E:=.div (.v 17) (.lit 1024)
def e181:E:=.mod e180 (.lit 2)
def e182:E:=.eq e181 (.lit 0)
def e183:E:=.div (.v 17) (.lit 4096)
def e184:E:=.mod e183 (.lit 2)
def e185:E:=.eq e184 (.lit 0)
def e186:E:=.ite e185 (.lit 0) (.lit 8)
def e187:E:=.ite e182 e186 (.lit 0)
def e188:E:=.pow2 e187
def e189:E:=.mul e188 (.lit 255)
def e190:E:=.bits .andNot .u16 (.v 16) e189
def e191:E:=.sel (.av 5) (.v 4)
def e192:E:=.mul e191 e188
def rE:E:=.bits .or .u16 e190 e192
def e194:E:=.add (.v 17) (.lit 4096)
def e195:E:=.div (.v 17) (.lit 8192)
def e196:E:=.mod e195 (.lit 4)
def e197:E:=.mul e196 (.lit 8192)
def e198:E:=.mod (.v 17) (.lit 4096)
def e199:E:=.add e197 e198
def e200:E:=.ite e185 e194 e199
def e201:E:=.mod (.v 17) (.lit 32768)
def e202:E:=.ite e182 e200 e201
def rF:E:=.mod e202 (.lit 65536)
def bOv:E:=.app 85 (.cons rD (.cons (.v 5) (.cons (.v 6) (.cons (.v 7) (.cons (.v 8) (.cons (.v 9) (.cons (.v 10) (.cons (.v 11) (.cons (.v 12) (.cons (.v 13) (.cons (.v 14) (.cons (.v 15) (.cons rE (.cons rF (.cons (.v 18) (.cons (.v 19) (.cons (.v 20) (.cons e9 (.cons (.av 6) (.cons (.av 7) .nil))))))))))))))))))))
def bOw:E:=.app 84 (.cons rD (.cons (.v 5) (.cons (.v 6) (.cons (.v 7) (.cons (.v 8) (.cons (.v 9) (.cons (.v 10) (.cons (.v 11) (.cons (.v 12) (.cons (.v 13) (.cons (.v 14) (.cons (.v 15) (.cons rE (.cons rF (.cons (.v 18) (.cons (.v 19) (.cons (.v 20) (.cons e9 (.cons (.av 6) (.cons (.av 7) .nil))))))))))))))))))))
def bOx:E:=.app 83 (.cons rD (.cons (.v 5) (.cons (.v 6) (.cons (.v 7) (.cons (.v 8) (.cons (.v 9) (.cons (.v 10) (.cons (.v 11) (.cons (.v 12) (.cons (.v 13) (.cons (.v 14) (.cons (.v 15) (.cons rE (.cons rF (.cons (.v 18) (.cons (.v 19) (.cons (.v 20) (.cons e9 (.cons (.av 6) (.cons (.av 7) .nil))))))))))))))))))))
def bOy:E:=.app 82 (.cons rD (.cons (.v 5) (.cons (.v 6) (.cons (.v 7) (.cons (.v 8) (.cons (.v 9) (.cons (.v 10) (.cons (.v 11) (.cons (.v 12) (.cons (.v 13) (.cons (.v 14) (.cons (.v 15) (.cons rE (.cons rF (.cons (.v 18) (.cons (.v 19) (.cons (.v 20) (.cons e9 (.cons (.av 6) (.cons (.av 7) .nil))))))))))))))))))))
def bOz:E:=.app 81 (.cons rD (.cons (.v 5) (.cons (.v 6) (.cons (.v 7) (.cons (.v 8) (.cons (.v 9) (.cons (.v 10) (.cons (.v 11) (.cons (.v 12) (.cons (.v 13) (.cons (.v 14) (.cons (.v 15) (.cons rE (.cons rF (.cons (.v 18) (.cons (.v 19) (.cons (.v 20) (.cons e9 (.cons (.av 6) (.cons (.av 7) .nil))))))))))))))))))))
def bOA:E:=.app 80 (.cons rD (.cons (.v 5) (.cons (.v 6) (.cons (.v 7) (.cons (.v 8) (.cons (.v 9) (.cons (.v 10) (.cons (.v 11) (.cons (.v 12) (.cons (.v 13) (.cons (.v 14) (.cons (.v 15) (.cons rE (.cons rF (.cons (.v 18) (.cons (.v 19) (.cons (.v 20) (.cons e9 (.cons (.av 6) (.cons (.av 7) .nil))))))))))))))))))))
def bOB:E:=.app 79 (.cons rD (.cons (.v 5) (.cons (.v 6) (.cons (.v 7) (.cons (.v 8) (.cons (.v 9) (.cons (.v 10) (.cons (.v 11) (.cons (.v 12) (.cons (.v 13) (.cons (.v 14) (.cons (.v 15) (.cons rE (.cons rF (.cons (.v 18) (.cons (.v 19) (.cons (.v 20) (.cons e9 (.cons (.av 6) (.cons (.av 7) .nil))))))))))))))))))))
def bOC:E:=.app 78 (.cons rD (.cons (.v 5) (.cons (.v 6) (.cons (.v 7) (.cons (.v 8) (.cons (.v 9) (.cons (.v 10) (.cons (.v 11) (.cons (.v 12) (.cons (.v 13) (.cons (.v 14) (.cons (.v 15) (.cons rE (.cons rF (.cons (.v 18) (.cons (.v 19) (.cons (.v 20) (.cons e9 (.cons (.av 6) (.cons (.av 7) .nil))))))))))))))))))))
def bOD:E:=.app 77 (.cons rD (.cons (.v 5) (.cons (.v 6) (.cons (.v 7) (.cons (.v 8) (.cons (.v 9) (.cons (.v 10) (.cons (.v 11) (.cons (.v 12) (.cons (.v 13) (.cons (.v 14) (.cons (.v 15) (.cons rE (.cons rF (.cons (.v 18) (.cons (.v 19) (.cons (.v 20) (.cons e9 (.cons (.av 6) (.cons (.av 7) .nil))))))))))))))))))))
def bOE:E:=.app 76 (.cons rD (.cons (.v 5) (.cons (.v 6) (.cons (.v 7) (.cons (.v 8) (.cons (.v 9) (.cons (.v 10) (.cons (.v 11) (.cons (.v 12) (.cons (.v 13) (.cons (.v 14) (.cons (.v 15) (.cons rE (.cons rF (.cons (.v 18) (.cons (.v 19) (.cons (.v 20) (.cons e9 (.cons (.av 6) (.cons (.av 7) .nil))))))))))))))))))))
def bOF:E:=.app 75 (.cons rD (.cons (.v 5) (.cons (.v 6) (.cons (.v 7) (.cons (.v 8) (.cons (.v 9) (.cons (.v 10) (.cons (.v 11) (.cons (.v 12) (.cons (.v 13) (.cons (.v 14) (.cons (.v 15) (.cons rE (.cons rF (.cons (.v 18) (.cons (.v 19) (.cons (.v 20) (.cons e9 (.cons (.av 6) (.cons (.av 7) .nil))))))))))))))))))))
def bOG:E:=.app 74 (.cons rD (.cons (.v 5) (.cons (.v 6) (.cons (.v 7) (.cons (.v 8) (.cons (.v 9) (.cons (.v 10) (.cons (.v 11) (.cons (.v 12) (.cons (.v 13) (.cons (.v 14) (.cons (.v 15) (.cons rE (.cons rF (.cons (.v 18) (.cons (.v 19) (.cons (.v 20) (.cons e9 (.cons (.av 6) (.cons (.av 7) .nil))))))))))))))))))))
def bOH:E:=.app 73 (.cons rD (.cons (.v 5) (.cons (.v 6) (.cons (.v 7) (.cons (.v 8) (.cons (.v 9) (.cons (.v 10) (.cons (.v 11) (.cons (.v 12) (.cons (.v 13) (.cons (.v 14) (.cons (.v 15) (.cons rE (.cons rF (.cons (.v 18) (.cons (.v 19) (.cons (.v 20) (.cons e9 (.cons (.av 6) (.cons (.av 7) .nil))))))))))))))))))))
def bOI:E:=.app 72 (.cons rD (.cons (.v 5) (.cons (.v 6) (.cons (.v 7) (.cons (.v 8) (.cons (.v 9) (.cons (.v 10) (.cons (.v 11) (.cons (.v 12) (.cons (.v 13) (.cons (.v 14) (.cons (.v 15) (.cons rE (.cons rF (.cons (.v 18) (.cons (.v 19) (.cons (.v 20) (.cons e9 (.cons (.av 6) (.cons (.av 7) .nil))))))))))))))))))))
def bOJ:E:=.app 71 (.cons rD (.cons (.v 5) (.cons (.v 6) (.cons (.v 7) (.cons (.v 8) (.cons (.v 9) (.cons (.v 10) (.cons (.v 11) (.cons (.v 12) (.cons (.v 13) (.cons (.v 14) (.cons (.v 15) (.cons rE (.cons rF (.cons (.v 18) (.cons (.v 19) (.cons (.v 20) (.cons e9 (.cons (.av 6) (.cons (.av 7) .nil))))))))))))))))))))
def bOK:E:=.app 70 (.cons rD (.cons (.v 5) (.cons (.v 6) (.cons (.v 7) (.cons (.v 8) (.cons (.v 9) (.cons (.v 10) (.cons (.v 11) (.cons (.v 12) (.cons (.v 13) (.cons (.v 14) (.cons (.v 15) (.cons rE (.cons rF (.cons (.v 18) (.cons (.v 19) (.cons (.v 20) (.cons e9 (.cons (.av 6) (.cons (.av 7) .nil))))))))))))))))))))
def bOL:E:=.add (.v 4) (.lit 1)
def bOM:E:=.app 91 (.cons rD (.cons (.v 5) (.cons (.v 6) (.cons (.v 7) (.cons (.v 8) (.cons (.v 9) (.cons (.v 10) (.cons (.v 11) (.cons (.v 12) (.cons (.v 13) (.cons (.v 14) (.cons (.v 15) (.cons rE (.cons rF (.cons (.v 18) (.cons (.v 19) (.cons (.v 20) (.cons e9 (.cons (.av 6) (.cons (.av 7) .nil))))))))))))))))))))
def bON:E:=.app 90 (.cons rD (.cons (.v 5) (.cons (.v 6) (.cons (.v 7) (.cons (.v 8) (.cons (.v 9) (.cons (.v 10) (.cons (.v 11) (.cons (.v 12) (.cons (.v 13) (.cons (.v 14) (.cons (.v 15) (.cons rE (.cons rF (.cons (.v 18) (.cons (.v 19) (.cons (.v 20) (.cons e9 (.cons (.av 6) (.cons (.av 7) .nil))))))))))))))))))))
def e223:E:=.wrap .i16 e17
def e224:E:=.wrap .i16 e18
def e225:E:=.mul e223 e224
def e226:E:=.div e225 (.lit 32768)
def aSX:E:=.mod e226 (.lit 65536)
def e228:E:=.eq e19 aSX
def e229:E:=.not e228
def e230:E:=.mod e225 (.lit 32768)
def aSY:E:=.mul e230 (.lit 2)
def e232:E:=.eq e20 aSY
def e233:E:=.not e232
def bIx:E:=.or e229 e233
def e235:E:=.lt (.v 21) kM
def bDG:E:=.app 85 (.cons (.lit 1) (.cons (.v 22) (.cons (.v 23) (.cons (.v 24) (.cons (.v 25) (.cons (.v 26) (.cons (.v 27) (.cons (.v 28) (.cons (.v 29) (.cons (.v 30) (.cons (.v 31) (.cons (.v 32) (.cons (.v 33) (.cons (.v 34) (.cons (.v 35) (.cons (.v 36) (.cons (.v 37) (.cons e9 (.cons (.av 8) (.cons (.av 9) .nil))))))))))))))))))))
def bDH:E:=.app 84 (.cons (.lit 1) (.cons (.v 22) (.cons (.v 23) (.cons (.v 24) (.cons (.v 25) (.cons (.v 26) (.cons (.v 27) (.cons (.v 28) (.cons (.v 29) (.cons (.v 30) (.cons (.v 31) (.cons (.v 32) (.cons (.v 33) (.cons (.v 34) (.cons (.v 35) (.cons (.v 36) (.cons (.v 37) (.cons e9 (.cons (.av 8) (.cons (.av 9) .nil))))))))))))))))))))
def bDI:E:=.app 83 (.cons (.lit 1) (.cons (.v 22) (.cons (.v 23) (.cons (.v 24) (.cons (.v 25) (.cons (.v 26) (.cons (.v 27) (.cons (.v 28) (.cons (.v 29) (.cons (.v 30) (.cons (.v 31) (.cons (.v 32) (.cons (.v 33) (.cons (.v 34) (.cons (.v 35) (.cons (.v 36) (.cons (.v 37) (.cons e9 (.cons (.av 8) (.cons (.av 9) .nil))))))))))))))))))))
def bDJ:E:=.app 82 (.cons (.lit 1) (.cons (.v 22) (.cons (.v 23) (.cons (.v 24) (.cons (.v 25) (.cons (.v 26) (.cons (.v 27) (.cons (.v 28) (.cons (.v 29) (.cons (.v 30) (.cons (.v 31) (.cons (.v 32) (.cons (.v 33) (.cons (.v 34) (.cons (.v 35) (.cons (.v 36) (.cons (.v 37) (.cons e9 (.cons (.av 8) (.cons (.av 9) .nil))))))))))))))))))))
def bDK:E:=.app 81 (.cons (.lit 1) (.cons (.v 22) (.cons (.v 23) (.cons (.v 24) (.cons (.v 25) (.cons (.v 26) (.cons (.v 27) (.cons (.v 28) (.cons (.v 29) (.cons (.v 30) (.cons (.v 31) (.cons (.v 32) (.cons (.v 33) (.cons (.v 34) (.cons (.v 35) (.cons (.v 36) (.cons (.v 37) (.cons e9 (.cons (.av 8) (.cons (.av 9) .nil))))))))))))))))))))
def bDL:E:=.app 80 (.cons (.lit 1) (.cons (.v 22) (.cons (.v 23) (.cons (.v 24) (.cons (.v 25) (.cons (.v 26) (.cons (.v 27) (.cons (.v 28) (.cons (.v 29) (.cons (.v 30) (.cons (.v 31) (.cons (.v 32) (.cons (.v 33) (.cons (.v 34) (.cons (.v 35) (.cons (.v 36) (.cons (.v 37) (.cons e9 (.cons (.av 8) (.cons (.av 9) .nil))))))))))))))))))))
def bDM:E:=.app 79 (.cons (.lit 1) (.cons (.v 22) (.cons (.v 23) (.cons (.v 24) (.cons (.v 25) (.cons (.v 26) (.cons (.v 27) (.cons (.v 28) (.cons (.v 29) (.cons (.v 30) (.cons (.v 31) (.cons (.v 32) (.cons (.v 33) (.cons (.v 34) (.cons (.v 35) (.cons (.v 36) (.cons (.v 37) (.cons e9 (.cons (.av 8) (.cons (.av 9) .nil))))))))))))))))))))
def bDN:E:=.app 78 (.cons (.lit 1) (.cons (.v 22) (.cons (.v 23) (.cons (.v 24) (.cons (.v 25) (.cons (.v 26) (.cons (.v 27) (.cons (.v 28) (.cons (.v 29) (.cons (.v 30) (.cons (.v 31) (.cons (.v 32) (.cons (.v 33) (.cons (.v 34) (.cons (.v 35) (.cons (.v 36) (.cons (.v 37) (.cons e9 (.cons (.av 8) (.cons (.av 9) .nil))))))))))))))))))))
def bDO:E:=.app 77 (.cons (.lit 1) (.cons (.v 22) (.cons (.v 23) (.cons (.v 24) (.cons (.v 25) (.cons (.v 26) (.cons (.v 27) (.cons (.v 28) (.cons (.v 29) (.cons (.v 30) (.cons (.v 31) (.cons (.v 32) (.cons (.v 33) (.cons (.v 34) (.cons (.v 35) (.cons (.v 36) (.cons (.v 37) (.cons e9 (.cons (.av 8) (.cons (.av 9) .nil))))))))))))))))))))
def bDP:E:=.app 76 (.cons (.lit 1) (.cons (.v 22) (.cons (.v 23) (.cons (.v 24) (.cons (.v 25) (.cons (.v 26) (.cons (.v 27) (.cons (.v 28) (.cons (.v 29) (.cons (.v 30) (.cons (.v 31) (.cons (.v 32) (.cons (.v 33) (.cons (.v 34) (.cons (.v 35) (.cons (.v 36) (.cons (.v 37) (.cons e9 (.cons (.av 8) (.cons (.av 9) .nil))))))))))))))))))))
def bDQ:E:=.app 75 (.cons (.lit 1) (.cons (.v 22) (.cons (.v 23) (.cons (.v 24) (.cons (.v 25) (.cons (.v 26) (.cons (.v 27) (.cons (.v 28) (.cons (.v 29) (.cons (.v 30) (.cons (.v 31) (.cons (.v 32) (.cons (.v 33) (.cons (.v 34) (.cons (.v 35) (.cons (.v 36) (.cons (.v 37) (.cons e9 (.cons (.av 8) (.cons (.av 9) .nil))))))))))))))))))))
def bDR:E:=.app 74 (.cons (.lit 1) (.cons (.v 22) (.cons (.v 23) (.cons (.v 24) (.cons (.v 25) (.cons (.v 26) (.cons (.v 27) (.cons (.v 28) (.cons (.v 29) (.cons (.v 30) (.cons (.v 31) (.cons (.v 32) (.cons (.v 33) (.cons (.v 34) (.cons (.v 35) (.cons (.v 36) (.cons (.v 37) (.cons e9 (.cons (.av 8) (.cons (.av 9) .nil))))))))))))))))))))
def bDS:E:=.app 73 (.cons (.lit 1) (.cons (.v 22) (.cons (.v 23) (.cons (.v 24) (.cons (.v 25) (.cons (.v 26) (.cons (.v 27) (.cons (.v 28) (.cons (.v 29) (.cons (.v 30) (.cons (.v 31) (.cons (.v 32) (.cons (.v 33) (.cons (.v 34) (.cons (.v 35) (.cons (.v 36) (.cons (.v 37) (.cons e9 (.cons (.av 8) (.cons (.av 9) .nil))))))))))))))))))))
def bDT:E:=.app 72 (.cons (.lit 1) (.cons (.v 22) (.cons (.v 23) (.cons (.v 24) (.cons (.v 25) (.cons (.v 26) (.cons (.v 27) (.cons (.v 28) (.cons (.v 29) (.cons (.v 30) (.cons (.v 31) (.cons (.v 32) (.cons (.v 33) (.cons (.v 34) (.cons (.v 35) (.cons (.v 36) (.cons (.v 37) (.cons e9 (.cons (.av 8) (.cons (.av 9) .nil))))))))))))))))))))
def bDU:E:=.app 71 (.cons (.lit 1) (.cons (.v 22) (.cons (.v 23) (.cons (.v 24) (.cons (.v 25) (.cons (.v 26) (.cons (.v 27) (.cons (.v 28) (.cons (.v 29) (.cons (.v 30) (.cons (.v 31) (.cons (.v 32) (.cons (.v 33) (.cons (.v 34) (.cons (.v 35) (.cons (.v 36) (.cons (.v 37) (.cons e9 (.cons (.av 8) (.cons (.av 9) .nil))))))))))))))))))))
def bDV:E:=.app 70 (.cons (.lit 1) (.cons (.v 22) (.cons (.v 23) (.cons (.v 24) (.cons (.v 25) (.cons (.v 26) (.cons (.v 27) (.cons (.v 28) (.cons (.v 29) (.cons (.v 30) (.cons (.v 31) (.cons (.v 32) (.cons (.v 33) (.cons (.v 34) (.cons (.v 35) (.cons (.v 36) (.cons (.v 37) (.cons e9 (.cons (.av 8) (.cons (.av 9) .nil))))))))))))))))))))
def bOO:E:=.add (.v 21) (.lit 1)
def bDW:E:=.app 91 (.cons (.lit 1) (.cons (.v 22) (.cons (.v 23) (.cons (.v 24) (.cons (.v 25) (.cons (.v 26) (.cons (.v 27) (.cons (.v 28) (.cons (.v 29) (.cons (.v 30) (.cons (.v 31) (.cons (.v 32) (.cons (.v 33) (.cons (.v 34) (.cons (.v 35) (.cons (.v 36) (.cons (.v 37) (.cons e9 (.cons (.av 8) (.cons (.av 9) .nil))))))))))))))))))))
def bDX:E:=.app 90 (.cons (.lit 1) (.cons (.v 22) (.cons (.v 23) (.cons (.v 24) (.cons (.v 25) (.cons (.v 26) (.cons (.v 27) (.cons (.v 28) (.cons (.v 29) (.cons (.v 30) (.cons (.v 31) (.cons (.v 32) (.cons (.v 33) (.cons (.v 34) (.cons (.v 35) (.cons (.v 36) (.cons (.v 37) (.cons e9 (.cons (.av 8) (.cons (.av 9) .nil))))))))))))))))))))
def e255:E:=.eq aSM (.v 22)
def e256:E:=.eq aSN (.v 23)
def e257:E:=.and e255 e256
def e258:E:=.eq aSO (.v 24)
def e259:E:=.and e257 e258
def e260:E:=.eq aSP (.v 25)
def e261:E:=.and e259 e260
def e262:E:=.eq aSQ (.v 26)
def e263:E:=.and e261 e262
def e264:E:=.eq aUK (.v 27)
def e265:E:=.and e263 e264
def e266:E:=.eq aSR (.v 28)
def e267:E:=.and e265 e266
def e268:E:=.eq aSS (.v 29)
def e269:E:=.and e267 e268
def e270:E:=.eq aST (.v 30)
def e271:E:=.and e269 e270
def e272:E:=.eq bBk (.v 31)
def e273:E:=.and e271 e272
def e274:E:=.eq bBl (.v 32)
def e275:E:=.and e273 e274
def e276:E:=.eq aSU (.v 33)
def e277:E:=.and e275 e276
def e278:E:=.eq aSV (.v 34)
def e279:E:=.and e277 e278
def e280:E:=.eq aUL (.v 35)
def e281:E:=.and e279 e280
def e282:E:=.eq aUM (.v 36)
def bIy:E:=.and e281 e282
def e284:E:=.mod aSM (.lit 256)
def e285:E:=.upd e41 (.lit 5) e284
def e286:E:=.div aSM (.lit 256)
def e287:E:=.upd e285 (.lit 6) e286
def e288:E:=.mod aSN (.lit 256)
def e289:E:=.upd e287 (.lit 7) e288
def e290:E:=.div aSN (.lit 256)
def e291:E:=.upd e289 (.lit 8) e290
def e292:E:=.mod aSO (.lit 256)
def e293:E:=.upd e291 (.lit 9) e292
def e294:E:=.div aSO (.lit 256)
def e295:E:=.upd e293 (.lit 10) e294
def e296:E:=.mod aSP (.lit 256)
def e297:E:=.upd e295 (.lit 11) e296
def e298:E:=.div aSP (.lit 256)
def e299:E:=.upd e297 (.lit 12) e298
def e300:E:=.mod aSQ (.lit 256)
def e301:E:=.upd e299 (.lit 13) e300
def e302:E:=.div aSQ (.lit 256)
def e303:E:=.upd e301 (.lit 14) e302
def e304:E:=.upd e303 (.lit 15) aUK
def e305:E:=.upd e304 (.lit 16) (.lit 0)
def e306:E:=.mod aSR (.lit 256)
def e307:E:=.upd e305 (.lit 17) e306
def e308:E:=.div aSR (.lit 256)
def e309:E:=.upd e307 (.lit 18) e308
def e310:E:=.mod aSS (.lit 256)
def e311:E:=.upd e309 (.lit 19) e310
def e312:E:=.div aSS (.lit 256)
def e313:E:=.upd e311 (.lit 20) e312
def e314:E:=.mod aST (.lit 256)
def e315:E:=.upd e313 (.lit 21) e314
def e316:E:=.div aST (.lit 256)
def e317:E:=.upd e315 (.lit 22) e316
def e318:E:=.mod aSU (.lit 256)
def e319:E:=.upd e317 (.lit 23) e318
def e320:E:=.div aSU (.lit 256)
def e321:E:=.upd e319 (.lit 24) e320
def e322:E:=.mod aSV (.lit 256)
def e323:E:=.upd e321 (.lit 25) e322
def e324:E:=.div aSV (.lit 256)
def e325:E:=.upd e323 (.lit 26) e324
def e326:E:=.upd e325 (.lit 27) aUL
def e327:E:=.upd e326 (.lit 28) aUM
def e328:E:=.upd e327 (.lit 29) bBm
def bOP:E:=.sel aIi (.lit 0)
def e330:E:=.mod bOP (.lit 256)
def e331:E:=.upd e328 (.lit 30) e330
def e332:E:=.div bOP (.lit 256)
def e333:E:=.upd e331 (.lit 31) e332
def bOQ:E:=.sel aIi (.lit 1)
def e335:E:=.mod bOQ (.lit 256)
def e336:E:=.upd e333 (.lit 32) e335
def e337:E:=.div bOQ (.lit 256)
def e338:E:=.upd e336 (.lit 33) e337
def bOR:E:=.sel aIi (.lit 2)
def e340:E:=.mod bOR (.lit 256)
def e341:E:=.upd e338 (.lit 34) e340
def e342:E:=.div bOR (.lit 256)
def e343:E:=.upd e341 (.lit 35) e342
def bOS:E:=.sel aIi (.lit 3)
def e345:E:=.mod bOS (.lit 256)
def e346:E:=.upd e343 (.lit 36) e345
def e347:E:=.div bOS (.lit 256)
def e348:E:=.upd e346 (.lit 37) e347
def e349:E:=.blt (.tab []) (.lit 0) (.lit 38) e348 (.lit 0)
def e350:E:=.sel aSW (.lit 0)
def e351:E:=.upd aSW (.lit 0) e350
def e352:E:=.app 50 (.cons e351 .nil)
def e353:E:=.blt bIv (.lit 4) (.lit 512) e352 (.lit 0)
def e354:E:=.blt e349 (.lit 38) (.lit 516) e353 (.lit 0)
def e355:E:=.upd e354 (.lit 1) (.lit 37)
def e356:E:=.upd e355 (.lit 2) (.lit 2)
def e357:E:=.upd e356 (.lit 3) (.lit 0)
def bDY:E:=.upd e357 (.lit 4) (.lit 0)
def bBn:E:=.app 10 (.cons (.lit 554) (.cons bDY .nil))
def e360:E:=.mod bBn (.lit 256)
def e361:E:=.upd e36 (.lit 9) e360
def e362:E:=.div bBn (.lit 256)
def e363:E:=.mod e362 (.lit 256)
def e364:E:=.upd e361 (.lit 10) e363
def e365:E:=.div bBn (.lit 65536)
def e366:E:=.mod e365 (.lit 256)
def e367:E:=.upd e364 (.lit 11) e366
def e368:E:=.div bBn (.lit 16777216)
def e369:E:=.upd e367 (.lit 12) e368
def bIz:E:=.blt e369 (.lit 13) (.lit 554) bDY (.lit 0)
def e371:E:=.mod (.v 22) (.lit 256)
def e372:E:=.upd e41 (.lit 5) e371
def e373:E:=.div (.v 22) (.lit 256)
def e374:E:=.upd e372 (.lit 6) e373
def e375:E:=.mod (.v 23) (.lit 256)
def e376:E:=.upd e374 (.lit 7) e375
def e377:E:=.div (.v 23) (.lit 256)
def e378:E:=.upd e376 (.lit 8) e377
def e379:E:=.mod (.v 24) (.lit 256)
def e380:E:=.upd e378 (.lit 9) e379
def e381:E:=.div (.v 24) (.lit 256)
def e382:E:=.upd e380 (.lit 10) e381
def e383:E:=.mod (.v 25) (.lit 256)
def e384:E:=.upd e382 (.lit 11) e383
def e385:E:=.div (.v 25) (.lit 256)
def e386:E:=.upd e384 (.lit 12) e385
def e387:E:=.mod (.v 26) (.lit 256)
def e388:E:=.upd e386 (.lit 13) e387
def e389:E:=.div (.v 26) (.lit 256)
def e390:E:=.upd e388 (.lit 14) e389
def e391:E:=.upd e390 (.lit 15) (.v 27)
def e392:E:=.upd e391 (.lit 16) (.lit 0)
def e393:E:=.mod (.v 28) (.lit 256)
def e394:E:=.upd e392 (.lit 17) e393
def e395:E:=.div (.v 28) (.lit 256)
def e396:E:=.upd e394 (.lit 18) e395
def e397:E:=.mod (.v 29) (.lit 256)
def e398:E:=.upd e396 (.lit 19) e397
def e399:E:=.div (.v 29) (.lit 256)
def e400:E:=.upd e398 (.lit 20) e399
def e401:E:=.mod (.v 30) (.lit 256)
def e402:E:=.upd e400 (.lit 21) e401
def e403:E:=.div (.v 30) (.lit 256)
def e404:E:=.upd e402 (.lit 22) e403
def e405:E:=.mod (.v 33) (.lit 256)
def e406:E:=.upd e404 (.lit 23) e405
def e407:E:=.div (.v 33) (.lit 256)
def e408:E:=.upd e406 (.lit 24) e407
def e409:E:=.mod (.v 34) (.lit 256)
def e410:E:=.upd e408 (.lit 25) e409
def e411:E:=.div (.v 34) (.lit 256)
def e412:E:=.upd e410 (.lit 26) e411
def e413:E:=.upd e412 (.lit 27) (.v 35)
def e414:E:=.upd e413 (.lit 28) (.v 36)
def e415:E:=.upd e414 (.lit 29) (.v 37)
def bOT:E:=.sel (.av 8) (.lit 0)
def e417:E:=.mod bOT (.lit 256)
def e418:E:=.upd e415 (.lit 30) e417
def e419:E:=.div bOT (.lit 256)
def e420:E:=.upd e418 (.lit 31) e419
def bOU:E:=.sel (.av 8) (.lit 1)
def e422:E:=.mod bOU (.lit 256)
def e423:E:=.upd e420 (.lit 32) e422
def e424:E:=.div bOU (.lit 256)
def e425:E:=.upd e423 (.lit 33) e424
def bOV:E:=.sel (.av 8) (.lit 2)
def e427:E:=.mod bOV (.lit 256)
def e428:E:=.upd e425 (.lit 34) e427
def e429:E:=.div bOV (.lit 256)
def e430:E:=.upd e428 (.lit 35) e429
def bOW:E:=.sel (.av 8) (.lit 3)
def e432:E:=.mod bOW (.lit 256)
def e433:E:=.upd e430 (.lit 36) e432
def e434:E:=.div bOW (.lit 256)
def e435:E:=.upd e433 (.lit 37) e434
def e436:E:=.blt (.tab []) (.lit 0) (.lit 38) e435 (.lit 0)
def e437:E:=.app 50 (.cons (.av 9) .nil)
def e438:E:=.blt bIv (.lit 4) (.lit 512) e437 (.lit 0)
def e439:E:=.blt e436 (.lit 38) (.lit 516) e438 (.lit 0)
def e440:E:=.upd e439 (.lit 1) (.lit 37)
def e441:E:=.upd e440 (.lit 2) (.lit 2)
def e442:E:=.upd e441 (.lit 3) (.lit 0)
def bDZ:E:=.upd e442 (.lit 4) (.lit 0)
def bBo:E:=.app 10 (.cons (.lit 554) (.cons bDZ .nil))
def e445:E:=.mod bBo (.lit 256)
def e446:E:=.upd e36 (.lit 9) e445
def e447:E:=.div bBo (.lit 256)
def e448:E:=.mod e447 (.lit 256)
def e449:E:=.upd e446 (.lit 10) e448
def e450:E:=.div bBo (.lit 65536)
def e451:E:=.mod e450 (.lit 256)
def e452:E:=.upd e449 (.lit 11) e451
def e453:E:=.div bBo (.lit 16777216)
def e454:E:=.upd e452 (.lit 12) e453
def bIA:E:=.blt e454 (.lit 13) (.lit 554) bDZ (.lit 0)
def e456:E:=.aeq false (.lit 567) bIz bIA 0 0
noncomputable def eT0:List Item:=nZ Try.prog 7 11
noncomputable def eh0:Head:=⟨11,eT0,⟨[((.v 0),(0,9223372036854775807)),((.v 1),(0,9223372036854775807)),((.v 2),(0,255)),((.v 3),(0,9223372036854775807)),((.v 4),(0,9223372036854775807)),((.v 5),(0,2047)),((.v 6),(0,65535)),((.v 7),(0,65535)),((.v 8),(0,65535)),((.v 9),(0,65535)),((.v 10),(0,255)),((.v 11),(0,1023)),((.v 12),(0,65535)),((.v 13),(0,65535)),((.v 14),(0,65535)),((.v 15),(0,65535)),((.v 16),(0,65535)),((.v 17),(0,65535)),((.v 18),(0,63)),((.v 19),(0,63)),((.v 20),(0,3)),((.v 21),(0,3000)),((.v 22),(0,2047)),((.v 23),(0,65535)),((.v 24),(0,65535)),((.v 25),(0,65535)),((.v 26),(0,65535)),((.v 27),(0,255)),((.v 28),(0,1023)),((.v 29),(0,65535)),((.v 30),(0,65535)),((.v 31),(0,65535)),((.v 32),(0,65535)),((.v 33),(0,65535)),((.v 34),(0,65535)),((.v 35),(0,63)),((.v 36),(0,63)),((.v 37),(0,3))],[(0,(0,4294967295)),(1,(0,65535)),(2,((-9223372036854775808),9223372036854775807)),(3,((-9223372036854775808),9223372036854775807)),(4,((-9223372036854775808),9223372036854775807)),(5,(0,255)),(6,(0,2047)),(7,(0,65535)),(8,(0,2047)),(9,(0,65535))],[(10,(0,4294967295)),(40,(0,65535)),(41,(0,63)),(70,(0,2047)),(71,(0,65535)),(72,(0,65535)),(73,(0,65535)),(74,(0,65535)),(75,(0,255)),(76,(0,1023)),(77,(0,65535)),(78,(0,65535)),(79,(0,65535)),(80,(0,65535)),(81,(0,65535)),(82,(0,65535)),(83,(0,63)),(84,(0,63)),(85,(0,3))],[(20,(0,255)),(50,(0,255)),(90,(0,2047)),(91,(0,65535))],[],[(0,⟨(.v 0),[(some .u32,(.av 0))],[]⟩),(1,⟨(.v 1),[(some .u16,(.av 1))],[]⟩),(2,⟨(.v 3),[(some .i64,(.av 3)),(some .i64,(.av 4)),(some .u8,(.av 5))],[]⟩)]⟩,[⟨16,[],.s (.int .i64 (.v 4))⟩,⟨15,[],.s (.slc 4 (.lit 0) (.lit 567) (.op (.lit 0)))⟩,⟨12,[],.s (.ptr 3 (.lit 0))⟩,⟨9,[],.s (.ptr 1 (.lit 0))⟩,⟨8,[],.s (.int .i64 e0)⟩,⟨2,[],.s (.xslc 2 (.lit 0) (.lit 0) (.v 3))⟩],[⟨5,[.run .u8 (.lit 8192) e1 0],true,some 1,false⟩,⟨81,[.one (.int .u16 e10),.one (.int .u16 e11),.one (.int .u16 e12),.one (.int .u16 e13),.one (.int .u16 e14),.one (.int .u16 e15),.one (.int .u16 e16),.one (.int .u16 e17),.one (.int .u16 e18),.one (.int .u16 e19),.one (.int .u16 e20),.one (.int .u16 e21),.one (.int .u16 e22),.one (.int .u8 e23),.one (.int .u8 e24),.one (.int .u8 e25),.run .u16 (.lit 4) e26 0,.run .u16 (.lit 256) e27 0,.one (.slc 0 (.lit 0) (.lit 8192) (.op (.lit 0)))],true,none,false⟩,⟨5,[.run .u8 (.lit 8192) e1 0],true,some 1,false⟩,⟨81,[.one (.int .u16 (.v 5)),.one (.int .u16 (.v 6)),.one (.int .u16 (.v 7)),.one (.int .u16 (.v 8)),.one (.int .u16 (.v 9)),.one (.int .u16 (.v 10)),.one (.int .u16 (.v 11)),.one (.int .u16 (.v 12)),.one (.int .u16 (.v 13)),.one (.int .u16 (.v 14)),.one (.int .u16 (.v 15)),.one (.int .u16 (.v 16)),.one (.int .u16 (.v 17)),.one (.int .u8 (.v 18)),.one (.int .u8 (.v 19)),.one (.int .u8 (.v 20)),.run .u16 (.lit 4) (.av 6) 0,.run .u16 (.lit 256) (.av 7) 0,.one (.slc 2 (.lit 0) (.lit 8192) (.op (.lit 0)))],true,none,false⟩,⟨5,[.run .u8 (.lit 567) e132 0],true,some 1,false⟩]⟩
noncomputable def eT1:List Item:=nZ Try.prog 7 21
noncomputable def eh1:Head:=⟨21,eT1,⟨[((.v 0),(0,9223372036854775807)),((.v 1),(0,9223372036854775807)),((.v 2),(0,255)),((.v 3),(0,9223372036854775807)),((.v 4),(0,9223372036854775807)),((.v 5),(0,2047)),((.v 6),(0,65535)),((.v 7),(0,65535)),((.v 8),(0,65535)),((.v 9),(0,65535)),((.v 10),(0,255)),((.v 11),(0,1023)),((.v 12),(0,65535)),((.v 13),(0,65535)),((.v 14),(0,65535)),((.v 15),(0,65535)),((.v 16),(0,65535)),((.v 17),(0,65535)),((.v 18),(0,63)),((.v 19),(0,63)),((.v 20),(0,3)),((.v 21),(0,3000)),((.v 22),(0,2047)),((.v 23),(0,65535)),((.v 24),(0,65535)),((.v 25),(0,65535)),((.v 26),(0,65535)),((.v 27),(0,255)),((.v 28),(0,1023)),((.v 29),(0,65535)),((.v 30),(0,65535)),((.v 31),(0,65535)),((.v 32),(0,65535)),((.v 33),(0,65535)),((.v 34),(0,65535)),((.v 35),(0,63)),((.v 36),(0,63)),((.v 37),(0,3))],[(0,(0,4294967295)),(1,(0,65535)),(2,((-9223372036854775808),9223372036854775807)),(3,((-9223372036854775808),9223372036854775807)),(4,((-9223372036854775808),9223372036854775807)),(5,(0,255)),(6,(0,2047)),(7,(0,65535)),(8,(0,2047)),(9,(0,65535))],[(10,(0,4294967295)),(40,(0,65535)),(41,(0,63)),(70,(0,2047)),(71,(0,65535)),(72,(0,65535)),(73,(0,65535)),(74,(0,65535)),(75,(0,255)),(76,(0,1023)),(77,(0,65535)),(78,(0,65535)),(79,(0,65535)),(80,(0,65535)),(81,(0,65535)),(82,(0,65535)),(83,(0,63)),(84,(0,63)),(85,(0,3))],[(20,(0,255)),(50,(0,255)),(90,(0,2047)),(91,(0,65535))],[],[(0,⟨(.v 0),[(some .u32,(.av 0))],[]⟩),(1,⟨(.v 1),[(some .u16,(.av 1))],[]⟩),(2,⟨(.v 3),[(some .i64,(.av 3)),(some .i64,(.av 4)),(some .u8,(.av 5))],[]⟩)]⟩,[⟨19,[],.s (.int .i64 (.v 21))⟩,⟨12,[],.s (.ptr 3 (.lit 0))⟩,⟨9,[],.s (.ptr 1 (.lit 0))⟩,⟨8,[],.s (.int .i64 e0)⟩],[⟨5,[.run .u8 (.lit 8192) e1 0],true,some 1,false⟩,⟨81,[.one (.int .u16 aSM),.one (.int .u16 aSN),.one (.int .u16 aSO),.one (.int .u16 aSP),.one (.int .u16 aSQ),.one (.int .u16 aUK),.one (.int .u16 aSR),.one (.int .u16 aSS),.one (.int .u16 aST),.one (.int .u16 bBk),.one (.int .u16 bBl),.one (.int .u16 aSU),.one (.int .u16 aSV),.one (.int .u8 aUL),.one (.int .u8 aUM),.one (.int .u8 bBm),.run .u16 (.lit 4) aIi 0,.run .u16 (.lit 256) aSW 0,.one (.slc 0 (.lit 0) (.lit 8192) (.op (.lit 0)))],true,none,false⟩,⟨5,[.run .u8 (.lit 8192) e1 0],true,some 1,false⟩,⟨81,[.one (.int .u16 (.v 22)),.one (.int .u16 (.v 23)),.one (.int .u16 (.v 24)),.one (.int .u16 (.v 25)),.one (.int .u16 (.v 26)),.one (.int .u16 (.v 27)),.one (.int .u16 (.v 28)),.one (.int .u16 (.v 29)),.one (.int .u16 (.v 30)),.one (.int .u16 (.v 31)),.one (.int .u16 (.v 32)),.one (.int .u16 (.v 33)),.one (.int .u16 (.v 34)),.one (.int .u8 (.v 35)),.one (.int .u8 (.v 36)),.one (.int .u8 (.v 37)),.run .u16 (.lit 4) (.av 8) 0,.run .u16 (.lit 256) (.av 9) 0,.one (.slc 2 (.lit 0) (.lit 8192) (.op (.lit 0)))],true,none,false⟩]⟩
noncomputable def ehs:List Head:=[eh0,eh1]
def eD:Dim:=⟨38,0,10,4,0,6,0⟩
theorem est:fH Try.prog G Gh eD ehs [] 3000 0 7 eHy eLs []=some (.jump 0 eT0 ⟨[(20,(.lit 0)),(19,(.lit 0)),(18,(.lit 0)),(17,(.lit 0)),(16,(.lit 0)),(15,(.lit 0)),(14,(.lit 0)),(13,(.lit 0)),(12,(.lit 0)),(11,(.lit 0)),(10,(.lit 0)),(9,(.lit 0)),(8,(.lit 0)),(7,(.lit 0)),(6,(.lit 0)),(5,(.lit 0)),(4,(.lit 0))],[],[(7,(.tab [])),(6,(.tab []))]⟩):=by kernel_rfl
theorem esg0:(lZ Try.prog G Gh eD ehs [] 3000 0 7 eh0).map LT.bare=some (.ite e173 (.jump 0 eT0 ⟨[(20,bOv),(19,bOw),(18,bOx),(17,bOy),(16,bOz),(15,bOA),(14,bOB),(13,bOC),(12,bOD),(11,bOE),(10,bOF),(9,bOG),(8,bOH),(7,bOI),(6,bOJ),(5,bOK),(4,bOL)],[],[(7,bOM),(6,bON)]⟩) (.ite bIx (.ret (.s (.bool (.blit false))) []) (.jump 1 eT1 ⟨[(37,e25),(36,e24),(35,e23),(34,e22),(33,e21),(32,aSY),(31,aSX),(30,e18),(29,e17),(28,e16),(27,e15),(26,e14),(25,e13),(24,e12),(23,e11),(22,e10),(21,(.lit 0))],[],[(9,iN),(8,e26)]⟩))):=by kernel_rfl
theorem esg1:(lZ Try.prog G Gh eD ehs [] 3000 0 7 eh1).map LT.bare=some (.ite e235 (.jump 1 eT1 ⟨[(37,bDG),(36,bDH),(35,bDI),(34,bDJ),(33,bDK),(32,bDL),(31,bDM),(30,bDN),(29,bDO),(28,bDP),(27,bDQ),(26,bDR),(25,bDS),(24,bDT),(23,bDU),(22,bDV),(21,bOO)],[],[(9,bDW),(8,bDX)]⟩) (.ite bIy (.ret (.s (.bool e456)) []) (.ret (.s (.bool (.blit false))) []))):=by kernel_rfl
theorem ehT0:(ehs[0]?.map (·.todo))=some eT0:=by kernel_rfl
theorem ehT1:(ehs[1]?.map (·.todo))=some eT1:=by kernel_rfl
def eV (x0:Ext) (x1:Ext) (x2:Ext) (F J K L y4 y5 y6 y7 y8 y9 a6 a7 a8 a9 b4 b5 b6 b7 b8 b9 c0 M N O P Q T U V X Y Z a0 a1 a2 a3 a4 a5:Int) (u z A2 c d g Z6 Z7 Z8 Z9:Nat→Int):Env:=(⟨[F,J,K,L,y4,y5,y6,y7,y8,y9,a6,a7,a8,a9,b4,b5,b6,b7,b8,b9,c0,M,N,O,P,Q,T,U,V,X,Y,Z,a0,a1,a2,a3,a4,a5],[],[u,z,A2,c,d,g,Z6,Z7,Z8,Z9],[],Iv (fun i j=>match i,j with | 0,0=>x0 | 1,0=>x1 | 2,0=>x2 | _,_=>Ext.none)⟩:Env)
def zR (n o q:Int) (A B:Nat→Int):Nat→Int:=Ifa 20 [n,0,o,0,q] [false,false,false,false,false] [fun _=>0,A,fun _=>0,B,fun _=>0]
def zK (x:Int):Int:=(if 3001≤x∨x ≤ -1 then 1 else x)%3001
theorem aWt (x:Int):0≤zK x∧zK x≤3000:=by unfold zK;omega
def z0:St:=⟨[0,0,0,0,0,0,0,0,0,0,0,0,0,0,0,0],fun _=>0,fun _=>0⟩
theorem aHw:z0.ok:=St.bAa (by decide) (by decide) (by decide) (by decide) (by decide) (by decide) (by decide) (by decide) (by decide) (by decide) (by decide) (by decide) (by decide) (by decide) (by decide) (by decide) (fun _=>by decide) (fun _=>by decide)
theorem aAI (ρ:Env):stE ρ [.lit 0,.lit 0,.lit 0,.lit 0,.lit 0,.lit 0,.lit 0,.lit 0,.lit 0,.lit 0,.lit 0,.lit 0,.lit 0,.lit 0,.lit 0,.lit 0] (.tab []) (.tab [])=z0:=by
 have h:E.a ρ (.tab [])=fun _=>0:=by rw [cC];funext j;simp
 unfold stE z0;rw [h];rfl
theorem bAW:z0.pr:=⟨by decide,by decide⟩
theorem bKj {ρ:Env} (h:IvF ρ.I) (n A:E):E.i ρ (.app 10 (.cons n (.cons A .nil)))=qW (E.i ρ n).toNat (E.a ρ A):=by
 rw [aZw,h.1];rfl
theorem zRk {R:Nat→Int} {k y:Int} (h:y<k) (s:St):stN R (k-y).toNat s=stN R (k-(y+1)).toNat (st1 R s):=by
 rw [show (k-y).toNat=(k-(y+1)).toNat+1 by omega,bHl]
theorem St.gl {a b:List Int} {S S' R R':Nat→Int} (h:(⟨a,S,R⟩:St)=⟨b,S',R'⟩):a=b∧S=S'∧R=R':=by cases h;exact ⟨rfl,rfl,rfl⟩
def aAo (x0:Ext) (x1:Ext) (x2:Ext) (F J K L:Int) (u z A2 c d g:Nat→Int):Prop:=(0≤F∧F≤9223372036854775807)∧(0≤J∧J≤9223372036854775807)∧(0≤K∧K≤255)∧(0≤L∧L≤9223372036854775807)∧(∀ j,0≤u j∧u j≤4294967295)∧(∀ j,0≤z j∧z j≤65535)∧(∀ j,-9223372036854775808≤A2 j∧A2 j≤9223372036854775807)∧(∀ j,-9223372036854775808≤c j∧c j≤9223372036854775807)∧(∀ j,-9223372036854775808≤d j∧d j≤9223372036854775807)∧(∀ j,0≤g j∧g j≤255)∧F=(x0.n:Int)∧J=(x1.n:Int)∧L=(x2.n:Int)∧u=aY x0 1 0∧z=aY x1 1 0∧c=aY x2 3 0∧d=aY x2 3 1∧g=aY x2 3 2∧True
def eJ0 (F J K L y4 y5 y6 y7 y8 y9 a6 a7 a8 a9 b4 b5 b6 b7 b8 b9 c0 M N O P Q T U V X Y Z a0 a1 a2 a3 a4 a5:Int) (u z A2 c d g Z6 Z7 Z8 Z9:Nat→Int):Prop:=(0≤y4∧y4≤9223372036854775807)∧(0≤y5∧y5≤2047)∧(0≤y6∧y6≤65535)∧(0≤y7∧y7≤65535)∧(0≤y8∧y8≤65535)∧(0≤y9∧y9≤65535)∧(0≤a6∧a6≤255)∧(0≤a7∧a7≤1023)∧(0≤a8∧a8≤65535)∧(0≤a9∧a9≤65535)∧(0≤b4∧b4≤65535)∧(0≤b5∧b5≤65535)∧(0≤b6∧b6≤65535)∧(0≤b7∧b7≤65535)∧(0≤b8∧b8≤63)∧(0≤b9∧b9≤63)∧(0≤c0∧c0≤3)∧(0≤M∧M≤3000)∧(0≤N∧N≤2047)∧(0≤O∧O≤65535)∧(0≤P∧P≤65535)∧(0≤Q∧Q≤65535)∧(0≤T∧T≤65535)∧(0≤U∧U≤255)∧(0≤V∧V≤1023)∧(0≤X∧X≤65535)∧(0≤Y∧Y≤65535)∧(0≤Z∧Z≤65535)∧(0≤a0∧a0≤65535)∧(0≤a1∧a1≤65535)∧(0≤a2∧a2≤65535)∧(0≤a3∧a3≤63)∧(0≤a4∧a4≤63)∧(0≤a5∧a5≤3)∧(∀ j,0≤Z6 j∧Z6 j≤2047)∧(∀ j,0≤Z7 j∧Z7 j≤65535)∧(∀ j,0≤Z8 j∧Z8 j≤2047)∧(∀ j,0≤Z9 j∧Z9 j≤65535)∧y4≤L∧True
def eJ1 (F J K L y4 y5 y6 y7 y8 y9 a6 a7 a8 a9 b4 b5 b6 b7 b8 b9 c0 M N O P Q T U V X Y Z a0 a1 a2 a3 a4 a5:Int) (u z A2 c d g Z6 Z7 Z8 Z9:Nat→Int):Prop:=(0≤y4∧y4≤9223372036854775807)∧(0≤y5∧y5≤2047)∧(0≤y6∧y6≤65535)∧(0≤y7∧y7≤65535)∧(0≤y8∧y8≤65535)∧(0≤y9∧y9≤65535)∧(0≤a6∧a6≤255)∧(0≤a7∧a7≤1023)∧(0≤a8∧a8≤65535)∧(0≤a9∧a9≤65535)∧(0≤b4∧b4≤65535)∧(0≤b5∧b5≤65535)∧(0≤b6∧b6≤65535)∧(0≤b7∧b7≤65535)∧(0≤b8∧b8≤63)∧(0≤b9∧b9≤63)∧(0≤c0∧c0≤3)∧(0≤M∧M≤3000)∧(0≤N∧N≤2047)∧(0≤O∧O≤65535)∧(0≤P∧P≤65535)∧(0≤Q∧Q≤65535)∧(0≤T∧T≤65535)∧(0≤U∧U≤255)∧(0≤V∧V≤1023)∧(0≤X∧X≤65535)∧(0≤Y∧Y≤65535)∧(0≤Z∧Z≤65535)∧(0≤a0∧a0≤65535)∧(0≤a1∧a1≤65535)∧(0≤a2∧a2≤65535)∧(0≤a3∧a3≤63)∧(0≤a4∧a4≤63)∧(0≤a5∧a5≤3)∧(∀ j,0≤Z6 j∧Z6 j≤2047)∧(∀ j,0≤Z7 j∧Z7 j≤65535)∧(∀ j,0≤Z8 j∧Z8 j≤2047)∧(∀ j,0≤Z9 j∧Z9 j≤65535)∧M≤zK (A2 1)∧stN (zR F J K u z) (zK (A2 1)-M).toNat (⟨[N,O,P,Q,T,U,V,X,Y,Z,a0,a1,a2,a3,a4,a5],Z8,Z9⟩:St)=(stN (zR F J K u z) (zK (A2 1)).toNat (stN (zR F J K u z) (zK (A2 0)).toNat z0))∧True
def bIB (x0:Ext) (x1:Ext) (x2:Ext):Nat→Env→Prop
 | 0,ρ=>∃ (F J K L y4 y5 y6 y7 y8 y9 a6 a7 a8 a9 b4 b5 b6 b7 b8 b9 c0 M N O P Q T U V X Y Z a0 a1 a2 a3 a4 a5:Int) (u z A2 c d g Z6 Z7 Z8 Z9:Nat→Int),ρ=(eV x0 x1 x2 F J K L y4 y5 y6 y7 y8 y9 a6 a7 a8 a9 b4 b5 b6 b7 b8 b9 c0 M N O P Q T U V X Y Z a0 a1 a2 a3 a4 a5 u z A2 c d g Z6 Z7 Z8 Z9)∧aAo x0 x1 x2 F J K L u z A2 c d g∧eJ0 F J K L y4 y5 y6 y7 y8 y9 a6 a7 a8 a9 b4 b5 b6 b7 b8 b9 c0 M N O P Q T U V X Y Z a0 a1 a2 a3 a4 a5 u z A2 c d g Z6 Z7 Z8 Z9
 | 1,ρ=>∃ (F J K L y4 y5 y6 y7 y8 y9 a6 a7 a8 a9 b4 b5 b6 b7 b8 b9 c0 M N O P Q T U V X Y Z a0 a1 a2 a3 a4 a5:Int) (u z A2 c d g Z6 Z7 Z8 Z9:Nat→Int),ρ=(eV x0 x1 x2 F J K L y4 y5 y6 y7 y8 y9 a6 a7 a8 a9 b4 b5 b6 b7 b8 b9 c0 M N O P Q T U V X Y Z a0 a1 a2 a3 a4 a5 u z A2 c d g Z6 Z7 Z8 Z9)∧aAo x0 x1 x2 F J K L u z A2 c d g∧eJ1 F J K L y4 y5 y6 y7 y8 y9 a6 a7 a8 a9 b4 b5 b6 b7 b8 b9 c0 M N O P Q T U V X Y Z a0 a1 a2 a3 a4 a5 u z A2 c d g Z6 Z7 Z8 Z9
 | _,_=>False
def emu:Nat→Env→Nat:=fun j ρ=>if j=0 then (ρ.i.getD 3 0-ρ.i.getD 4 0).toNat+3002 else (3001-ρ.i.getD 21 0).toNat
theorem evc0 (x0:Ext) (x1:Ext) (x2:Ext) (F J K L y4 y5 y6 y7 y8 y9 a6 a7 a8 a9 b4 b5 b6 b7 b8 b9 c0 M N O P Q T U V X Y Z a0 a1 a2 a3 a4 a5:Int) (u z A2 c d g Z6 Z7 Z8 Z9:Nat→Int) (hB:aAo x0 x1 x2 F J K L u z A2 c d g) (hJ:eJ0 F J K L y4 y5 y6 y7 y8 y9 a6 a7 a8 a9 b4 b5 b6 b7 b8 b9 c0 M N O P Q T U V X Y Z a0 a1 a2 a3 a4 a5 u z A2 c d g Z6 Z7 Z8 Z9) (hH:Hyp.ok eh0.H (eV x0 x1 x2 F J K L y4 y5 y6 y7 y8 y9 a6 a7 a8 a9 b4 b5 b6 b7 b8 b9 c0 M N O P Q T U V X Y Z a0 a1 a2 a3 a4 a5 u z A2 c d g Z6 Z7 Z8 Z9)) :
 LT.holds (eV x0 x1 x2 F J K L y4 y5 y6 y7 y8 y9 a6 a7 a8 a9 b4 b5 b6 b7 b8 b9 c0 M N O P Q T U V X Y Z a0 a1 a2 a3 a4 a5 u z A2 c d g Z6 Z7 Z8 Z9) (fun v _=>iM (eV x0 x1 x2 F J K L y4 y5 y6 y7 y8 y9 a6 a7 a8 a9 b4 b5 b6 b7 b8 b9 c0 M N O P Q T U V X Y Z a0 a1 a2 a3 a4 a5 u z A2 c d g Z6 Z7 Z8 Z9) v) (fun j' todo ρ'=>(ehs[j']?.map (·.todo))=some todo∧bIB x0 x1 x2 j' ρ'∧emu j' ρ'<emu 0 (eV x0 x1 x2 F J K L y4 y5 y6 y7 y8 y9 a6 a7 a8 a9 b4 b5 b6 b7 b8 b9 c0 M N O P Q T U V X Y Z a0 a1 a2 a3 a4 a5 u z A2 c d g Z6 Z7 Z8 Z9)) (.ite e173 (.jump 0 eT0 ⟨[(20,bOv),(19,bOw),(18,bOx),(17,bOy),(16,bOz),(15,bOA),(14,bOB),(13,bOC),(12,bOD),(11,bOE),(10,bOF),(9,bOG),(8,bOH),(7,bOI),(6,bOJ),(5,bOK),(4,bOL)],[],[(7,bOM),(6,bON)]⟩) (.ite bIx (.ret (.s (.bool (.blit false))) []) (.jump 1 eT1 ⟨[(37,e25),(36,e24),(35,e23),(34,e22),(33,e21),(32,aSY),(31,aSX),(30,e18),(29,e17),(28,e16),(27,e15),(26,e14),(25,e13),(24,e12),(23,e11),(22,e10),(21,(.lit 0))],[],[(9,iN),(8,e26)]⟩))):=by
 simp only [LT.holds,iM]
 refine ⟨fun f3=>?_,fun f3=>?_⟩
 ·
   refine ⟨ehT0,⟨F,J,K,L,(E.i (eV x0 x1 x2 F J K L y4 y5 y6 y7 y8 y9 a6 a7 a8 a9 b4 b5 b6 b7 b8 b9 c0 M N O P Q T U V X Y Z a0 a1 a2 a3 a4 a5 u z A2 c d g Z6 Z7 Z8 Z9) bOL),(E.i (eV x0 x1 x2 F J K L y4 y5 y6 y7 y8 y9 a6 a7 a8 a9 b4 b5 b6 b7 b8 b9 c0 M N O P Q T U V X Y Z a0 a1 a2 a3 a4 a5 u z A2 c d g Z6 Z7 Z8 Z9) bOK),(E.i (eV x0 x1 x2 F J K L y4 y5 y6 y7 y8 y9 a6 a7 a8 a9 b4 b5 b6 b7 b8 b9 c0 M N O P Q T U V X Y Z a0 a1 a2 a3 a4 a5 u z A2 c d g Z6 Z7 Z8 Z9) bOJ),(E.i (eV x0 x1 x2 F J K L y4 y5 y6 y7 y8 y9 a6 a7 a8 a9 b4 b5 b6 b7 b8 b9 c0 M N O P Q T U V X Y Z a0 a1 a2 a3 a4 a5 u z A2 c d g Z6 Z7 Z8 Z9) bOI),(E.i (eV x0 x1 x2 F J K L y4 y5 y6 y7 y8 y9 a6 a7 a8 a9 b4 b5 b6 b7 b8 b9 c0 M N O P Q T U V X Y Z a0 a1 a2 a3 a4 a5 u z A2 c d g Z6 Z7 Z8 Z9) bOH),(E.i (eV x0 x1 x2 F J K L y4 y5 y6 y7 y8 y9 a6 a7 a8 a9 b4 b5 b6 b7 b8 b9 c0 M N O P Q T U V X Y Z a0 a1 a2 a3 a4 a5 u z A2 c d g Z6 Z7 Z8 Z9) bOG),(E.i (eV x0 x1 x2 F J K L y4 y5 y6 y7 y8 y9 a6 a7 a8 a9 b4 b5 b6 b7 b8 b9 c0 M N O P Q T U V X Y Z a0 a1 a2 a3 a4 a5 u z A2 c d g Z6 Z7 Z8 Z9) bOF),(E.i (eV x0 x1 x2 F J K L y4 y5 y6 y7 y8 y9 a6 a7 a8 a9 b4 b5 b6 b7 b8 b9 c0 M N O P Q T U V X Y Z a0 a1 a2 a3 a4 a5 u z A2 c d g Z6 Z7 Z8 Z9) bOE),(E.i (eV x0 x1 x2 F J K L y4 y5 y6 y7 y8 y9 a6 a7 a8 a9 b4 b5 b6 b7 b8 b9 c0 M N O P Q T U V X Y Z a0 a1 a2 a3 a4 a5 u z A2 c d g Z6 Z7 Z8 Z9) bOD),(E.i (eV x0 x1 x2 F J K L y4 y5 y6 y7 y8 y9 a6 a7 a8 a9 b4 b5 b6 b7 b8 b9 c0 M N O P Q T U V X Y Z a0 a1 a2 a3 a4 a5 u z A2 c d g Z6 Z7 Z8 Z9) bOC),(E.i (eV x0 x1 x2 F J K L y4 y5 y6 y7 y8 y9 a6 a7 a8 a9 b4 b5 b6 b7 b8 b9 c0 M N O P Q T U V X Y Z a0 a1 a2 a3 a4 a5 u z A2 c d g Z6 Z7 Z8 Z9) bOB),(E.i (eV x0 x1 x2 F J K L y4 y5 y6 y7 y8 y9 a6 a7 a8 a9 b4 b5 b6 b7 b8 b9 c0 M N O P Q T U V X Y Z a0 a1 a2 a3 a4 a5 u z A2 c d g Z6 Z7 Z8 Z9) bOA),(E.i (eV x0 x1 x2 F J K L y4 y5 y6 y7 y8 y9 a6 a7 a8 a9 b4 b5 b6 b7 b8 b9 c0 M N O P Q T U V X Y Z a0 a1 a2 a3 a4 a5 u z A2 c d g Z6 Z7 Z8 Z9) bOz),(E.i (eV x0 x1 x2 F J K L y4 y5 y6 y7 y8 y9 a6 a7 a8 a9 b4 b5 b6 b7 b8 b9 c0 M N O P Q T U V X Y Z a0 a1 a2 a3 a4 a5 u z A2 c d g Z6 Z7 Z8 Z9) bOy),(E.i (eV x0 x1 x2 F J K L y4 y5 y6 y7 y8 y9 a6 a7 a8 a9 b4 b5 b6 b7 b8 b9 c0 M N O P Q T U V X Y Z a0 a1 a2 a3 a4 a5 u z A2 c d g Z6 Z7 Z8 Z9) bOx),(E.i (eV x0 x1 x2 F J K L y4 y5 y6 y7 y8 y9 a6 a7 a8 a9 b4 b5 b6 b7 b8 b9 c0 M N O P Q T U V X Y Z a0 a1 a2 a3 a4 a5 u z A2 c d g Z6 Z7 Z8 Z9) bOw),(E.i (eV x0 x1 x2 F J K L y4 y5 y6 y7 y8 y9 a6 a7 a8 a9 b4 b5 b6 b7 b8 b9 c0 M N O P Q T U V X Y Z a0 a1 a2 a3 a4 a5 u z A2 c d g Z6 Z7 Z8 Z9) bOv),M,N,O,P,Q,T,U,V,X,Y,Z,a0,a1,a2,a3,a4,a5,u,z,A2,c,d,g,(E.a (eV x0 x1 x2 F J K L y4 y5 y6 y7 y8 y9 a6 a7 a8 a9 b4 b5 b6 b7 b8 b9 c0 M N O P Q T U V X Y Z a0 a1 a2 a3 a4 a5 u z A2 c d g Z6 Z7 Z8 Z9) bON),(E.a (eV x0 x1 x2 F J K L y4 y5 y6 y7 y8 y9 a6 a7 a8 a9 b4 b5 b6 b7 b8 b9 c0 M N O P Q T U V X Y Z a0 a1 a2 a3 a4 a5 u z A2 c d g Z6 Z7 Z8 Z9) bOM),Z8,Z9,(by kernel_rfl),hB,?_⟩,?_⟩
   ·have f0:=hJ
    simp only [eJ0] at f0
    obtain ⟨l4,l5,l6,l7,l8,l9,i0,i1,i2,i3,i4,i5,i6,i7,i8,i9,j0,p6,j1,j2,j3,j4,j5,j6,j7,j8,j9,k3,k4,k5,k6,k7,k8,k9,m6,m7,m8,m9,hk,_⟩:=f0
    have hB3:=hB
    simp only [aAo] at hB3
    obtain ⟨b0,b1,b2,b3,_⟩:=hB3
    have hg:y4<L:=of_decide_eq_true f3
    exact ⟨(show 0≤y4+1∧y4+1≤9223372036854775807 by omega),(aM hH (by kernel_rfl)),(aM hH (by kernel_rfl)),(aM hH (by kernel_rfl)),(aM hH (by kernel_rfl)),(aM hH (by kernel_rfl)),(aM hH (by kernel_rfl)),(aM hH (by kernel_rfl)),(aM hH (by kernel_rfl)),(aM hH (by kernel_rfl)),(aM hH (by kernel_rfl)),(aM hH (by kernel_rfl)),(aM hH (by kernel_rfl)),(aM hH (by kernel_rfl)),(aM hH (by kernel_rfl)),(aM hH (by kernel_rfl)),(aM hH (by kernel_rfl)),p6,j1,j2,j3,j4,j5,j6,j7,j8,j9,k3,k4,k5,k6,k7,k8,k9,(pQ hH (by kernel_rfl)),(pQ hH (by kernel_rfl)),m8,m9,(show y4+1≤L by omega),trivial⟩
   have hg:y4<L:=of_decide_eq_true f3
   exact Nat.lt_of_le_of_lt (Nat.le_of_eq (m:=(L-(y4+1)).toNat+3002) (by kernel_rfl)) (Nat.lt_of_lt_of_eq (show (L-(y4+1)).toNat+3002<(L-y4).toNat+3002 by omega) (by kernel_rfl))
 ·
   refine ⟨fun g5=>?_,fun g5=>?_⟩
   ·
     have hF:IvF ((eV x0 x1 x2 F J K L y4 y5 y6 y7 y8 y9 a6 a7 a8 a9 b4 b5 b6 b7 b8 b9 c0 M N O P Q T U V X Y Z a0 a1 a2 a3 a4 a5 u z A2 c d g Z6 Z7 Z8 Z9)).I:=⟨rfl,rfl,rfl⟩
     have hR:E.a (eV x0 x1 x2 F J K L y4 y5 y6 y7 y8 y9 a6 a7 a8 a9 b4 b5 b6 b7 b8 b9 c0 M N O P Q T U V X Y Z a0 a1 a2 a3 a4 a5 u z A2 c d g Z6 Z7 Z8 Z9) e9=(zR F J K u z):=jE _ _
     have g6:E.i (eV x0 x1 x2 F J K L y4 y5 y6 y7 y8 y9 a6 a7 a8 a9 b4 b5 b6 b7 b8 b9 c0 M N O P Q T U V X Y Z a0 a1 a2 a3 a4 a5 u z A2 c d g Z6 Z7 Z8 Z9) e7=zK (A2 0):=by
      show (E.i (eV x0 x1 x2 F J K L y4 y5 y6 y7 y8 y9 a6 a7 a8 a9 b4 b5 b6 b7 b8 b9 c0 M N O P Q T U V X Y Z a0 a1 a2 a3 a4 a5 u z A2 c d g Z6 Z7 Z8 Z9) e6)%3001=_
      rw [show E.i (eV x0 x1 x2 F J K L y4 y5 y6 y7 y8 y9 a6 a7 a8 a9 b4 b5 b6 b7 b8 b9 c0 M N O P Q T U V X Y Z a0 a1 a2 a3 a4 a5 u z A2 c d g Z6 Z7 Z8 Z9) e6=if E.b (eV x0 x1 x2 F J K L y4 y5 y6 y7 y8 y9 a6 a7 a8 a9 b4 b5 b6 b7 b8 b9 c0 M N O P Q T U V X Y Z a0 a1 a2 a3 a4 a5 u z A2 c d g Z6 Z7 Z8 Z9) e5 then 1 else A2 0 from aQ _ _ _ _]
      show (if (decide _||decide _)=true then (1:Int) else A2 0)%3001=zK (A2 0)
      simp only [Bool.or_eq_true,decide_eq_true_eq,zK]
      rfl
     have q1:aUd e7 [(.lit 0),(.lit 0),(.lit 0),(.lit 0),(.lit 0),(.lit 0),(.lit 0),(.lit 0),(.lit 0),(.lit 0),(.lit 0),(.lit 0),(.lit 0),(.lit 0),(.lit 0),(.lit 0)] e9 (.tab []) (.tab []) (eV x0 x1 x2 F J K L y4 y5 y6 y7 y8 y9 a6 a7 a8 a9 b4 b5 b6 b7 b8 b9 c0 M N O P Q T U V X Y Z a0 a1 a2 a3 a4 a5 u z A2 c d g Z6 Z7 Z8 Z9)=(stN (zR F J K u z) (zK (A2 0)).toNat z0):=by
      rw [mC (eV x0 x1 x2 F J K L y4 y5 y6 y7 y8 y9 a6 a7 a8 a9 b4 b5 b6 b7 b8 b9 c0 M N O P Q T U V X Y Z a0 a1 a2 a3 a4 a5 u z A2 c d g Z6 Z7 Z8 Z9) hF _ _ rfl _ _ _ (by rw [aAI];exact aHw),aAI,hR,g6]
     have p1:=aEj (zR F J K u z) z0 bAW (zK (A2 0)).toNat
     rw [← q1] at p1
     have g9:E.i (eV x0 x1 x2 F J K L y4 y5 y6 y7 y8 y9 a6 a7 a8 a9 b4 b5 b6 b7 b8 b9 c0 M N O P Q T U V X Y Z a0 a1 a2 a3 a4 a5 u z A2 c d g Z6 Z7 Z8 Z9) e19=E.i (eV x0 x1 x2 F J K L y4 y5 y6 y7 y8 y9 a6 a7 a8 a9 b4 b5 b6 b7 b8 b9 c0 M N O P Q T U V X Y Z a0 a1 a2 a3 a4 a5 u z A2 c d g Z6 Z7 Z8 Z9) aSX:=p1.1
     have p8:E.i (eV x0 x1 x2 F J K L y4 y5 y6 y7 y8 y9 a6 a7 a8 a9 b4 b5 b6 b7 b8 b9 c0 M N O P Q T U V X Y Z a0 a1 a2 a3 a4 a5 u z A2 c d g Z6 Z7 Z8 Z9) e20=E.i (eV x0 x1 x2 F J K L y4 y5 y6 y7 y8 y9 a6 a7 a8 a9 b4 b5 b6 b7 b8 b9 c0 M N O P Q T U V X Y Z a0 a1 a2 a3 a4 a5 u z A2 c d g Z6 Z7 Z8 Z9) aSY:=p1.2
     have hx:E.b (eV x0 x1 x2 F J K L y4 y5 y6 y7 y8 y9 a6 a7 a8 a9 b4 b5 b6 b7 b8 b9 c0 M N O P Q T U V X Y Z a0 a1 a2 a3 a4 a5 u z A2 c d g Z6 Z7 Z8 Z9) bIx=false:=by
      simp only [bIx,e229,e233,e228,e232,eW,cX,eU,g9,p8]
      simp
     rw [hx] at g5;cases g5
   ·
     refine ⟨ehT1,⟨F,J,K,L,y4,y5,y6,y7,y8,y9,a6,a7,a8,a9,b4,b5,b6,b7,b8,b9,c0,(E.i (eV x0 x1 x2 F J K L y4 y5 y6 y7 y8 y9 a6 a7 a8 a9 b4 b5 b6 b7 b8 b9 c0 M N O P Q T U V X Y Z a0 a1 a2 a3 a4 a5 u z A2 c d g Z6 Z7 Z8 Z9) (.lit 0)),(E.i (eV x0 x1 x2 F J K L y4 y5 y6 y7 y8 y9 a6 a7 a8 a9 b4 b5 b6 b7 b8 b9 c0 M N O P Q T U V X Y Z a0 a1 a2 a3 a4 a5 u z A2 c d g Z6 Z7 Z8 Z9) e10),(E.i (eV x0 x1 x2 F J K L y4 y5 y6 y7 y8 y9 a6 a7 a8 a9 b4 b5 b6 b7 b8 b9 c0 M N O P Q T U V X Y Z a0 a1 a2 a3 a4 a5 u z A2 c d g Z6 Z7 Z8 Z9) e11),(E.i (eV x0 x1 x2 F J K L y4 y5 y6 y7 y8 y9 a6 a7 a8 a9 b4 b5 b6 b7 b8 b9 c0 M N O P Q T U V X Y Z a0 a1 a2 a3 a4 a5 u z A2 c d g Z6 Z7 Z8 Z9) e12),(E.i (eV x0 x1 x2 F J K L y4 y5 y6 y7 y8 y9 a6 a7 a8 a9 b4 b5 b6 b7 b8 b9 c0 M N O P Q T U V X Y Z a0 a1 a2 a3 a4 a5 u z A2 c d g Z6 Z7 Z8 Z9) e13),(E.i (eV x0 x1 x2 F J K L y4 y5 y6 y7 y8 y9 a6 a7 a8 a9 b4 b5 b6 b7 b8 b9 c0 M N O P Q T U V X Y Z a0 a1 a2 a3 a4 a5 u z A2 c d g Z6 Z7 Z8 Z9) e14),(E.i (eV x0 x1 x2 F J K L y4 y5 y6 y7 y8 y9 a6 a7 a8 a9 b4 b5 b6 b7 b8 b9 c0 M N O P Q T U V X Y Z a0 a1 a2 a3 a4 a5 u z A2 c d g Z6 Z7 Z8 Z9) e15),(E.i (eV x0 x1 x2 F J K L y4 y5 y6 y7 y8 y9 a6 a7 a8 a9 b4 b5 b6 b7 b8 b9 c0 M N O P Q T U V X Y Z a0 a1 a2 a3 a4 a5 u z A2 c d g Z6 Z7 Z8 Z9) e16),(E.i (eV x0 x1 x2 F J K L y4 y5 y6 y7 y8 y9 a6 a7 a8 a9 b4 b5 b6 b7 b8 b9 c0 M N O P Q T U V X Y Z a0 a1 a2 a3 a4 a5 u z A2 c d g Z6 Z7 Z8 Z9) e17),(E.i (eV x0 x1 x2 F J K L y4 y5 y6 y7 y8 y9 a6 a7 a8 a9 b4 b5 b6 b7 b8 b9 c0 M N O P Q T U V X Y Z a0 a1 a2 a3 a4 a5 u z A2 c d g Z6 Z7 Z8 Z9) e18),(E.i (eV x0 x1 x2 F J K L y4 y5 y6 y7 y8 y9 a6 a7 a8 a9 b4 b5 b6 b7 b8 b9 c0 M N O P Q T U V X Y Z a0 a1 a2 a3 a4 a5 u z A2 c d g Z6 Z7 Z8 Z9) aSX),(E.i (eV x0 x1 x2 F J K L y4 y5 y6 y7 y8 y9 a6 a7 a8 a9 b4 b5 b6 b7 b8 b9 c0 M N O P Q T U V X Y Z a0 a1 a2 a3 a4 a5 u z A2 c d g Z6 Z7 Z8 Z9) aSY),(E.i (eV x0 x1 x2 F J K L y4 y5 y6 y7 y8 y9 a6 a7 a8 a9 b4 b5 b6 b7 b8 b9 c0 M N O P Q T U V X Y Z a0 a1 a2 a3 a4 a5 u z A2 c d g Z6 Z7 Z8 Z9) e21),(E.i (eV x0 x1 x2 F J K L y4 y5 y6 y7 y8 y9 a6 a7 a8 a9 b4 b5 b6 b7 b8 b9 c0 M N O P Q T U V X Y Z a0 a1 a2 a3 a4 a5 u z A2 c d g Z6 Z7 Z8 Z9) e22),(E.i (eV x0 x1 x2 F J K L y4 y5 y6 y7 y8 y9 a6 a7 a8 a9 b4 b5 b6 b7 b8 b9 c0 M N O P Q T U V X Y Z a0 a1 a2 a3 a4 a5 u z A2 c d g Z6 Z7 Z8 Z9) e23),(E.i (eV x0 x1 x2 F J K L y4 y5 y6 y7 y8 y9 a6 a7 a8 a9 b4 b5 b6 b7 b8 b9 c0 M N O P Q T U V X Y Z a0 a1 a2 a3 a4 a5 u z A2 c d g Z6 Z7 Z8 Z9) e24),(E.i (eV x0 x1 x2 F J K L y4 y5 y6 y7 y8 y9 a6 a7 a8 a9 b4 b5 b6 b7 b8 b9 c0 M N O P Q T U V X Y Z a0 a1 a2 a3 a4 a5 u z A2 c d g Z6 Z7 Z8 Z9) e25),u,z,A2,c,d,g,Z6,Z7,(E.a (eV x0 x1 x2 F J K L y4 y5 y6 y7 y8 y9 a6 a7 a8 a9 b4 b5 b6 b7 b8 b9 c0 M N O P Q T U V X Y Z a0 a1 a2 a3 a4 a5 u z A2 c d g Z6 Z7 Z8 Z9) e26),(E.a (eV x0 x1 x2 F J K L y4 y5 y6 y7 y8 y9 a6 a7 a8 a9 b4 b5 b6 b7 b8 b9 c0 M N O P Q T U V X Y Z a0 a1 a2 a3 a4 a5 u z A2 c d g Z6 Z7 Z8 Z9) iN),(by kernel_rfl),hB,?_⟩,?_⟩
     ·have f0:=hJ
      simp only [eJ0] at f0
      obtain ⟨l4,l5,l6,l7,l8,l9,i0,i1,i2,i3,i4,i5,i6,i7,i8,i9,j0,p6,j1,j2,j3,j4,j5,j6,j7,j8,j9,k3,k4,k5,k6,k7,k8,k9,m6,m7,m8,m9,hk,_⟩:=f0
      have hF:IvF ((eV x0 x1 x2 F J K L y4 y5 y6 y7 y8 y9 a6 a7 a8 a9 b4 b5 b6 b7 b8 b9 c0 M N O P Q T U V X Y Z a0 a1 a2 a3 a4 a5 u z A2 c d g Z6 Z7 Z8 Z9)).I:=⟨rfl,rfl,rfl⟩
      have hR:E.a (eV x0 x1 x2 F J K L y4 y5 y6 y7 y8 y9 a6 a7 a8 a9 b4 b5 b6 b7 b8 b9 c0 M N O P Q T U V X Y Z a0 a1 a2 a3 a4 a5 u z A2 c d g Z6 Z7 Z8 Z9) e9=(zR F J K u z):=jE _ _
      have g6:E.i (eV x0 x1 x2 F J K L y4 y5 y6 y7 y8 y9 a6 a7 a8 a9 b4 b5 b6 b7 b8 b9 c0 M N O P Q T U V X Y Z a0 a1 a2 a3 a4 a5 u z A2 c d g Z6 Z7 Z8 Z9) e7=zK (A2 0):=by
       show (E.i (eV x0 x1 x2 F J K L y4 y5 y6 y7 y8 y9 a6 a7 a8 a9 b4 b5 b6 b7 b8 b9 c0 M N O P Q T U V X Y Z a0 a1 a2 a3 a4 a5 u z A2 c d g Z6 Z7 Z8 Z9) e6)%3001=_
       rw [show E.i (eV x0 x1 x2 F J K L y4 y5 y6 y7 y8 y9 a6 a7 a8 a9 b4 b5 b6 b7 b8 b9 c0 M N O P Q T U V X Y Z a0 a1 a2 a3 a4 a5 u z A2 c d g Z6 Z7 Z8 Z9) e6=if E.b (eV x0 x1 x2 F J K L y4 y5 y6 y7 y8 y9 a6 a7 a8 a9 b4 b5 b6 b7 b8 b9 c0 M N O P Q T U V X Y Z a0 a1 a2 a3 a4 a5 u z A2 c d g Z6 Z7 Z8 Z9) e5 then 1 else A2 0 from aQ _ _ _ _]
       show (if (decide _||decide _)=true then (1:Int) else A2 0)%3001=zK (A2 0)
       simp only [Bool.or_eq_true,decide_eq_true_eq,zK]
       rfl
      have q1:aUd e7 [(.lit 0),(.lit 0),(.lit 0),(.lit 0),(.lit 0),(.lit 0),(.lit 0),(.lit 0),(.lit 0),(.lit 0),(.lit 0),(.lit 0),(.lit 0),(.lit 0),(.lit 0),(.lit 0)] e9 (.tab []) (.tab []) (eV x0 x1 x2 F J K L y4 y5 y6 y7 y8 y9 a6 a7 a8 a9 b4 b5 b6 b7 b8 b9 c0 M N O P Q T U V X Y Z a0 a1 a2 a3 a4 a5 u z A2 c d g Z6 Z7 Z8 Z9)=(stN (zR F J K u z) (zK (A2 0)).toNat z0):=by
       rw [mC (eV x0 x1 x2 F J K L y4 y5 y6 y7 y8 y9 a6 a7 a8 a9 b4 b5 b6 b7 b8 b9 c0 M N O P Q T U V X Y Z a0 a1 a2 a3 a4 a5 u z A2 c d g Z6 Z7 Z8 Z9) hF _ _ rfl _ _ _ (by rw [aAI];exact aHw),aAI,hR,g6]
      have p1:=aEj (zR F J K u z) z0 bAW (zK (A2 0)).toNat
      rw [← q1] at p1
      have g9:E.i (eV x0 x1 x2 F J K L y4 y5 y6 y7 y8 y9 a6 a7 a8 a9 b4 b5 b6 b7 b8 b9 c0 M N O P Q T U V X Y Z a0 a1 a2 a3 a4 a5 u z A2 c d g Z6 Z7 Z8 Z9) e19=E.i (eV x0 x1 x2 F J K L y4 y5 y6 y7 y8 y9 a6 a7 a8 a9 b4 b5 b6 b7 b8 b9 c0 M N O P Q T U V X Y Z a0 a1 a2 a3 a4 a5 u z A2 c d g Z6 Z7 Z8 Z9) aSX:=p1.1
      have p8:E.i (eV x0 x1 x2 F J K L y4 y5 y6 y7 y8 y9 a6 a7 a8 a9 b4 b5 b6 b7 b8 b9 c0 M N O P Q T U V X Y Z a0 a1 a2 a3 a4 a5 u z A2 c d g Z6 Z7 Z8 Z9) e20=E.i (eV x0 x1 x2 F J K L y4 y5 y6 y7 y8 y9 a6 a7 a8 a9 b4 b5 b6 b7 b8 b9 c0 M N O P Q T U V X Y Z a0 a1 a2 a3 a4 a5 u z A2 c d g Z6 Z7 Z8 Z9) aSY:=p1.2
      refine ⟨l4,l5,l6,l7,l8,l9,i0,i1,i2,i3,i4,i5,i6,i7,i8,i9,j0,(aM hH (by kernel_rfl)),(aM hH (by kernel_rfl)),(aM hH (by kernel_rfl)),(aM hH (by kernel_rfl)),(aM hH (by kernel_rfl)),(aM hH (by kernel_rfl)),(aM hH (by kernel_rfl)),(aM hH (by kernel_rfl)),(aM hH (by kernel_rfl)),(aM hH (by kernel_rfl)),(aM hH (by kernel_rfl)),(aM hH (by kernel_rfl)),(aM hH (by kernel_rfl)),(aM hH (by kernel_rfl)),(aM hH (by kernel_rfl)),(aM hH (by kernel_rfl)),(aM hH (by kernel_rfl)),m6,m7,(pQ hH (by kernel_rfl)),(pQ hH (by kernel_rfl)),(aWt (A2 1)).1,?_,trivial⟩
      have e0:(⟨[E.i (eV x0 x1 x2 F J K L y4 y5 y6 y7 y8 y9 a6 a7 a8 a9 b4 b5 b6 b7 b8 b9 c0 M N O P Q T U V X Y Z a0 a1 a2 a3 a4 a5 u z A2 c d g Z6 Z7 Z8 Z9) e10,E.i (eV x0 x1 x2 F J K L y4 y5 y6 y7 y8 y9 a6 a7 a8 a9 b4 b5 b6 b7 b8 b9 c0 M N O P Q T U V X Y Z a0 a1 a2 a3 a4 a5 u z A2 c d g Z6 Z7 Z8 Z9) e11,E.i (eV x0 x1 x2 F J K L y4 y5 y6 y7 y8 y9 a6 a7 a8 a9 b4 b5 b6 b7 b8 b9 c0 M N O P Q T U V X Y Z a0 a1 a2 a3 a4 a5 u z A2 c d g Z6 Z7 Z8 Z9) e12,E.i (eV x0 x1 x2 F J K L y4 y5 y6 y7 y8 y9 a6 a7 a8 a9 b4 b5 b6 b7 b8 b9 c0 M N O P Q T U V X Y Z a0 a1 a2 a3 a4 a5 u z A2 c d g Z6 Z7 Z8 Z9) e13,E.i (eV x0 x1 x2 F J K L y4 y5 y6 y7 y8 y9 a6 a7 a8 a9 b4 b5 b6 b7 b8 b9 c0 M N O P Q T U V X Y Z a0 a1 a2 a3 a4 a5 u z A2 c d g Z6 Z7 Z8 Z9) e14,E.i (eV x0 x1 x2 F J K L y4 y5 y6 y7 y8 y9 a6 a7 a8 a9 b4 b5 b6 b7 b8 b9 c0 M N O P Q T U V X Y Z a0 a1 a2 a3 a4 a5 u z A2 c d g Z6 Z7 Z8 Z9) e15,E.i (eV x0 x1 x2 F J K L y4 y5 y6 y7 y8 y9 a6 a7 a8 a9 b4 b5 b6 b7 b8 b9 c0 M N O P Q T U V X Y Z a0 a1 a2 a3 a4 a5 u z A2 c d g Z6 Z7 Z8 Z9) e16,E.i (eV x0 x1 x2 F J K L y4 y5 y6 y7 y8 y9 a6 a7 a8 a9 b4 b5 b6 b7 b8 b9 c0 M N O P Q T U V X Y Z a0 a1 a2 a3 a4 a5 u z A2 c d g Z6 Z7 Z8 Z9) e17,E.i (eV x0 x1 x2 F J K L y4 y5 y6 y7 y8 y9 a6 a7 a8 a9 b4 b5 b6 b7 b8 b9 c0 M N O P Q T U V X Y Z a0 a1 a2 a3 a4 a5 u z A2 c d g Z6 Z7 Z8 Z9) e18,E.i (eV x0 x1 x2 F J K L y4 y5 y6 y7 y8 y9 a6 a7 a8 a9 b4 b5 b6 b7 b8 b9 c0 M N O P Q T U V X Y Z a0 a1 a2 a3 a4 a5 u z A2 c d g Z6 Z7 Z8 Z9) aSX,E.i (eV x0 x1 x2 F J K L y4 y5 y6 y7 y8 y9 a6 a7 a8 a9 b4 b5 b6 b7 b8 b9 c0 M N O P Q T U V X Y Z a0 a1 a2 a3 a4 a5 u z A2 c d g Z6 Z7 Z8 Z9) aSY,E.i (eV x0 x1 x2 F J K L y4 y5 y6 y7 y8 y9 a6 a7 a8 a9 b4 b5 b6 b7 b8 b9 c0 M N O P Q T U V X Y Z a0 a1 a2 a3 a4 a5 u z A2 c d g Z6 Z7 Z8 Z9) e21,E.i (eV x0 x1 x2 F J K L y4 y5 y6 y7 y8 y9 a6 a7 a8 a9 b4 b5 b6 b7 b8 b9 c0 M N O P Q T U V X Y Z a0 a1 a2 a3 a4 a5 u z A2 c d g Z6 Z7 Z8 Z9) e22,E.i (eV x0 x1 x2 F J K L y4 y5 y6 y7 y8 y9 a6 a7 a8 a9 b4 b5 b6 b7 b8 b9 c0 M N O P Q T U V X Y Z a0 a1 a2 a3 a4 a5 u z A2 c d g Z6 Z7 Z8 Z9) e23,E.i (eV x0 x1 x2 F J K L y4 y5 y6 y7 y8 y9 a6 a7 a8 a9 b4 b5 b6 b7 b8 b9 c0 M N O P Q T U V X Y Z a0 a1 a2 a3 a4 a5 u z A2 c d g Z6 Z7 Z8 Z9) e24,E.i (eV x0 x1 x2 F J K L y4 y5 y6 y7 y8 y9 a6 a7 a8 a9 b4 b5 b6 b7 b8 b9 c0 M N O P Q T U V X Y Z a0 a1 a2 a3 a4 a5 u z A2 c d g Z6 Z7 Z8 Z9) e25],E.a (eV x0 x1 x2 F J K L y4 y5 y6 y7 y8 y9 a6 a7 a8 a9 b4 b5 b6 b7 b8 b9 c0 M N O P Q T U V X Y Z a0 a1 a2 a3 a4 a5 u z A2 c d g Z6 Z7 Z8 Z9) e26,E.a (eV x0 x1 x2 F J K L y4 y5 y6 y7 y8 y9 a6 a7 a8 a9 b4 b5 b6 b7 b8 b9 c0 M N O P Q T U V X Y Z a0 a1 a2 a3 a4 a5 u z A2 c d g Z6 Z7 Z8 Z9) iN⟩:St)=(stN (zR F J K u z) (zK (A2 0)).toNat z0):=by
       rw [← g9,← p8,show E.a (eV x0 x1 x2 F J K L y4 y5 y6 y7 y8 y9 a6 a7 a8 a9 b4 b5 b6 b7 b8 b9 c0 M N O P Q T U V X Y Z a0 a1 a2 a3 a4 a5 u z A2 c d g Z6 Z7 Z8 Z9) iN=E.a (eV x0 x1 x2 F J K L y4 y5 y6 y7 y8 y9 a6 a7 a8 a9 b4 b5 b6 b7 b8 b9 c0 M N O P Q T U V X Y Z a0 a1 a2 a3 a4 a5 u z A2 c d g Z6 Z7 Z8 Z9) e27 from jE _ _]
       exact q1
      show stN _ (zK (A2 1)-0).toNat (⟨[E.i (eV x0 x1 x2 F J K L y4 y5 y6 y7 y8 y9 a6 a7 a8 a9 b4 b5 b6 b7 b8 b9 c0 M N O P Q T U V X Y Z a0 a1 a2 a3 a4 a5 u z A2 c d g Z6 Z7 Z8 Z9) e10,E.i (eV x0 x1 x2 F J K L y4 y5 y6 y7 y8 y9 a6 a7 a8 a9 b4 b5 b6 b7 b8 b9 c0 M N O P Q T U V X Y Z a0 a1 a2 a3 a4 a5 u z A2 c d g Z6 Z7 Z8 Z9) e11,E.i (eV x0 x1 x2 F J K L y4 y5 y6 y7 y8 y9 a6 a7 a8 a9 b4 b5 b6 b7 b8 b9 c0 M N O P Q T U V X Y Z a0 a1 a2 a3 a4 a5 u z A2 c d g Z6 Z7 Z8 Z9) e12,E.i (eV x0 x1 x2 F J K L y4 y5 y6 y7 y8 y9 a6 a7 a8 a9 b4 b5 b6 b7 b8 b9 c0 M N O P Q T U V X Y Z a0 a1 a2 a3 a4 a5 u z A2 c d g Z6 Z7 Z8 Z9) e13,E.i (eV x0 x1 x2 F J K L y4 y5 y6 y7 y8 y9 a6 a7 a8 a9 b4 b5 b6 b7 b8 b9 c0 M N O P Q T U V X Y Z a0 a1 a2 a3 a4 a5 u z A2 c d g Z6 Z7 Z8 Z9) e14,E.i (eV x0 x1 x2 F J K L y4 y5 y6 y7 y8 y9 a6 a7 a8 a9 b4 b5 b6 b7 b8 b9 c0 M N O P Q T U V X Y Z a0 a1 a2 a3 a4 a5 u z A2 c d g Z6 Z7 Z8 Z9) e15,E.i (eV x0 x1 x2 F J K L y4 y5 y6 y7 y8 y9 a6 a7 a8 a9 b4 b5 b6 b7 b8 b9 c0 M N O P Q T U V X Y Z a0 a1 a2 a3 a4 a5 u z A2 c d g Z6 Z7 Z8 Z9) e16,E.i (eV x0 x1 x2 F J K L y4 y5 y6 y7 y8 y9 a6 a7 a8 a9 b4 b5 b6 b7 b8 b9 c0 M N O P Q T U V X Y Z a0 a1 a2 a3 a4 a5 u z A2 c d g Z6 Z7 Z8 Z9) e17,E.i (eV x0 x1 x2 F J K L y4 y5 y6 y7 y8 y9 a6 a7 a8 a9 b4 b5 b6 b7 b8 b9 c0 M N O P Q T U V X Y Z a0 a1 a2 a3 a4 a5 u z A2 c d g Z6 Z7 Z8 Z9) e18,E.i (eV x0 x1 x2 F J K L y4 y5 y6 y7 y8 y9 a6 a7 a8 a9 b4 b5 b6 b7 b8 b9 c0 M N O P Q T U V X Y Z a0 a1 a2 a3 a4 a5 u z A2 c d g Z6 Z7 Z8 Z9) aSX,E.i (eV x0 x1 x2 F J K L y4 y5 y6 y7 y8 y9 a6 a7 a8 a9 b4 b5 b6 b7 b8 b9 c0 M N O P Q T U V X Y Z a0 a1 a2 a3 a4 a5 u z A2 c d g Z6 Z7 Z8 Z9) aSY,E.i (eV x0 x1 x2 F J K L y4 y5 y6 y7 y8 y9 a6 a7 a8 a9 b4 b5 b6 b7 b8 b9 c0 M N O P Q T U V X Y Z a0 a1 a2 a3 a4 a5 u z A2 c d g Z6 Z7 Z8 Z9) e21,E.i (eV x0 x1 x2 F J K L y4 y5 y6 y7 y8 y9 a6 a7 a8 a9 b4 b5 b6 b7 b8 b9 c0 M N O P Q T U V X Y Z a0 a1 a2 a3 a4 a5 u z A2 c d g Z6 Z7 Z8 Z9) e22,E.i (eV x0 x1 x2 F J K L y4 y5 y6 y7 y8 y9 a6 a7 a8 a9 b4 b5 b6 b7 b8 b9 c0 M N O P Q T U V X Y Z a0 a1 a2 a3 a4 a5 u z A2 c d g Z6 Z7 Z8 Z9) e23,E.i (eV x0 x1 x2 F J K L y4 y5 y6 y7 y8 y9 a6 a7 a8 a9 b4 b5 b6 b7 b8 b9 c0 M N O P Q T U V X Y Z a0 a1 a2 a3 a4 a5 u z A2 c d g Z6 Z7 Z8 Z9) e24,E.i (eV x0 x1 x2 F J K L y4 y5 y6 y7 y8 y9 a6 a7 a8 a9 b4 b5 b6 b7 b8 b9 c0 M N O P Q T U V X Y Z a0 a1 a2 a3 a4 a5 u z A2 c d g Z6 Z7 Z8 Z9) e25],E.a (eV x0 x1 x2 F J K L y4 y5 y6 y7 y8 y9 a6 a7 a8 a9 b4 b5 b6 b7 b8 b9 c0 M N O P Q T U V X Y Z a0 a1 a2 a3 a4 a5 u z A2 c d g Z6 Z7 Z8 Z9) e26,E.a (eV x0 x1 x2 F J K L y4 y5 y6 y7 y8 y9 a6 a7 a8 a9 b4 b5 b6 b7 b8 b9 c0 M N O P Q T U V X Y Z a0 a1 a2 a3 a4 a5 u z A2 c d g Z6 Z7 Z8 Z9) iN⟩:St)=_
      rw [e0,Int.sub_zero]
     exact Nat.lt_of_le_of_lt (Nat.le_of_eq (m:=3001) (by kernel_rfl)) (Nat.lt_of_lt_of_eq (show 3001<(L-y4).toNat+3002 by omega) (by kernel_rfl))
theorem evc1 (x0:Ext) (x1:Ext) (x2:Ext) (F J K L y4 y5 y6 y7 y8 y9 a6 a7 a8 a9 b4 b5 b6 b7 b8 b9 c0 M N O P Q T U V X Y Z a0 a1 a2 a3 a4 a5:Int) (u z A2 c d g Z6 Z7 Z8 Z9:Nat→Int) (hB:aAo x0 x1 x2 F J K L u z A2 c d g) (hJ:eJ1 F J K L y4 y5 y6 y7 y8 y9 a6 a7 a8 a9 b4 b5 b6 b7 b8 b9 c0 M N O P Q T U V X Y Z a0 a1 a2 a3 a4 a5 u z A2 c d g Z6 Z7 Z8 Z9) (hH:Hyp.ok eh1.H (eV x0 x1 x2 F J K L y4 y5 y6 y7 y8 y9 a6 a7 a8 a9 b4 b5 b6 b7 b8 b9 c0 M N O P Q T U V X Y Z a0 a1 a2 a3 a4 a5 u z A2 c d g Z6 Z7 Z8 Z9)) :
 LT.holds (eV x0 x1 x2 F J K L y4 y5 y6 y7 y8 y9 a6 a7 a8 a9 b4 b5 b6 b7 b8 b9 c0 M N O P Q T U V X Y Z a0 a1 a2 a3 a4 a5 u z A2 c d g Z6 Z7 Z8 Z9) (fun v _=>iM (eV x0 x1 x2 F J K L y4 y5 y6 y7 y8 y9 a6 a7 a8 a9 b4 b5 b6 b7 b8 b9 c0 M N O P Q T U V X Y Z a0 a1 a2 a3 a4 a5 u z A2 c d g Z6 Z7 Z8 Z9) v) (fun j' todo ρ'=>(ehs[j']?.map (·.todo))=some todo∧bIB x0 x1 x2 j' ρ'∧emu j' ρ'<emu 1 (eV x0 x1 x2 F J K L y4 y5 y6 y7 y8 y9 a6 a7 a8 a9 b4 b5 b6 b7 b8 b9 c0 M N O P Q T U V X Y Z a0 a1 a2 a3 a4 a5 u z A2 c d g Z6 Z7 Z8 Z9)) (.ite e235 (.jump 1 eT1 ⟨[(37,bDG),(36,bDH),(35,bDI),(34,bDJ),(33,bDK),(32,bDL),(31,bDM),(30,bDN),(29,bDO),(28,bDP),(27,bDQ),(26,bDR),(25,bDS),(24,bDT),(23,bDU),(22,bDV),(21,bOO)],[],[(9,bDW),(8,bDX)]⟩) (.ite bIy (.ret (.s (.bool e456)) []) (.ret (.s (.bool (.blit false))) []))):=by
 simp only [LT.holds,iM]
 refine ⟨fun f3=>?_,fun f3=>?_⟩
 ·
   refine ⟨ehT1,⟨F,J,K,L,y4,y5,y6,y7,y8,y9,a6,a7,a8,a9,b4,b5,b6,b7,b8,b9,c0,(E.i (eV x0 x1 x2 F J K L y4 y5 y6 y7 y8 y9 a6 a7 a8 a9 b4 b5 b6 b7 b8 b9 c0 M N O P Q T U V X Y Z a0 a1 a2 a3 a4 a5 u z A2 c d g Z6 Z7 Z8 Z9) bOO),(E.i (eV x0 x1 x2 F J K L y4 y5 y6 y7 y8 y9 a6 a7 a8 a9 b4 b5 b6 b7 b8 b9 c0 M N O P Q T U V X Y Z a0 a1 a2 a3 a4 a5 u z A2 c d g Z6 Z7 Z8 Z9) bDV),(E.i (eV x0 x1 x2 F J K L y4 y5 y6 y7 y8 y9 a6 a7 a8 a9 b4 b5 b6 b7 b8 b9 c0 M N O P Q T U V X Y Z a0 a1 a2 a3 a4 a5 u z A2 c d g Z6 Z7 Z8 Z9) bDU),(E.i (eV x0 x1 x2 F J K L y4 y5 y6 y7 y8 y9 a6 a7 a8 a9 b4 b5 b6 b7 b8 b9 c0 M N O P Q T U V X Y Z a0 a1 a2 a3 a4 a5 u z A2 c d g Z6 Z7 Z8 Z9) bDT),(E.i (eV x0 x1 x2 F J K L y4 y5 y6 y7 y8 y9 a6 a7 a8 a9 b4 b5 b6 b7 b8 b9 c0 M N O P Q T U V X Y Z a0 a1 a2 a3 a4 a5 u z A2 c d g Z6 Z7 Z8 Z9) bDS),(E.i (eV x0 x1 x2 F J K L y4 y5 y6 y7 y8 y9 a6 a7 a8 a9 b4 b5 b6 b7 b8 b9 c0 M N O P Q T U V X Y Z a0 a1 a2 a3 a4 a5 u z A2 c d g Z6 Z7 Z8 Z9) bDR),(E.i (eV x0 x1 x2 F J K L y4 y5 y6 y7 y8 y9 a6 a7 a8 a9 b4 b5 b6 b7 b8 b9 c0 M N O P Q T U V X Y Z a0 a1 a2 a3 a4 a5 u z A2 c d g Z6 Z7 Z8 Z9) bDQ),(E.i (eV x0 x1 x2 F J K L y4 y5 y6 y7 y8 y9 a6 a7 a8 a9 b4 b5 b6 b7 b8 b9 c0 M N O P Q T U V X Y Z a0 a1 a2 a3 a4 a5 u z A2 c d g Z6 Z7 Z8 Z9) bDP),(E.i (eV x0 x1 x2 F J K L y4 y5 y6 y7 y8 y9 a6 a7 a8 a9 b4 b5 b6 b7 b8 b9 c0 M N O P Q T U V X Y Z a0 a1 a2 a3 a4 a5 u z A2 c d g Z6 Z7 Z8 Z9) bDO),(E.i (eV x0 x1 x2 F J K L y4 y5 y6 y7 y8 y9 a6 a7 a8 a9 b4 b5 b6 b7 b8 b9 c0 M N O P Q T U V X Y Z a0 a1 a2 a3 a4 a5 u z A2 c d g Z6 Z7 Z8 Z9) bDN),(E.i (eV x0 x1 x2 F J K L y4 y5 y6 y7 y8 y9 a6 a7 a8 a9 b4 b5 b6 b7 b8 b9 c0 M N O P Q T U V X Y Z a0 a1 a2 a3 a4 a5 u z A2 c d g Z6 Z7 Z8 Z9) bDM),(E.i (eV x0 x1 x2 F J K L y4 y5 y6 y7 y8 y9 a6 a7 a8 a9 b4 b5 b6 b7 b8 b9 c0 M N O P Q T U V X Y Z a0 a1 a2 a3 a4 a5 u z A2 c d g Z6 Z7 Z8 Z9) bDL),(E.i (eV x0 x1 x2 F J K L y4 y5 y6 y7 y8 y9 a6 a7 a8 a9 b4 b5 b6 b7 b8 b9 c0 M N O P Q T U V X Y Z a0 a1 a2 a3 a4 a5 u z A2 c d g Z6 Z7 Z8 Z9) bDK),(E.i (eV x0 x1 x2 F J K L y4 y5 y6 y7 y8 y9 a6 a7 a8 a9 b4 b5 b6 b7 b8 b9 c0 M N O P Q T U V X Y Z a0 a1 a2 a3 a4 a5 u z A2 c d g Z6 Z7 Z8 Z9) bDJ),(E.i (eV x0 x1 x2 F J K L y4 y5 y6 y7 y8 y9 a6 a7 a8 a9 b4 b5 b6 b7 b8 b9 c0 M N O P Q T U V X Y Z a0 a1 a2 a3 a4 a5 u z A2 c d g Z6 Z7 Z8 Z9) bDI),(E.i (eV x0 x1 x2 F J K L y4 y5 y6 y7 y8 y9 a6 a7 a8 a9 b4 b5 b6 b7 b8 b9 c0 M N O P Q T U V X Y Z a0 a1 a2 a3 a4 a5 u z A2 c d g Z6 Z7 Z8 Z9) bDH),(E.i (eV x0 x1 x2 F J K L y4 y5 y6 y7 y8 y9 a6 a7 a8 a9 b4 b5 b6 b7 b8 b9 c0 M N O P Q T U V X Y Z a0 a1 a2 a3 a4 a5 u z A2 c d g Z6 Z7 Z8 Z9) bDG),u,z,A2,c,d,g,Z6,Z7,(E.a (eV x0 x1 x2 F J K L y4 y5 y6 y7 y8 y9 a6 a7 a8 a9 b4 b5 b6 b7 b8 b9 c0 M N O P Q T U V X Y Z a0 a1 a2 a3 a4 a5 u z A2 c d g Z6 Z7 Z8 Z9) bDX),(E.a (eV x0 x1 x2 F J K L y4 y5 y6 y7 y8 y9 a6 a7 a8 a9 b4 b5 b6 b7 b8 b9 c0 M N O P Q T U V X Y Z a0 a1 a2 a3 a4 a5 u z A2 c d g Z6 Z7 Z8 Z9) bDW),(by kernel_rfl),hB,?_⟩,?_⟩
   ·have f0:=hJ
    simp only [eJ1] at f0
    obtain ⟨l4,l5,l6,l7,l8,l9,i0,i1,i2,i3,i4,i5,i6,i7,i8,i9,j0,p6,j1,j2,j3,j4,j5,j6,j7,j8,j9,k3,k4,k5,k6,k7,k8,k9,m6,m7,m8,m9,hk,hk2x,_⟩:=f0
    have f4:E.i (eV x0 x1 x2 F J K L y4 y5 y6 y7 y8 y9 a6 a7 a8 a9 b4 b5 b6 b7 b8 b9 c0 M N O P Q T U V X Y Z a0 a1 a2 a3 a4 a5 u z A2 c d g Z6 Z7 Z8 Z9) kM=zK (A2 1):=by
     show (E.i (eV x0 x1 x2 F J K L y4 y5 y6 y7 y8 y9 a6 a7 a8 a9 b4 b5 b6 b7 b8 b9 c0 M N O P Q T U V X Y Z a0 a1 a2 a3 a4 a5 u z A2 c d g Z6 Z7 Z8 Z9) aIh)%3001=_
     rw [show E.i (eV x0 x1 x2 F J K L y4 y5 y6 y7 y8 y9 a6 a7 a8 a9 b4 b5 b6 b7 b8 b9 c0 M N O P Q T U V X Y Z a0 a1 a2 a3 a4 a5 u z A2 c d g Z6 Z7 Z8 Z9) aIh=if E.b (eV x0 x1 x2 F J K L y4 y5 y6 y7 y8 y9 a6 a7 a8 a9 b4 b5 b6 b7 b8 b9 c0 M N O P Q T U V X Y Z a0 a1 a2 a3 a4 a5 u z A2 c d g Z6 Z7 Z8 Z9) bDF then 1 else A2 1 from aQ _ _ _ _]
     show (if (decide _||decide _)=true then (1:Int) else A2 1)%3001=zK (A2 1)
     simp only [Bool.or_eq_true,decide_eq_true_eq,zK]
     rfl
    have hF:IvF ((eV x0 x1 x2 F J K L y4 y5 y6 y7 y8 y9 a6 a7 a8 a9 b4 b5 b6 b7 b8 b9 c0 M N O P Q T U V X Y Z a0 a1 a2 a3 a4 a5 u z A2 c d g Z6 Z7 Z8 Z9)).I:=⟨rfl,rfl,rfl⟩
    have hg:M<zK (A2 1):=by
     rw [← f4];exact of_decide_eq_true f3
    have hz:=aWt (A2 1)
    have hs:(stE (eV x0 x1 x2 F J K L y4 y5 y6 y7 y8 y9 a6 a7 a8 a9 b4 b5 b6 b7 b8 b9 c0 M N O P Q T U V X Y Z a0 a1 a2 a3 a4 a5 u z A2 c d g Z6 Z7 Z8 Z9) [.v 22,.v 23,.v 24,.v 25,.v 26,.v 27,.v 28,.v 29,.v 30,.v 31,.v 32,.v 33,.v 34,.v 35,.v 36,.v 37] (.av 8) (.av 9)).ok:=St.bAa j1 j2 j3 j4 j5 j6 j7 j8 j9 k3 k4 k5 k6 k7 k8 k9 m8 m9
    have q:=mC (eV x0 x1 x2 F J K L y4 y5 y6 y7 y8 y9 a6 a7 a8 a9 b4 b5 b6 b7 b8 b9 c0 M N O P Q T U V X Y Z a0 a1 a2 a3 a4 a5 u z A2 c d g Z6 Z7 Z8 Z9) hF (.lit 1) [.v 22,.v 23,.v 24,.v 25,.v 26,.v 27,.v 28,.v 29,.v 30,.v 31,.v 32,.v 33,.v 34,.v 35,.v 36,.v 37] rfl e9 (.av 8) (.av 9) hs
    rw [show E.a (eV x0 x1 x2 F J K L y4 y5 y6 y7 y8 y9 a6 a7 a8 a9 b4 b5 b6 b7 b8 b9 c0 M N O P Q T U V X Y Z a0 a1 a2 a3 a4 a5 u z A2 c d g Z6 Z7 Z8 Z9) e9=(zR F J K u z) from jE _ _] at q
    have q2:(⟨[E.i (eV x0 x1 x2 F J K L y4 y5 y6 y7 y8 y9 a6 a7 a8 a9 b4 b5 b6 b7 b8 b9 c0 M N O P Q T U V X Y Z a0 a1 a2 a3 a4 a5 u z A2 c d g Z6 Z7 Z8 Z9) bDV,E.i (eV x0 x1 x2 F J K L y4 y5 y6 y7 y8 y9 a6 a7 a8 a9 b4 b5 b6 b7 b8 b9 c0 M N O P Q T U V X Y Z a0 a1 a2 a3 a4 a5 u z A2 c d g Z6 Z7 Z8 Z9) bDU,E.i (eV x0 x1 x2 F J K L y4 y5 y6 y7 y8 y9 a6 a7 a8 a9 b4 b5 b6 b7 b8 b9 c0 M N O P Q T U V X Y Z a0 a1 a2 a3 a4 a5 u z A2 c d g Z6 Z7 Z8 Z9) bDT,E.i (eV x0 x1 x2 F J K L y4 y5 y6 y7 y8 y9 a6 a7 a8 a9 b4 b5 b6 b7 b8 b9 c0 M N O P Q T U V X Y Z a0 a1 a2 a3 a4 a5 u z A2 c d g Z6 Z7 Z8 Z9) bDS,E.i (eV x0 x1 x2 F J K L y4 y5 y6 y7 y8 y9 a6 a7 a8 a9 b4 b5 b6 b7 b8 b9 c0 M N O P Q T U V X Y Z a0 a1 a2 a3 a4 a5 u z A2 c d g Z6 Z7 Z8 Z9) bDR,E.i (eV x0 x1 x2 F J K L y4 y5 y6 y7 y8 y9 a6 a7 a8 a9 b4 b5 b6 b7 b8 b9 c0 M N O P Q T U V X Y Z a0 a1 a2 a3 a4 a5 u z A2 c d g Z6 Z7 Z8 Z9) bDQ,E.i (eV x0 x1 x2 F J K L y4 y5 y6 y7 y8 y9 a6 a7 a8 a9 b4 b5 b6 b7 b8 b9 c0 M N O P Q T U V X Y Z a0 a1 a2 a3 a4 a5 u z A2 c d g Z6 Z7 Z8 Z9) bDP,E.i (eV x0 x1 x2 F J K L y4 y5 y6 y7 y8 y9 a6 a7 a8 a9 b4 b5 b6 b7 b8 b9 c0 M N O P Q T U V X Y Z a0 a1 a2 a3 a4 a5 u z A2 c d g Z6 Z7 Z8 Z9) bDO,E.i (eV x0 x1 x2 F J K L y4 y5 y6 y7 y8 y9 a6 a7 a8 a9 b4 b5 b6 b7 b8 b9 c0 M N O P Q T U V X Y Z a0 a1 a2 a3 a4 a5 u z A2 c d g Z6 Z7 Z8 Z9) bDN,E.i (eV x0 x1 x2 F J K L y4 y5 y6 y7 y8 y9 a6 a7 a8 a9 b4 b5 b6 b7 b8 b9 c0 M N O P Q T U V X Y Z a0 a1 a2 a3 a4 a5 u z A2 c d g Z6 Z7 Z8 Z9) bDM,E.i (eV x0 x1 x2 F J K L y4 y5 y6 y7 y8 y9 a6 a7 a8 a9 b4 b5 b6 b7 b8 b9 c0 M N O P Q T U V X Y Z a0 a1 a2 a3 a4 a5 u z A2 c d g Z6 Z7 Z8 Z9) bDL,E.i (eV x0 x1 x2 F J K L y4 y5 y6 y7 y8 y9 a6 a7 a8 a9 b4 b5 b6 b7 b8 b9 c0 M N O P Q T U V X Y Z a0 a1 a2 a3 a4 a5 u z A2 c d g Z6 Z7 Z8 Z9) bDK,E.i (eV x0 x1 x2 F J K L y4 y5 y6 y7 y8 y9 a6 a7 a8 a9 b4 b5 b6 b7 b8 b9 c0 M N O P Q T U V X Y Z a0 a1 a2 a3 a4 a5 u z A2 c d g Z6 Z7 Z8 Z9) bDJ,E.i (eV x0 x1 x2 F J K L y4 y5 y6 y7 y8 y9 a6 a7 a8 a9 b4 b5 b6 b7 b8 b9 c0 M N O P Q T U V X Y Z a0 a1 a2 a3 a4 a5 u z A2 c d g Z6 Z7 Z8 Z9) bDI,E.i (eV x0 x1 x2 F J K L y4 y5 y6 y7 y8 y9 a6 a7 a8 a9 b4 b5 b6 b7 b8 b9 c0 M N O P Q T U V X Y Z a0 a1 a2 a3 a4 a5 u z A2 c d g Z6 Z7 Z8 Z9) bDH,E.i (eV x0 x1 x2 F J K L y4 y5 y6 y7 y8 y9 a6 a7 a8 a9 b4 b5 b6 b7 b8 b9 c0 M N O P Q T U V X Y Z a0 a1 a2 a3 a4 a5 u z A2 c d g Z6 Z7 Z8 Z9) bDG],E.a (eV x0 x1 x2 F J K L y4 y5 y6 y7 y8 y9 a6 a7 a8 a9 b4 b5 b6 b7 b8 b9 c0 M N O P Q T U V X Y Z a0 a1 a2 a3 a4 a5 u z A2 c d g Z6 Z7 Z8 Z9) bDX,E.a (eV x0 x1 x2 F J K L y4 y5 y6 y7 y8 y9 a6 a7 a8 a9 b4 b5 b6 b7 b8 b9 c0 M N O P Q T U V X Y Z a0 a1 a2 a3 a4 a5 u z A2 c d g Z6 Z7 Z8 Z9) bDW⟩:St)=st1 (zR F J K u z) (⟨[N,O,P,Q,T,U,V,X,Y,Z,a0,a1,a2,a3,a4,a5],Z8,Z9⟩:St):=q
    refine ⟨l4,l5,l6,l7,l8,l9,i0,i1,i2,i3,i4,i5,i6,i7,i8,i9,j0,(show 0≤M+1∧M+1≤3000 by omega),(aM hH (by kernel_rfl)),(aM hH (by kernel_rfl)),(aM hH (by kernel_rfl)),(aM hH (by kernel_rfl)),(aM hH (by kernel_rfl)),(aM hH (by kernel_rfl)),(aM hH (by kernel_rfl)),(aM hH (by kernel_rfl)),(aM hH (by kernel_rfl)),(aM hH (by kernel_rfl)),(aM hH (by kernel_rfl)),(aM hH (by kernel_rfl)),(aM hH (by kernel_rfl)),(aM hH (by kernel_rfl)),(aM hH (by kernel_rfl)),(aM hH (by kernel_rfl)),m6,m7,(pQ hH (by kernel_rfl)),(pQ hH (by kernel_rfl)),(show M+1≤zK (A2 1) by omega),?_,trivial⟩
    show stN _ (zK (A2 1)-(M+1)).toNat (⟨[E.i (eV x0 x1 x2 F J K L y4 y5 y6 y7 y8 y9 a6 a7 a8 a9 b4 b5 b6 b7 b8 b9 c0 M N O P Q T U V X Y Z a0 a1 a2 a3 a4 a5 u z A2 c d g Z6 Z7 Z8 Z9) bDV,E.i (eV x0 x1 x2 F J K L y4 y5 y6 y7 y8 y9 a6 a7 a8 a9 b4 b5 b6 b7 b8 b9 c0 M N O P Q T U V X Y Z a0 a1 a2 a3 a4 a5 u z A2 c d g Z6 Z7 Z8 Z9) bDU,E.i (eV x0 x1 x2 F J K L y4 y5 y6 y7 y8 y9 a6 a7 a8 a9 b4 b5 b6 b7 b8 b9 c0 M N O P Q T U V X Y Z a0 a1 a2 a3 a4 a5 u z A2 c d g Z6 Z7 Z8 Z9) bDT,E.i (eV x0 x1 x2 F J K L y4 y5 y6 y7 y8 y9 a6 a7 a8 a9 b4 b5 b6 b7 b8 b9 c0 M N O P Q T U V X Y Z a0 a1 a2 a3 a4 a5 u z A2 c d g Z6 Z7 Z8 Z9) bDS,E.i (eV x0 x1 x2 F J K L y4 y5 y6 y7 y8 y9 a6 a7 a8 a9 b4 b5 b6 b7 b8 b9 c0 M N O P Q T U V X Y Z a0 a1 a2 a3 a4 a5 u z A2 c d g Z6 Z7 Z8 Z9) bDR,E.i (eV x0 x1 x2 F J K L y4 y5 y6 y7 y8 y9 a6 a7 a8 a9 b4 b5 b6 b7 b8 b9 c0 M N O P Q T U V X Y Z a0 a1 a2 a3 a4 a5 u z A2 c d g Z6 Z7 Z8 Z9) bDQ,E.i (eV x0 x1 x2 F J K L y4 y5 y6 y7 y8 y9 a6 a7 a8 a9 b4 b5 b6 b7 b8 b9 c0 M N O P Q T U V X Y Z a0 a1 a2 a3 a4 a5 u z A2 c d g Z6 Z7 Z8 Z9) bDP,E.i (eV x0 x1 x2 F J K L y4 y5 y6 y7 y8 y9 a6 a7 a8 a9 b4 b5 b6 b7 b8 b9 c0 M N O P Q T U V X Y Z a0 a1 a2 a3 a4 a5 u z A2 c d g Z6 Z7 Z8 Z9) bDO,E.i (eV x0 x1 x2 F J K L y4 y5 y6 y7 y8 y9 a6 a7 a8 a9 b4 b5 b6 b7 b8 b9 c0 M N O P Q T U V X Y Z a0 a1 a2 a3 a4 a5 u z A2 c d g Z6 Z7 Z8 Z9) bDN,E.i (eV x0 x1 x2 F J K L y4 y5 y6 y7 y8 y9 a6 a7 a8 a9 b4 b5 b6 b7 b8 b9 c0 M N O P Q T U V X Y Z a0 a1 a2 a3 a4 a5 u z A2 c d g Z6 Z7 Z8 Z9) bDM,E.i (eV x0 x1 x2 F J K L y4 y5 y6 y7 y8 y9 a6 a7 a8 a9 b4 b5 b6 b7 b8 b9 c0 M N O P Q T U V X Y Z a0 a1 a2 a3 a4 a5 u z A2 c d g Z6 Z7 Z8 Z9) bDL,E.i (eV x0 x1 x2 F J K L y4 y5 y6 y7 y8 y9 a6 a7 a8 a9 b4 b5 b6 b7 b8 b9 c0 M N O P Q T U V X Y Z a0 a1 a2 a3 a4 a5 u z A2 c d g Z6 Z7 Z8 Z9) bDK,E.i (eV x0 x1 x2 F J K L y4 y5 y6 y7 y8 y9 a6 a7 a8 a9 b4 b5 b6 b7 b8 b9 c0 M N O P Q T U V X Y Z a0 a1 a2 a3 a4 a5 u z A2 c d g Z6 Z7 Z8 Z9) bDJ,E.i (eV x0 x1 x2 F J K L y4 y5 y6 y7 y8 y9 a6 a7 a8 a9 b4 b5 b6 b7 b8 b9 c0 M N O P Q T U V X Y Z a0 a1 a2 a3 a4 a5 u z A2 c d g Z6 Z7 Z8 Z9) bDI,E.i (eV x0 x1 x2 F J K L y4 y5 y6 y7 y8 y9 a6 a7 a8 a9 b4 b5 b6 b7 b8 b9 c0 M N O P Q T U V X Y Z a0 a1 a2 a3 a4 a5 u z A2 c d g Z6 Z7 Z8 Z9) bDH,E.i (eV x0 x1 x2 F J K L y4 y5 y6 y7 y8 y9 a6 a7 a8 a9 b4 b5 b6 b7 b8 b9 c0 M N O P Q T U V X Y Z a0 a1 a2 a3 a4 a5 u z A2 c d g Z6 Z7 Z8 Z9) bDG],E.a (eV x0 x1 x2 F J K L y4 y5 y6 y7 y8 y9 a6 a7 a8 a9 b4 b5 b6 b7 b8 b9 c0 M N O P Q T U V X Y Z a0 a1 a2 a3 a4 a5 u z A2 c d g Z6 Z7 Z8 Z9) bDX,E.a (eV x0 x1 x2 F J K L y4 y5 y6 y7 y8 y9 a6 a7 a8 a9 b4 b5 b6 b7 b8 b9 c0 M N O P Q T U V X Y Z a0 a1 a2 a3 a4 a5 u z A2 c d g Z6 Z7 Z8 Z9) bDW⟩:St)=_
    rw [q2,← zRk hg]
    exact hk2x
   have f4:E.i (eV x0 x1 x2 F J K L y4 y5 y6 y7 y8 y9 a6 a7 a8 a9 b4 b5 b6 b7 b8 b9 c0 M N O P Q T U V X Y Z a0 a1 a2 a3 a4 a5 u z A2 c d g Z6 Z7 Z8 Z9) kM=zK (A2 1):=by
    show (E.i (eV x0 x1 x2 F J K L y4 y5 y6 y7 y8 y9 a6 a7 a8 a9 b4 b5 b6 b7 b8 b9 c0 M N O P Q T U V X Y Z a0 a1 a2 a3 a4 a5 u z A2 c d g Z6 Z7 Z8 Z9) aIh)%3001=_
    rw [show E.i (eV x0 x1 x2 F J K L y4 y5 y6 y7 y8 y9 a6 a7 a8 a9 b4 b5 b6 b7 b8 b9 c0 M N O P Q T U V X Y Z a0 a1 a2 a3 a4 a5 u z A2 c d g Z6 Z7 Z8 Z9) aIh=if E.b (eV x0 x1 x2 F J K L y4 y5 y6 y7 y8 y9 a6 a7 a8 a9 b4 b5 b6 b7 b8 b9 c0 M N O P Q T U V X Y Z a0 a1 a2 a3 a4 a5 u z A2 c d g Z6 Z7 Z8 Z9) bDF then 1 else A2 1 from aQ _ _ _ _]
    show (if (decide _||decide _)=true then (1:Int) else A2 1)%3001=zK (A2 1)
    simp only [Bool.or_eq_true,decide_eq_true_eq,zK]
    rfl
   have hg:M<zK (A2 1):=by
    rw [← f4];exact of_decide_eq_true f3
   have hz:=aWt (A2 1)
   exact Nat.lt_of_le_of_lt (Nat.le_of_eq (m:=(3001-(M+1)).toNat) (by kernel_rfl)) (Nat.lt_of_lt_of_eq (show (3001-(M+1)).toNat<(3001-M).toNat by omega) (by kernel_rfl))
 ·
   refine ⟨fun g5=>?_,fun g5=>?_⟩
   ·
     have f0:=hJ
     simp only [eJ1] at f0
     obtain ⟨l4,l5,l6,l7,l8,l9,i0,i1,i2,i3,i4,i5,i6,i7,i8,i9,j0,p6,j1,j2,j3,j4,j5,j6,j7,j8,j9,k3,k4,k5,k6,k7,k8,k9,m6,m7,m8,m9,hk,hk2x,_⟩:=f0
     have hF:IvF ((eV x0 x1 x2 F J K L y4 y5 y6 y7 y8 y9 a6 a7 a8 a9 b4 b5 b6 b7 b8 b9 c0 M N O P Q T U V X Y Z a0 a1 a2 a3 a4 a5 u z A2 c d g Z6 Z7 Z8 Z9)).I:=⟨rfl,rfl,rfl⟩
     have hR:E.a (eV x0 x1 x2 F J K L y4 y5 y6 y7 y8 y9 a6 a7 a8 a9 b4 b5 b6 b7 b8 b9 c0 M N O P Q T U V X Y Z a0 a1 a2 a3 a4 a5 u z A2 c d g Z6 Z7 Z8 Z9) e9=(zR F J K u z):=jE _ _
     have g6:E.i (eV x0 x1 x2 F J K L y4 y5 y6 y7 y8 y9 a6 a7 a8 a9 b4 b5 b6 b7 b8 b9 c0 M N O P Q T U V X Y Z a0 a1 a2 a3 a4 a5 u z A2 c d g Z6 Z7 Z8 Z9) e7=zK (A2 0):=by
      show (E.i (eV x0 x1 x2 F J K L y4 y5 y6 y7 y8 y9 a6 a7 a8 a9 b4 b5 b6 b7 b8 b9 c0 M N O P Q T U V X Y Z a0 a1 a2 a3 a4 a5 u z A2 c d g Z6 Z7 Z8 Z9) e6)%3001=_
      rw [show E.i (eV x0 x1 x2 F J K L y4 y5 y6 y7 y8 y9 a6 a7 a8 a9 b4 b5 b6 b7 b8 b9 c0 M N O P Q T U V X Y Z a0 a1 a2 a3 a4 a5 u z A2 c d g Z6 Z7 Z8 Z9) e6=if E.b (eV x0 x1 x2 F J K L y4 y5 y6 y7 y8 y9 a6 a7 a8 a9 b4 b5 b6 b7 b8 b9 c0 M N O P Q T U V X Y Z a0 a1 a2 a3 a4 a5 u z A2 c d g Z6 Z7 Z8 Z9) e5 then 1 else A2 0 from aQ _ _ _ _]
      show (if (decide _||decide _)=true then (1:Int) else A2 0)%3001=zK (A2 0)
      simp only [Bool.or_eq_true,decide_eq_true_eq,zK]
      rfl
     have q1:aUd e7 [(.lit 0),(.lit 0),(.lit 0),(.lit 0),(.lit 0),(.lit 0),(.lit 0),(.lit 0),(.lit 0),(.lit 0),(.lit 0),(.lit 0),(.lit 0),(.lit 0),(.lit 0),(.lit 0)] e9 (.tab []) (.tab []) (eV x0 x1 x2 F J K L y4 y5 y6 y7 y8 y9 a6 a7 a8 a9 b4 b5 b6 b7 b8 b9 c0 M N O P Q T U V X Y Z a0 a1 a2 a3 a4 a5 u z A2 c d g Z6 Z7 Z8 Z9)=(stN (zR F J K u z) (zK (A2 0)).toNat z0):=by
      rw [mC (eV x0 x1 x2 F J K L y4 y5 y6 y7 y8 y9 a6 a7 a8 a9 b4 b5 b6 b7 b8 b9 c0 M N O P Q T U V X Y Z a0 a1 a2 a3 a4 a5 u z A2 c d g Z6 Z7 Z8 Z9) hF _ _ rfl _ _ _ (by rw [aAI];exact aHw),aAI,hR,g6]
     have p1:=aEj (zR F J K u z) z0 bAW (zK (A2 0)).toNat
     rw [← q1] at p1
     have f4:E.i (eV x0 x1 x2 F J K L y4 y5 y6 y7 y8 y9 a6 a7 a8 a9 b4 b5 b6 b7 b8 b9 c0 M N O P Q T U V X Y Z a0 a1 a2 a3 a4 a5 u z A2 c d g Z6 Z7 Z8 Z9) kM=zK (A2 1):=by
      show (E.i (eV x0 x1 x2 F J K L y4 y5 y6 y7 y8 y9 a6 a7 a8 a9 b4 b5 b6 b7 b8 b9 c0 M N O P Q T U V X Y Z a0 a1 a2 a3 a4 a5 u z A2 c d g Z6 Z7 Z8 Z9) aIh)%3001=_
      rw [show E.i (eV x0 x1 x2 F J K L y4 y5 y6 y7 y8 y9 a6 a7 a8 a9 b4 b5 b6 b7 b8 b9 c0 M N O P Q T U V X Y Z a0 a1 a2 a3 a4 a5 u z A2 c d g Z6 Z7 Z8 Z9) aIh=if E.b (eV x0 x1 x2 F J K L y4 y5 y6 y7 y8 y9 a6 a7 a8 a9 b4 b5 b6 b7 b8 b9 c0 M N O P Q T U V X Y Z a0 a1 a2 a3 a4 a5 u z A2 c d g Z6 Z7 Z8 Z9) bDF then 1 else A2 1 from aQ _ _ _ _]
      show (if (decide _||decide _)=true then (1:Int) else A2 1)%3001=zK (A2 1)
      simp only [Bool.or_eq_true,decide_eq_true_eq,zK]
      rfl
     have hg:¬ M<zK (A2 1):=by
      rw [← f4];exact of_decide_eq_false f3
     have p5:(stE (eV x0 x1 x2 F J K L y4 y5 y6 y7 y8 y9 a6 a7 a8 a9 b4 b5 b6 b7 b8 b9 c0 M N O P Q T U V X Y Z a0 a1 a2 a3 a4 a5 u z A2 c d g Z6 Z7 Z8 Z9) [lC,lD,lE,lF,lG,lH,lI,lJ,lK,lL,lM,lN,lO,lP,lQ,lR] lS iN)=(stN (zR F J K u z) (zK (A2 0)).toNat z0):=by
      rw [← q1]
      simp only [stE,List.map_cons,List.map_nil,bOt,iN,lC,lD,lE,lF,lG,lH,lI,lJ,lK,lL,lM,lN,lO,lP,lQ,lR,lS,e87,aR,aC,Int.add_zero,jE]
      rfl
     have q:=mC (eV x0 x1 x2 F J K L y4 y5 y6 y7 y8 y9 a6 a7 a8 a9 b4 b5 b6 b7 b8 b9 c0 M N O P Q T U V X Y Z a0 a1 a2 a3 a4 a5 u z A2 c d g Z6 Z7 Z8 Z9) hF kM [lC,lD,lE,lF,lG,lH,lI,lJ,lK,lL,lM,lN,lO,lP,lQ,lR] rfl e9 lS iN (by rw [p5];exact aAe _ _ aHw _)
     rw [p5,f4,show E.a (eV x0 x1 x2 F J K L y4 y5 y6 y7 y8 y9 a6 a7 a8 a9 b4 b5 b6 b7 b8 b9 c0 M N O P Q T U V X Y Z a0 a1 a2 a3 a4 a5 u z A2 c d g Z6 Z7 Z8 Z9) e9=(zR F J K u z) from jE _ _] at q
     rw [show (zK (A2 1)-M).toNat=0 by omega,← q] at hk2x
     have hl:=(St.gl (show (⟨[N,O,P,Q,T,U,V,X,Y,Z,a0,a1,a2,a3,a4,a5],Z8,Z9⟩:St)=(⟨[E.i (eV x0 x1 x2 F J K L y4 y5 y6 y7 y8 y9 a6 a7 a8 a9 b4 b5 b6 b7 b8 b9 c0 M N O P Q T U V X Y Z a0 a1 a2 a3 a4 a5 u z A2 c d g Z6 Z7 Z8 Z9) aSM,E.i (eV x0 x1 x2 F J K L y4 y5 y6 y7 y8 y9 a6 a7 a8 a9 b4 b5 b6 b7 b8 b9 c0 M N O P Q T U V X Y Z a0 a1 a2 a3 a4 a5 u z A2 c d g Z6 Z7 Z8 Z9) aSN,E.i (eV x0 x1 x2 F J K L y4 y5 y6 y7 y8 y9 a6 a7 a8 a9 b4 b5 b6 b7 b8 b9 c0 M N O P Q T U V X Y Z a0 a1 a2 a3 a4 a5 u z A2 c d g Z6 Z7 Z8 Z9) aSO,E.i (eV x0 x1 x2 F J K L y4 y5 y6 y7 y8 y9 a6 a7 a8 a9 b4 b5 b6 b7 b8 b9 c0 M N O P Q T U V X Y Z a0 a1 a2 a3 a4 a5 u z A2 c d g Z6 Z7 Z8 Z9) aSP,E.i (eV x0 x1 x2 F J K L y4 y5 y6 y7 y8 y9 a6 a7 a8 a9 b4 b5 b6 b7 b8 b9 c0 M N O P Q T U V X Y Z a0 a1 a2 a3 a4 a5 u z A2 c d g Z6 Z7 Z8 Z9) aSQ,E.i (eV x0 x1 x2 F J K L y4 y5 y6 y7 y8 y9 a6 a7 a8 a9 b4 b5 b6 b7 b8 b9 c0 M N O P Q T U V X Y Z a0 a1 a2 a3 a4 a5 u z A2 c d g Z6 Z7 Z8 Z9) aUK,E.i (eV x0 x1 x2 F J K L y4 y5 y6 y7 y8 y9 a6 a7 a8 a9 b4 b5 b6 b7 b8 b9 c0 M N O P Q T U V X Y Z a0 a1 a2 a3 a4 a5 u z A2 c d g Z6 Z7 Z8 Z9) aSR,E.i (eV x0 x1 x2 F J K L y4 y5 y6 y7 y8 y9 a6 a7 a8 a9 b4 b5 b6 b7 b8 b9 c0 M N O P Q T U V X Y Z a0 a1 a2 a3 a4 a5 u z A2 c d g Z6 Z7 Z8 Z9) aSS,E.i (eV x0 x1 x2 F J K L y4 y5 y6 y7 y8 y9 a6 a7 a8 a9 b4 b5 b6 b7 b8 b9 c0 M N O P Q T U V X Y Z a0 a1 a2 a3 a4 a5 u z A2 c d g Z6 Z7 Z8 Z9) aST,E.i (eV x0 x1 x2 F J K L y4 y5 y6 y7 y8 y9 a6 a7 a8 a9 b4 b5 b6 b7 b8 b9 c0 M N O P Q T U V X Y Z a0 a1 a2 a3 a4 a5 u z A2 c d g Z6 Z7 Z8 Z9) bBk,E.i (eV x0 x1 x2 F J K L y4 y5 y6 y7 y8 y9 a6 a7 a8 a9 b4 b5 b6 b7 b8 b9 c0 M N O P Q T U V X Y Z a0 a1 a2 a3 a4 a5 u z A2 c d g Z6 Z7 Z8 Z9) bBl,E.i (eV x0 x1 x2 F J K L y4 y5 y6 y7 y8 y9 a6 a7 a8 a9 b4 b5 b6 b7 b8 b9 c0 M N O P Q T U V X Y Z a0 a1 a2 a3 a4 a5 u z A2 c d g Z6 Z7 Z8 Z9) aSU,E.i (eV x0 x1 x2 F J K L y4 y5 y6 y7 y8 y9 a6 a7 a8 a9 b4 b5 b6 b7 b8 b9 c0 M N O P Q T U V X Y Z a0 a1 a2 a3 a4 a5 u z A2 c d g Z6 Z7 Z8 Z9) aSV,E.i (eV x0 x1 x2 F J K L y4 y5 y6 y7 y8 y9 a6 a7 a8 a9 b4 b5 b6 b7 b8 b9 c0 M N O P Q T U V X Y Z a0 a1 a2 a3 a4 a5 u z A2 c d g Z6 Z7 Z8 Z9) aUL,E.i (eV x0 x1 x2 F J K L y4 y5 y6 y7 y8 y9 a6 a7 a8 a9 b4 b5 b6 b7 b8 b9 c0 M N O P Q T U V X Y Z a0 a1 a2 a3 a4 a5 u z A2 c d g Z6 Z7 Z8 Z9) aUM,E.i (eV x0 x1 x2 F J K L y4 y5 y6 y7 y8 y9 a6 a7 a8 a9 b4 b5 b6 b7 b8 b9 c0 M N O P Q T U V X Y Z a0 a1 a2 a3 a4 a5 u z A2 c d g Z6 Z7 Z8 Z9) bBm],E.a (eV x0 x1 x2 F J K L y4 y5 y6 y7 y8 y9 a6 a7 a8 a9 b4 b5 b6 b7 b8 b9 c0 M N O P Q T U V X Y Z a0 a1 a2 a3 a4 a5 u z A2 c d g Z6 Z7 Z8 Z9) aIi,E.a (eV x0 x1 x2 F J K L y4 y5 y6 y7 y8 y9 a6 a7 a8 a9 b4 b5 b6 b7 b8 b9 c0 M N O P Q T U V X Y Z a0 a1 a2 a3 a4 a5 u z A2 c d g Z6 Z7 Z8 Z9) aSW⟩:St) from hk2x))
     obtain ⟨hl,hS,hQ⟩:=hl
     simp only [List.cons.injEq,and_true] at hl
     obtain ⟨h0,h1,h2,h3,h4,h5,h6,h7,h8,h9,p9,q3,q4,q5,q6,q7⟩:=hl
     have w0:E.i (eV x0 x1 x2 F J K L y4 y5 y6 y7 y8 y9 a6 a7 a8 a9 b4 b5 b6 b7 b8 b9 c0 M N O P Q T U V X Y Z a0 a1 a2 a3 a4 a5 u z A2 c d g Z6 Z7 Z8 Z9) aSM=E.i (eV x0 x1 x2 F J K L y4 y5 y6 y7 y8 y9 a6 a7 a8 a9 b4 b5 b6 b7 b8 b9 c0 M N O P Q T U V X Y Z a0 a1 a2 a3 a4 a5 u z A2 c d g Z6 Z7 Z8 Z9) (.v 22):=h0.symm
     have w1:E.i (eV x0 x1 x2 F J K L y4 y5 y6 y7 y8 y9 a6 a7 a8 a9 b4 b5 b6 b7 b8 b9 c0 M N O P Q T U V X Y Z a0 a1 a2 a3 a4 a5 u z A2 c d g Z6 Z7 Z8 Z9) aSN=E.i (eV x0 x1 x2 F J K L y4 y5 y6 y7 y8 y9 a6 a7 a8 a9 b4 b5 b6 b7 b8 b9 c0 M N O P Q T U V X Y Z a0 a1 a2 a3 a4 a5 u z A2 c d g Z6 Z7 Z8 Z9) (.v 23):=h1.symm
     have w2:E.i (eV x0 x1 x2 F J K L y4 y5 y6 y7 y8 y9 a6 a7 a8 a9 b4 b5 b6 b7 b8 b9 c0 M N O P Q T U V X Y Z a0 a1 a2 a3 a4 a5 u z A2 c d g Z6 Z7 Z8 Z9) aSO=E.i (eV x0 x1 x2 F J K L y4 y5 y6 y7 y8 y9 a6 a7 a8 a9 b4 b5 b6 b7 b8 b9 c0 M N O P Q T U V X Y Z a0 a1 a2 a3 a4 a5 u z A2 c d g Z6 Z7 Z8 Z9) (.v 24):=h2.symm
     have w3:E.i (eV x0 x1 x2 F J K L y4 y5 y6 y7 y8 y9 a6 a7 a8 a9 b4 b5 b6 b7 b8 b9 c0 M N O P Q T U V X Y Z a0 a1 a2 a3 a4 a5 u z A2 c d g Z6 Z7 Z8 Z9) aSP=E.i (eV x0 x1 x2 F J K L y4 y5 y6 y7 y8 y9 a6 a7 a8 a9 b4 b5 b6 b7 b8 b9 c0 M N O P Q T U V X Y Z a0 a1 a2 a3 a4 a5 u z A2 c d g Z6 Z7 Z8 Z9) (.v 25):=h3.symm
     have w4:E.i (eV x0 x1 x2 F J K L y4 y5 y6 y7 y8 y9 a6 a7 a8 a9 b4 b5 b6 b7 b8 b9 c0 M N O P Q T U V X Y Z a0 a1 a2 a3 a4 a5 u z A2 c d g Z6 Z7 Z8 Z9) aSQ=E.i (eV x0 x1 x2 F J K L y4 y5 y6 y7 y8 y9 a6 a7 a8 a9 b4 b5 b6 b7 b8 b9 c0 M N O P Q T U V X Y Z a0 a1 a2 a3 a4 a5 u z A2 c d g Z6 Z7 Z8 Z9) (.v 26):=h4.symm
     have w5:E.i (eV x0 x1 x2 F J K L y4 y5 y6 y7 y8 y9 a6 a7 a8 a9 b4 b5 b6 b7 b8 b9 c0 M N O P Q T U V X Y Z a0 a1 a2 a3 a4 a5 u z A2 c d g Z6 Z7 Z8 Z9) aUK=E.i (eV x0 x1 x2 F J K L y4 y5 y6 y7 y8 y9 a6 a7 a8 a9 b4 b5 b6 b7 b8 b9 c0 M N O P Q T U V X Y Z a0 a1 a2 a3 a4 a5 u z A2 c d g Z6 Z7 Z8 Z9) (.v 27):=h5.symm
     have w6:E.i (eV x0 x1 x2 F J K L y4 y5 y6 y7 y8 y9 a6 a7 a8 a9 b4 b5 b6 b7 b8 b9 c0 M N O P Q T U V X Y Z a0 a1 a2 a3 a4 a5 u z A2 c d g Z6 Z7 Z8 Z9) aSR=E.i (eV x0 x1 x2 F J K L y4 y5 y6 y7 y8 y9 a6 a7 a8 a9 b4 b5 b6 b7 b8 b9 c0 M N O P Q T U V X Y Z a0 a1 a2 a3 a4 a5 u z A2 c d g Z6 Z7 Z8 Z9) (.v 28):=h6.symm
     have w7:E.i (eV x0 x1 x2 F J K L y4 y5 y6 y7 y8 y9 a6 a7 a8 a9 b4 b5 b6 b7 b8 b9 c0 M N O P Q T U V X Y Z a0 a1 a2 a3 a4 a5 u z A2 c d g Z6 Z7 Z8 Z9) aSS=E.i (eV x0 x1 x2 F J K L y4 y5 y6 y7 y8 y9 a6 a7 a8 a9 b4 b5 b6 b7 b8 b9 c0 M N O P Q T U V X Y Z a0 a1 a2 a3 a4 a5 u z A2 c d g Z6 Z7 Z8 Z9) (.v 29):=h7.symm
     have w8:E.i (eV x0 x1 x2 F J K L y4 y5 y6 y7 y8 y9 a6 a7 a8 a9 b4 b5 b6 b7 b8 b9 c0 M N O P Q T U V X Y Z a0 a1 a2 a3 a4 a5 u z A2 c d g Z6 Z7 Z8 Z9) aST=E.i (eV x0 x1 x2 F J K L y4 y5 y6 y7 y8 y9 a6 a7 a8 a9 b4 b5 b6 b7 b8 b9 c0 M N O P Q T U V X Y Z a0 a1 a2 a3 a4 a5 u z A2 c d g Z6 Z7 Z8 Z9) (.v 30):=h8.symm
     have w9:E.i (eV x0 x1 x2 F J K L y4 y5 y6 y7 y8 y9 a6 a7 a8 a9 b4 b5 b6 b7 b8 b9 c0 M N O P Q T U V X Y Z a0 a1 a2 a3 a4 a5 u z A2 c d g Z6 Z7 Z8 Z9) bBk=E.i (eV x0 x1 x2 F J K L y4 y5 y6 y7 y8 y9 a6 a7 a8 a9 b4 b5 b6 b7 b8 b9 c0 M N O P Q T U V X Y Z a0 a1 a2 a3 a4 a5 u z A2 c d g Z6 Z7 Z8 Z9) (.v 31):=h9.symm
     have t4:E.i (eV x0 x1 x2 F J K L y4 y5 y6 y7 y8 y9 a6 a7 a8 a9 b4 b5 b6 b7 b8 b9 c0 M N O P Q T U V X Y Z a0 a1 a2 a3 a4 a5 u z A2 c d g Z6 Z7 Z8 Z9) bBl=E.i (eV x0 x1 x2 F J K L y4 y5 y6 y7 y8 y9 a6 a7 a8 a9 b4 b5 b6 b7 b8 b9 c0 M N O P Q T U V X Y Z a0 a1 a2 a3 a4 a5 u z A2 c d g Z6 Z7 Z8 Z9) (.v 32):=p9.symm
     have t5:E.i (eV x0 x1 x2 F J K L y4 y5 y6 y7 y8 y9 a6 a7 a8 a9 b4 b5 b6 b7 b8 b9 c0 M N O P Q T U V X Y Z a0 a1 a2 a3 a4 a5 u z A2 c d g Z6 Z7 Z8 Z9) aSU=E.i (eV x0 x1 x2 F J K L y4 y5 y6 y7 y8 y9 a6 a7 a8 a9 b4 b5 b6 b7 b8 b9 c0 M N O P Q T U V X Y Z a0 a1 a2 a3 a4 a5 u z A2 c d g Z6 Z7 Z8 Z9) (.v 33):=q3.symm
     have t6:E.i (eV x0 x1 x2 F J K L y4 y5 y6 y7 y8 y9 a6 a7 a8 a9 b4 b5 b6 b7 b8 b9 c0 M N O P Q T U V X Y Z a0 a1 a2 a3 a4 a5 u z A2 c d g Z6 Z7 Z8 Z9) aSV=E.i (eV x0 x1 x2 F J K L y4 y5 y6 y7 y8 y9 a6 a7 a8 a9 b4 b5 b6 b7 b8 b9 c0 M N O P Q T U V X Y Z a0 a1 a2 a3 a4 a5 u z A2 c d g Z6 Z7 Z8 Z9) (.v 34):=q4.symm
     have t7:E.i (eV x0 x1 x2 F J K L y4 y5 y6 y7 y8 y9 a6 a7 a8 a9 b4 b5 b6 b7 b8 b9 c0 M N O P Q T U V X Y Z a0 a1 a2 a3 a4 a5 u z A2 c d g Z6 Z7 Z8 Z9) aUL=E.i (eV x0 x1 x2 F J K L y4 y5 y6 y7 y8 y9 a6 a7 a8 a9 b4 b5 b6 b7 b8 b9 c0 M N O P Q T U V X Y Z a0 a1 a2 a3 a4 a5 u z A2 c d g Z6 Z7 Z8 Z9) (.v 35):=q5.symm
     have t8:E.i (eV x0 x1 x2 F J K L y4 y5 y6 y7 y8 y9 a6 a7 a8 a9 b4 b5 b6 b7 b8 b9 c0 M N O P Q T U V X Y Z a0 a1 a2 a3 a4 a5 u z A2 c d g Z6 Z7 Z8 Z9) aUM=E.i (eV x0 x1 x2 F J K L y4 y5 y6 y7 y8 y9 a6 a7 a8 a9 b4 b5 b6 b7 b8 b9 c0 M N O P Q T U V X Y Z a0 a1 a2 a3 a4 a5 u z A2 c d g Z6 Z7 Z8 Z9) (.v 36):=q6.symm
     have t9:E.i (eV x0 x1 x2 F J K L y4 y5 y6 y7 y8 y9 a6 a7 a8 a9 b4 b5 b6 b7 b8 b9 c0 M N O P Q T U V X Y Z a0 a1 a2 a3 a4 a5 u z A2 c d g Z6 Z7 Z8 Z9) bBm=E.i (eV x0 x1 x2 F J K L y4 y5 y6 y7 y8 y9 a6 a7 a8 a9 b4 b5 b6 b7 b8 b9 c0 M N O P Q T U V X Y Z a0 a1 a2 a3 a4 a5 u z A2 c d g Z6 Z7 Z8 Z9) (.v 37):=q7.symm
     have wS:E.a (eV x0 x1 x2 F J K L y4 y5 y6 y7 y8 y9 a6 a7 a8 a9 b4 b5 b6 b7 b8 b9 c0 M N O P Q T U V X Y Z a0 a1 a2 a3 a4 a5 u z A2 c d g Z6 Z7 Z8 Z9) aIi=E.a (eV x0 x1 x2 F J K L y4 y5 y6 y7 y8 y9 a6 a7 a8 a9 b4 b5 b6 b7 b8 b9 c0 M N O P Q T U V X Y Z a0 a1 a2 a3 a4 a5 u z A2 c d g Z6 Z7 Z8 Z9) (.av 8):=hS.symm
     have wQ:E.a (eV x0 x1 x2 F J K L y4 y5 y6 y7 y8 y9 a6 a7 a8 a9 b4 b5 b6 b7 b8 b9 c0 M N O P Q T U V X Y Z a0 a1 a2 a3 a4 a5 u z A2 c d g Z6 Z7 Z8 Z9) aSW=E.a (eV x0 x1 x2 F J K L y4 y5 y6 y7 y8 y9 a6 a7 a8 a9 b4 b5 b6 b7 b8 b9 c0 M N O P Q T U V X Y Z a0 a1 a2 a3 a4 a5 u z A2 c d g Z6 Z7 Z8 Z9) (.av 9):=hQ.symm
     have h50:∀ A,E.a (eV x0 x1 x2 F J K L y4 y5 y6 y7 y8 y9 a6 a7 a8 a9 b4 b5 b6 b7 b8 b9 c0 M N O P Q T U V X Y Z a0 a1 a2 a3 a4 a5 u z A2 c d g Z6 Z7 Z8 Z9) (.app 50 (.cons A .nil))=nL (E.a (eV x0 x1 x2 F J K L y4 y5 y6 y7 y8 y9 a6 a7 a8 a9 b4 b5 b6 b7 b8 b9 c0 M N O P Q T U V X Y Z a0 a1 a2 a3 a4 a5 u z A2 c d g Z6 Z7 Z8 Z9) A):=fun A=>bDh rfl A
     have hU0:E.a (eV x0 x1 x2 F J K L y4 y5 y6 y7 y8 y9 a6 a7 a8 a9 b4 b5 b6 b7 b8 b9 c0 M N O P Q T U V X Y Z a0 a1 a2 a3 a4 a5 u z A2 c d g Z6 Z7 Z8 Z9) e351=E.a (eV x0 x1 x2 F J K L y4 y5 y6 y7 y8 y9 a6 a7 a8 a9 b4 b5 b6 b7 b8 b9 c0 M N O P Q T U V X Y Z a0 a1 a2 a3 a4 a5 u z A2 c d g Z6 Z7 Z8 Z9) aSW:=jE _ _
     have hb:E.a (eV x0 x1 x2 F J K L y4 y5 y6 y7 y8 y9 a6 a7 a8 a9 b4 b5 b6 b7 b8 b9 c0 M N O P Q T U V X Y Z a0 a1 a2 a3 a4 a5 u z A2 c d g Z6 Z7 Z8 Z9) bDY=E.a (eV x0 x1 x2 F J K L y4 y5 y6 y7 y8 y9 a6 a7 a8 a9 b4 b5 b6 b7 b8 b9 c0 M N O P Q T U V X Y Z a0 a1 a2 a3 a4 a5 u z A2 c d g Z6 Z7 Z8 Z9) bDZ:=by
      simp only [e108,e109,e110,bIv,e284,e285,e286,e287,e288,e289,e290,e291,e292,e293,e294,e295,e296,e297,e298,e299,e300,e301,e302,e303,e304,e305,e306,e307,e308,e309,e310,e311,e312,e313,e314,e315,e316,e317,e318,e319,e320,e321,e322,e323,e324,e325,e326,e327,e328,bOP,e330,e331,e332,e333,bOQ,e335,e336,e337,e338,bOR,e340,e341,e342,e343,bOS,e345,e346,e347,e348,e349,e352,e353,e354,e355,e356,e357,bDY,e37,e371,e372,e373,e374,e375,e376,e377,e378,e379,e38,e380,e381,e382,e383,e384,e385,e386,e387,e388,e389,e39,e390,e391,e392,e393,e394,e395,e396,e397,e398,e399,e40,e400,e401,e402,e403,e404,e405,e406,e407,e408,e409,e41,e410,e411,e412,e413,e414,e415,bOT,e417,e418,e419,e420,bOU,e422,e423,e424,e425,bOV,e427,e428,e429,e430,bOW,e432,e433,e434,e435,e436,e437,e438,e439,e440,e441,e442,bDZ,bZ,mM,bB,cD,dE,aC,h50,w0,w1,w2,w3,w4,w5,w6,w7,w8,w9,t4,t5,t6,t7,t8,t9,hU0,wS,wQ]
      try rfl
     have hs10:E.i (eV x0 x1 x2 F J K L y4 y5 y6 y7 y8 y9 a6 a7 a8 a9 b4 b5 b6 b7 b8 b9 c0 M N O P Q T U V X Y Z a0 a1 a2 a3 a4 a5 u z A2 c d g Z6 Z7 Z8 Z9) bBn=E.i (eV x0 x1 x2 F J K L y4 y5 y6 y7 y8 y9 a6 a7 a8 a9 b4 b5 b6 b7 b8 b9 c0 M N O P Q T U V X Y Z a0 a1 a2 a3 a4 a5 u z A2 c d g Z6 Z7 Z8 Z9) bBo:=by
      rw [show E.i (eV x0 x1 x2 F J K L y4 y5 y6 y7 y8 y9 a6 a7 a8 a9 b4 b5 b6 b7 b8 b9 c0 M N O P Q T U V X Y Z a0 a1 a2 a3 a4 a5 u z A2 c d g Z6 Z7 Z8 Z9) bBn=qW 554 (E.a (eV x0 x1 x2 F J K L y4 y5 y6 y7 y8 y9 a6 a7 a8 a9 b4 b5 b6 b7 b8 b9 c0 M N O P Q T U V X Y Z a0 a1 a2 a3 a4 a5 u z A2 c d g Z6 Z7 Z8 Z9) bDY) from bKj hF _ _,show E.i (eV x0 x1 x2 F J K L y4 y5 y6 y7 y8 y9 a6 a7 a8 a9 b4 b5 b6 b7 b8 b9 c0 M N O P Q T U V X Y Z a0 a1 a2 a3 a4 a5 u z A2 c d g Z6 Z7 Z8 Z9) bBo=qW 554 (E.a (eV x0 x1 x2 F J K L y4 y5 y6 y7 y8 y9 a6 a7 a8 a9 b4 b5 b6 b7 b8 b9 c0 M N O P Q T U V X Y Z a0 a1 a2 a3 a4 a5 u z A2 c d g Z6 Z7 Z8 Z9) bDZ) from bKj hF _ _,hb]
     have hX:E.a (eV x0 x1 x2 F J K L y4 y5 y6 y7 y8 y9 a6 a7 a8 a9 b4 b5 b6 b7 b8 b9 c0 M N O P Q T U V X Y Z a0 a1 a2 a3 a4 a5 u z A2 c d g Z6 Z7 Z8 Z9) bIz=E.a (eV x0 x1 x2 F J K L y4 y5 y6 y7 y8 y9 a6 a7 a8 a9 b4 b5 b6 b7 b8 b9 c0 M N O P Q T U V X Y Z a0 a1 a2 a3 a4 a5 u z A2 c d g Z6 Z7 Z8 Z9) bIA:=by
      simp only [e28,e29,e30,e31,e32,e33,e34,e35,e36,e360,e361,e362,e363,e364,e365,e366,e367,e368,e369,bIz,e445,e446,e447,e448,e449,e450,e451,e452,e453,e454,bIA,bZ,mM,bB,cD,aC,hs10,hb]
      try rfl
     show E.b (eV x0 x1 x2 F J K L y4 y5 y6 y7 y8 y9 a6 a7 a8 a9 b4 b5 b6 b7 b8 b9 c0 M N O P Q T U V X Y Z a0 a1 a2 a3 a4 a5 u z A2 c d g Z6 Z7 Z8 Z9) (.aeq false (.lit 567) bIz bIA 0 0)=true
     rw [aJg,hX]
     exact List.all_eq_true.2 fun j _=>beq_self_eq_true _
   ·
     have f0:=hJ
     simp only [eJ1] at f0
     obtain ⟨l4,l5,l6,l7,l8,l9,i0,i1,i2,i3,i4,i5,i6,i7,i8,i9,j0,p6,j1,j2,j3,j4,j5,j6,j7,j8,j9,k3,k4,k5,k6,k7,k8,k9,m6,m7,m8,m9,hk,hk2x,_⟩:=f0
     have hF:IvF ((eV x0 x1 x2 F J K L y4 y5 y6 y7 y8 y9 a6 a7 a8 a9 b4 b5 b6 b7 b8 b9 c0 M N O P Q T U V X Y Z a0 a1 a2 a3 a4 a5 u z A2 c d g Z6 Z7 Z8 Z9)).I:=⟨rfl,rfl,rfl⟩
     have hR:E.a (eV x0 x1 x2 F J K L y4 y5 y6 y7 y8 y9 a6 a7 a8 a9 b4 b5 b6 b7 b8 b9 c0 M N O P Q T U V X Y Z a0 a1 a2 a3 a4 a5 u z A2 c d g Z6 Z7 Z8 Z9) e9=(zR F J K u z):=jE _ _
     have g6:E.i (eV x0 x1 x2 F J K L y4 y5 y6 y7 y8 y9 a6 a7 a8 a9 b4 b5 b6 b7 b8 b9 c0 M N O P Q T U V X Y Z a0 a1 a2 a3 a4 a5 u z A2 c d g Z6 Z7 Z8 Z9) e7=zK (A2 0):=by
      show (E.i (eV x0 x1 x2 F J K L y4 y5 y6 y7 y8 y9 a6 a7 a8 a9 b4 b5 b6 b7 b8 b9 c0 M N O P Q T U V X Y Z a0 a1 a2 a3 a4 a5 u z A2 c d g Z6 Z7 Z8 Z9) e6)%3001=_
      rw [show E.i (eV x0 x1 x2 F J K L y4 y5 y6 y7 y8 y9 a6 a7 a8 a9 b4 b5 b6 b7 b8 b9 c0 M N O P Q T U V X Y Z a0 a1 a2 a3 a4 a5 u z A2 c d g Z6 Z7 Z8 Z9) e6=if E.b (eV x0 x1 x2 F J K L y4 y5 y6 y7 y8 y9 a6 a7 a8 a9 b4 b5 b6 b7 b8 b9 c0 M N O P Q T U V X Y Z a0 a1 a2 a3 a4 a5 u z A2 c d g Z6 Z7 Z8 Z9) e5 then 1 else A2 0 from aQ _ _ _ _]
      show (if (decide _||decide _)=true then (1:Int) else A2 0)%3001=zK (A2 0)
      simp only [Bool.or_eq_true,decide_eq_true_eq,zK]
      rfl
     have q1:aUd e7 [(.lit 0),(.lit 0),(.lit 0),(.lit 0),(.lit 0),(.lit 0),(.lit 0),(.lit 0),(.lit 0),(.lit 0),(.lit 0),(.lit 0),(.lit 0),(.lit 0),(.lit 0),(.lit 0)] e9 (.tab []) (.tab []) (eV x0 x1 x2 F J K L y4 y5 y6 y7 y8 y9 a6 a7 a8 a9 b4 b5 b6 b7 b8 b9 c0 M N O P Q T U V X Y Z a0 a1 a2 a3 a4 a5 u z A2 c d g Z6 Z7 Z8 Z9)=(stN (zR F J K u z) (zK (A2 0)).toNat z0):=by
      rw [mC (eV x0 x1 x2 F J K L y4 y5 y6 y7 y8 y9 a6 a7 a8 a9 b4 b5 b6 b7 b8 b9 c0 M N O P Q T U V X Y Z a0 a1 a2 a3 a4 a5 u z A2 c d g Z6 Z7 Z8 Z9) hF _ _ rfl _ _ _ (by rw [aAI];exact aHw),aAI,hR,g6]
     have p1:=aEj (zR F J K u z) z0 bAW (zK (A2 0)).toNat
     rw [← q1] at p1
     have f4:E.i (eV x0 x1 x2 F J K L y4 y5 y6 y7 y8 y9 a6 a7 a8 a9 b4 b5 b6 b7 b8 b9 c0 M N O P Q T U V X Y Z a0 a1 a2 a3 a4 a5 u z A2 c d g Z6 Z7 Z8 Z9) kM=zK (A2 1):=by
      show (E.i (eV x0 x1 x2 F J K L y4 y5 y6 y7 y8 y9 a6 a7 a8 a9 b4 b5 b6 b7 b8 b9 c0 M N O P Q T U V X Y Z a0 a1 a2 a3 a4 a5 u z A2 c d g Z6 Z7 Z8 Z9) aIh)%3001=_
      rw [show E.i (eV x0 x1 x2 F J K L y4 y5 y6 y7 y8 y9 a6 a7 a8 a9 b4 b5 b6 b7 b8 b9 c0 M N O P Q T U V X Y Z a0 a1 a2 a3 a4 a5 u z A2 c d g Z6 Z7 Z8 Z9) aIh=if E.b (eV x0 x1 x2 F J K L y4 y5 y6 y7 y8 y9 a6 a7 a8 a9 b4 b5 b6 b7 b8 b9 c0 M N O P Q T U V X Y Z a0 a1 a2 a3 a4 a5 u z A2 c d g Z6 Z7 Z8 Z9) bDF then 1 else A2 1 from aQ _ _ _ _]
      show (if (decide _||decide _)=true then (1:Int) else A2 1)%3001=zK (A2 1)
      simp only [Bool.or_eq_true,decide_eq_true_eq,zK]
      rfl
     have hg:¬ M<zK (A2 1):=by
      rw [← f4];exact of_decide_eq_false f3
     have p5:(stE (eV x0 x1 x2 F J K L y4 y5 y6 y7 y8 y9 a6 a7 a8 a9 b4 b5 b6 b7 b8 b9 c0 M N O P Q T U V X Y Z a0 a1 a2 a3 a4 a5 u z A2 c d g Z6 Z7 Z8 Z9) [lC,lD,lE,lF,lG,lH,lI,lJ,lK,lL,lM,lN,lO,lP,lQ,lR] lS iN)=(stN (zR F J K u z) (zK (A2 0)).toNat z0):=by
      rw [← q1]
      simp only [stE,List.map_cons,List.map_nil,bOt,iN,lC,lD,lE,lF,lG,lH,lI,lJ,lK,lL,lM,lN,lO,lP,lQ,lR,lS,e87,aR,aC,Int.add_zero,jE]
      rfl
     have q:=mC (eV x0 x1 x2 F J K L y4 y5 y6 y7 y8 y9 a6 a7 a8 a9 b4 b5 b6 b7 b8 b9 c0 M N O P Q T U V X Y Z a0 a1 a2 a3 a4 a5 u z A2 c d g Z6 Z7 Z8 Z9) hF kM [lC,lD,lE,lF,lG,lH,lI,lJ,lK,lL,lM,lN,lO,lP,lQ,lR] rfl e9 lS iN (by rw [p5];exact aAe _ _ aHw _)
     rw [p5,f4,show E.a (eV x0 x1 x2 F J K L y4 y5 y6 y7 y8 y9 a6 a7 a8 a9 b4 b5 b6 b7 b8 b9 c0 M N O P Q T U V X Y Z a0 a1 a2 a3 a4 a5 u z A2 c d g Z6 Z7 Z8 Z9) e9=(zR F J K u z) from jE _ _] at q
     rw [show (zK (A2 1)-M).toNat=0 by omega,← q] at hk2x
     have hl:=(St.gl (show (⟨[N,O,P,Q,T,U,V,X,Y,Z,a0,a1,a2,a3,a4,a5],Z8,Z9⟩:St)=(⟨[E.i (eV x0 x1 x2 F J K L y4 y5 y6 y7 y8 y9 a6 a7 a8 a9 b4 b5 b6 b7 b8 b9 c0 M N O P Q T U V X Y Z a0 a1 a2 a3 a4 a5 u z A2 c d g Z6 Z7 Z8 Z9) aSM,E.i (eV x0 x1 x2 F J K L y4 y5 y6 y7 y8 y9 a6 a7 a8 a9 b4 b5 b6 b7 b8 b9 c0 M N O P Q T U V X Y Z a0 a1 a2 a3 a4 a5 u z A2 c d g Z6 Z7 Z8 Z9) aSN,E.i (eV x0 x1 x2 F J K L y4 y5 y6 y7 y8 y9 a6 a7 a8 a9 b4 b5 b6 b7 b8 b9 c0 M N O P Q T U V X Y Z a0 a1 a2 a3 a4 a5 u z A2 c d g Z6 Z7 Z8 Z9) aSO,E.i (eV x0 x1 x2 F J K L y4 y5 y6 y7 y8 y9 a6 a7 a8 a9 b4 b5 b6 b7 b8 b9 c0 M N O P Q T U V X Y Z a0 a1 a2 a3 a4 a5 u z A2 c d g Z6 Z7 Z8 Z9) aSP,E.i (eV x0 x1 x2 F J K L y4 y5 y6 y7 y8 y9 a6 a7 a8 a9 b4 b5 b6 b7 b8 b9 c0 M N O P Q T U V X Y Z a0 a1 a2 a3 a4 a5 u z A2 c d g Z6 Z7 Z8 Z9) aSQ,E.i (eV x0 x1 x2 F J K L y4 y5 y6 y7 y8 y9 a6 a7 a8 a9 b4 b5 b6 b7 b8 b9 c0 M N O P Q T U V X Y Z a0 a1 a2 a3 a4 a5 u z A2 c d g Z6 Z7 Z8 Z9) aUK,E.i (eV x0 x1 x2 F J K L y4 y5 y6 y7 y8 y9 a6 a7 a8 a9 b4 b5 b6 b7 b8 b9 c0 M N O P Q T U V X Y Z a0 a1 a2 a3 a4 a5 u z A2 c d g Z6 Z7 Z8 Z9) aSR,E.i (eV x0 x1 x2 F J K L y4 y5 y6 y7 y8 y9 a6 a7 a8 a9 b4 b5 b6 b7 b8 b9 c0 M N O P Q T U V X Y Z a0 a1 a2 a3 a4 a5 u z A2 c d g Z6 Z7 Z8 Z9) aSS,E.i (eV x0 x1 x2 F J K L y4 y5 y6 y7 y8 y9 a6 a7 a8 a9 b4 b5 b6 b7 b8 b9 c0 M N O P Q T U V X Y Z a0 a1 a2 a3 a4 a5 u z A2 c d g Z6 Z7 Z8 Z9) aST,E.i (eV x0 x1 x2 F J K L y4 y5 y6 y7 y8 y9 a6 a7 a8 a9 b4 b5 b6 b7 b8 b9 c0 M N O P Q T U V X Y Z a0 a1 a2 a3 a4 a5 u z A2 c d g Z6 Z7 Z8 Z9) bBk,E.i (eV x0 x1 x2 F J K L y4 y5 y6 y7 y8 y9 a6 a7 a8 a9 b4 b5 b6 b7 b8 b9 c0 M N O P Q T U V X Y Z a0 a1 a2 a3 a4 a5 u z A2 c d g Z6 Z7 Z8 Z9) bBl,E.i (eV x0 x1 x2 F J K L y4 y5 y6 y7 y8 y9 a6 a7 a8 a9 b4 b5 b6 b7 b8 b9 c0 M N O P Q T U V X Y Z a0 a1 a2 a3 a4 a5 u z A2 c d g Z6 Z7 Z8 Z9) aSU,E.i (eV x0 x1 x2 F J K L y4 y5 y6 y7 y8 y9 a6 a7 a8 a9 b4 b5 b6 b7 b8 b9 c0 M N O P Q T U V X Y Z a0 a1 a2 a3 a4 a5 u z A2 c d g Z6 Z7 Z8 Z9) aSV,E.i (eV x0 x1 x2 F J K L y4 y5 y6 y7 y8 y9 a6 a7 a8 a9 b4 b5 b6 b7 b8 b9 c0 M N O P Q T U V X Y Z a0 a1 a2 a3 a4 a5 u z A2 c d g Z6 Z7 Z8 Z9) aUL,E.i (eV x0 x1 x2 F J K L y4 y5 y6 y7 y8 y9 a6 a7 a8 a9 b4 b5 b6 b7 b8 b9 c0 M N O P Q T U V X Y Z a0 a1 a2 a3 a4 a5 u z A2 c d g Z6 Z7 Z8 Z9) aUM,E.i (eV x0 x1 x2 F J K L y4 y5 y6 y7 y8 y9 a6 a7 a8 a9 b4 b5 b6 b7 b8 b9 c0 M N O P Q T U V X Y Z a0 a1 a2 a3 a4 a5 u z A2 c d g Z6 Z7 Z8 Z9) bBm],E.a (eV x0 x1 x2 F J K L y4 y5 y6 y7 y8 y9 a6 a7 a8 a9 b4 b5 b6 b7 b8 b9 c0 M N O P Q T U V X Y Z a0 a1 a2 a3 a4 a5 u z A2 c d g Z6 Z7 Z8 Z9) aIi,E.a (eV x0 x1 x2 F J K L y4 y5 y6 y7 y8 y9 a6 a7 a8 a9 b4 b5 b6 b7 b8 b9 c0 M N O P Q T U V X Y Z a0 a1 a2 a3 a4 a5 u z A2 c d g Z6 Z7 Z8 Z9) aSW⟩:St) from hk2x))
     obtain ⟨hl,hS,hQ⟩:=hl
     simp only [List.cons.injEq,and_true] at hl
     obtain ⟨h0,h1,h2,h3,h4,h5,h6,h7,h8,h9,p9,q3,q4,q5,q6,q7⟩:=hl
     have w0:E.i (eV x0 x1 x2 F J K L y4 y5 y6 y7 y8 y9 a6 a7 a8 a9 b4 b5 b6 b7 b8 b9 c0 M N O P Q T U V X Y Z a0 a1 a2 a3 a4 a5 u z A2 c d g Z6 Z7 Z8 Z9) aSM=E.i (eV x0 x1 x2 F J K L y4 y5 y6 y7 y8 y9 a6 a7 a8 a9 b4 b5 b6 b7 b8 b9 c0 M N O P Q T U V X Y Z a0 a1 a2 a3 a4 a5 u z A2 c d g Z6 Z7 Z8 Z9) (.v 22):=h0.symm
     have w1:E.i (eV x0 x1 x2 F J K L y4 y5 y6 y7 y8 y9 a6 a7 a8 a9 b4 b5 b6 b7 b8 b9 c0 M N O P Q T U V X Y Z a0 a1 a2 a3 a4 a5 u z A2 c d g Z6 Z7 Z8 Z9) aSN=E.i (eV x0 x1 x2 F J K L y4 y5 y6 y7 y8 y9 a6 a7 a8 a9 b4 b5 b6 b7 b8 b9 c0 M N O P Q T U V X Y Z a0 a1 a2 a3 a4 a5 u z A2 c d g Z6 Z7 Z8 Z9) (.v 23):=h1.symm
     have w2:E.i (eV x0 x1 x2 F J K L y4 y5 y6 y7 y8 y9 a6 a7 a8 a9 b4 b5 b6 b7 b8 b9 c0 M N O P Q T U V X Y Z a0 a1 a2 a3 a4 a5 u z A2 c d g Z6 Z7 Z8 Z9) aSO=E.i (eV x0 x1 x2 F J K L y4 y5 y6 y7 y8 y9 a6 a7 a8 a9 b4 b5 b6 b7 b8 b9 c0 M N O P Q T U V X Y Z a0 a1 a2 a3 a4 a5 u z A2 c d g Z6 Z7 Z8 Z9) (.v 24):=h2.symm
     have w3:E.i (eV x0 x1 x2 F J K L y4 y5 y6 y7 y8 y9 a6 a7 a8 a9 b4 b5 b6 b7 b8 b9 c0 M N O P Q T U V X Y Z a0 a1 a2 a3 a4 a5 u z A2 c d g Z6 Z7 Z8 Z9) aSP=E.i (eV x0 x1 x2 F J K L y4 y5 y6 y7 y8 y9 a6 a7 a8 a9 b4 b5 b6 b7 b8 b9 c0 M N O P Q T U V X Y Z a0 a1 a2 a3 a4 a5 u z A2 c d g Z6 Z7 Z8 Z9) (.v 25):=h3.symm
     have w4:E.i (eV x0 x1 x2 F J K L y4 y5 y6 y7 y8 y9 a6 a7 a8 a9 b4 b5 b6 b7 b8 b9 c0 M N O P Q T U V X Y Z a0 a1 a2 a3 a4 a5 u z A2 c d g Z6 Z7 Z8 Z9) aSQ=E.i (eV x0 x1 x2 F J K L y4 y5 y6 y7 y8 y9 a6 a7 a8 a9 b4 b5 b6 b7 b8 b9 c0 M N O P Q T U V X Y Z a0 a1 a2 a3 a4 a5 u z A2 c d g Z6 Z7 Z8 Z9) (.v 26):=h4.symm
     have w5:E.i (eV x0 x1 x2 F J K L y4 y5 y6 y7 y8 y9 a6 a7 a8 a9 b4 b5 b6 b7 b8 b9 c0 M N O P Q T U V X Y Z a0 a1 a2 a3 a4 a5 u z A2 c d g Z6 Z7 Z8 Z9) aUK=E.i (eV x0 x1 x2 F J K L y4 y5 y6 y7 y8 y9 a6 a7 a8 a9 b4 b5 b6 b7 b8 b9 c0 M N O P Q T U V X Y Z a0 a1 a2 a3 a4 a5 u z A2 c d g Z6 Z7 Z8 Z9) (.v 27):=h5.symm
     have w6:E.i (eV x0 x1 x2 F J K L y4 y5 y6 y7 y8 y9 a6 a7 a8 a9 b4 b5 b6 b7 b8 b9 c0 M N O P Q T U V X Y Z a0 a1 a2 a3 a4 a5 u z A2 c d g Z6 Z7 Z8 Z9) aSR=E.i (eV x0 x1 x2 F J K L y4 y5 y6 y7 y8 y9 a6 a7 a8 a9 b4 b5 b6 b7 b8 b9 c0 M N O P Q T U V X Y Z a0 a1 a2 a3 a4 a5 u z A2 c d g Z6 Z7 Z8 Z9) (.v 28):=h6.symm
     have w7:E.i (eV x0 x1 x2 F J K L y4 y5 y6 y7 y8 y9 a6 a7 a8 a9 b4 b5 b6 b7 b8 b9 c0 M N O P Q T U V X Y Z a0 a1 a2 a3 a4 a5 u z A2 c d g Z6 Z7 Z8 Z9) aSS=E.i (eV x0 x1 x2 F J K L y4 y5 y6 y7 y8 y9 a6 a7 a8 a9 b4 b5 b6 b7 b8 b9 c0 M N O P Q T U V X Y Z a0 a1 a2 a3 a4 a5 u z A2 c d g Z6 Z7 Z8 Z9) (.v 29):=h7.symm
     have w8:E.i (eV x0 x1 x2 F J K L y4 y5 y6 y7 y8 y9 a6 a7 a8 a9 b4 b5 b6 b7 b8 b9 c0 M N O P Q T U V X Y Z a0 a1 a2 a3 a4 a5 u z A2 c d g Z6 Z7 Z8 Z9) aST=E.i (eV x0 x1 x2 F J K L y4 y5 y6 y7 y8 y9 a6 a7 a8 a9 b4 b5 b6 b7 b8 b9 c0 M N O P Q T U V X Y Z a0 a1 a2 a3 a4 a5 u z A2 c d g Z6 Z7 Z8 Z9) (.v 30):=h8.symm
     have w9:E.i (eV x0 x1 x2 F J K L y4 y5 y6 y7 y8 y9 a6 a7 a8 a9 b4 b5 b6 b7 b8 b9 c0 M N O P Q T U V X Y Z a0 a1 a2 a3 a4 a5 u z A2 c d g Z6 Z7 Z8 Z9) bBk=E.i (eV x0 x1 x2 F J K L y4 y5 y6 y7 y8 y9 a6 a7 a8 a9 b4 b5 b6 b7 b8 b9 c0 M N O P Q T U V X Y Z a0 a1 a2 a3 a4 a5 u z A2 c d g Z6 Z7 Z8 Z9) (.v 31):=h9.symm
     have t4:E.i (eV x0 x1 x2 F J K L y4 y5 y6 y7 y8 y9 a6 a7 a8 a9 b4 b5 b6 b7 b8 b9 c0 M N O P Q T U V X Y Z a0 a1 a2 a3 a4 a5 u z A2 c d g Z6 Z7 Z8 Z9) bBl=E.i (eV x0 x1 x2 F J K L y4 y5 y6 y7 y8 y9 a6 a7 a8 a9 b4 b5 b6 b7 b8 b9 c0 M N O P Q T U V X Y Z a0 a1 a2 a3 a4 a5 u z A2 c d g Z6 Z7 Z8 Z9) (.v 32):=p9.symm
     have t5:E.i (eV x0 x1 x2 F J K L y4 y5 y6 y7 y8 y9 a6 a7 a8 a9 b4 b5 b6 b7 b8 b9 c0 M N O P Q T U V X Y Z a0 a1 a2 a3 a4 a5 u z A2 c d g Z6 Z7 Z8 Z9) aSU=E.i (eV x0 x1 x2 F J K L y4 y5 y6 y7 y8 y9 a6 a7 a8 a9 b4 b5 b6 b7 b8 b9 c0 M N O P Q T U V X Y Z a0 a1 a2 a3 a4 a5 u z A2 c d g Z6 Z7 Z8 Z9) (.v 33):=q3.symm
     have t6:E.i (eV x0 x1 x2 F J K L y4 y5 y6 y7 y8 y9 a6 a7 a8 a9 b4 b5 b6 b7 b8 b9 c0 M N O P Q T U V X Y Z a0 a1 a2 a3 a4 a5 u z A2 c d g Z6 Z7 Z8 Z9) aSV=E.i (eV x0 x1 x2 F J K L y4 y5 y6 y7 y8 y9 a6 a7 a8 a9 b4 b5 b6 b7 b8 b9 c0 M N O P Q T U V X Y Z a0 a1 a2 a3 a4 a5 u z A2 c d g Z6 Z7 Z8 Z9) (.v 34):=q4.symm
     have t7:E.i (eV x0 x1 x2 F J K L y4 y5 y6 y7 y8 y9 a6 a7 a8 a9 b4 b5 b6 b7 b8 b9 c0 M N O P Q T U V X Y Z a0 a1 a2 a3 a4 a5 u z A2 c d g Z6 Z7 Z8 Z9) aUL=E.i (eV x0 x1 x2 F J K L y4 y5 y6 y7 y8 y9 a6 a7 a8 a9 b4 b5 b6 b7 b8 b9 c0 M N O P Q T U V X Y Z a0 a1 a2 a3 a4 a5 u z A2 c d g Z6 Z7 Z8 Z9) (.v 35):=q5.symm
     have t8:E.i (eV x0 x1 x2 F J K L y4 y5 y6 y7 y8 y9 a6 a7 a8 a9 b4 b5 b6 b7 b8 b9 c0 M N O P Q T U V X Y Z a0 a1 a2 a3 a4 a5 u z A2 c d g Z6 Z7 Z8 Z9) aUM=E.i (eV x0 x1 x2 F J K L y4 y5 y6 y7 y8 y9 a6 a7 a8 a9 b4 b5 b6 b7 b8 b9 c0 M N O P Q T U V X Y Z a0 a1 a2 a3 a4 a5 u z A2 c d g Z6 Z7 Z8 Z9) (.v 36):=q6.symm
     have t9:E.i (eV x0 x1 x2 F J K L y4 y5 y6 y7 y8 y9 a6 a7 a8 a9 b4 b5 b6 b7 b8 b9 c0 M N O P Q T U V X Y Z a0 a1 a2 a3 a4 a5 u z A2 c d g Z6 Z7 Z8 Z9) bBm=E.i (eV x0 x1 x2 F J K L y4 y5 y6 y7 y8 y9 a6 a7 a8 a9 b4 b5 b6 b7 b8 b9 c0 M N O P Q T U V X Y Z a0 a1 a2 a3 a4 a5 u z A2 c d g Z6 Z7 Z8 Z9) (.v 37):=q7.symm
     have wS:E.a (eV x0 x1 x2 F J K L y4 y5 y6 y7 y8 y9 a6 a7 a8 a9 b4 b5 b6 b7 b8 b9 c0 M N O P Q T U V X Y Z a0 a1 a2 a3 a4 a5 u z A2 c d g Z6 Z7 Z8 Z9) aIi=E.a (eV x0 x1 x2 F J K L y4 y5 y6 y7 y8 y9 a6 a7 a8 a9 b4 b5 b6 b7 b8 b9 c0 M N O P Q T U V X Y Z a0 a1 a2 a3 a4 a5 u z A2 c d g Z6 Z7 Z8 Z9) (.av 8):=hS.symm
     have wQ:E.a (eV x0 x1 x2 F J K L y4 y5 y6 y7 y8 y9 a6 a7 a8 a9 b4 b5 b6 b7 b8 b9 c0 M N O P Q T U V X Y Z a0 a1 a2 a3 a4 a5 u z A2 c d g Z6 Z7 Z8 Z9) aSW=E.a (eV x0 x1 x2 F J K L y4 y5 y6 y7 y8 y9 a6 a7 a8 a9 b4 b5 b6 b7 b8 b9 c0 M N O P Q T U V X Y Z a0 a1 a2 a3 a4 a5 u z A2 c d g Z6 Z7 Z8 Z9) (.av 9):=hQ.symm
     have hx:E.b (eV x0 x1 x2 F J K L y4 y5 y6 y7 y8 y9 a6 a7 a8 a9 b4 b5 b6 b7 b8 b9 c0 M N O P Q T U V X Y Z a0 a1 a2 a3 a4 a5 u z A2 c d g Z6 Z7 Z8 Z9) bIy=true:=by
      simp only [e257,e259,e261,e263,e265,e267,e269,e271,e273,e275,e277,e279,e281,bIy,e255,e256,e258,e260,e262,e264,e266,e268,e270,e272,e274,e276,e278,e280,e282,cN,eU,w0,w1,w2,w3,w4,w5,w6,w7,w8,w9,t4,t5,t6,t7,t8,t9,decide_true,Bool.and_self]
     rw [hx] at g5;cases g5
theorem evcS (x0:Ext) (x1:Ext) (x2:Ext) (F J K L:Int) (u z A2 c d g:Nat→Int) (hB:aAo x0 x1 x2 F J K L u z A2 c d g) :
 LT.holds (⟨[F,J,K,L,0,0,0,0,0,0,0,0,0,0,0,0,0,0,0,0,0,0,0,0,0,0,0,0,0,0,0,0,0,0,0,0,0,0],[],[u,z,A2,c,d,g,fun _=>0,fun _=>0,fun _=>0,fun _=>0],[],Iv (fun i j=>match i,j with | 0,0=>x0 | 1,0=>x1 | 2,0=>x2 | _,_=>Ext.none)⟩:Env) (fun v _=>iM (⟨[F,J,K,L,0,0,0,0,0,0,0,0,0,0,0,0,0,0,0,0,0,0,0,0,0,0,0,0,0,0,0,0,0,0,0,0,0,0],[],[u,z,A2,c,d,g,fun _=>0,fun _=>0,fun _=>0,fun _=>0],[],Iv (fun i j=>match i,j with | 0,0=>x0 | 1,0=>x1 | 2,0=>x2 | _,_=>Ext.none)⟩:Env) v) (fun j' todo ρ'=>(ehs[j']?.map (·.todo))=some todo∧bIB x0 x1 x2 j' ρ') (.jump 0 eT0 ⟨[(20,(.lit 0)),(19,(.lit 0)),(18,(.lit 0)),(17,(.lit 0)),(16,(.lit 0)),(15,(.lit 0)),(14,(.lit 0)),(13,(.lit 0)),(12,(.lit 0)),(11,(.lit 0)),(10,(.lit 0)),(9,(.lit 0)),(8,(.lit 0)),(7,(.lit 0)),(6,(.lit 0)),(5,(.lit 0)),(4,(.lit 0))],[],[(7,(.tab [])),(6,(.tab []))]⟩):=by
 simp only [LT.holds,iM]
 refine ⟨ehT0,F,J,K,L,(E.i (⟨[F,J,K,L,0,0,0,0,0,0,0,0,0,0,0,0,0,0,0,0,0,0,0,0,0,0,0,0,0,0,0,0,0,0,0,0,0,0],[],[u,z,A2,c,d,g,fun _=>0,fun _=>0,fun _=>0,fun _=>0],[],Iv (fun i j=>match i,j with | 0,0=>x0 | 1,0=>x1 | 2,0=>x2 | _,_=>Ext.none)⟩:Env) (.lit 0)),(E.i (⟨[F,J,K,L,0,0,0,0,0,0,0,0,0,0,0,0,0,0,0,0,0,0,0,0,0,0,0,0,0,0,0,0,0,0,0,0,0,0],[],[u,z,A2,c,d,g,fun _=>0,fun _=>0,fun _=>0,fun _=>0],[],Iv (fun i j=>match i,j with | 0,0=>x0 | 1,0=>x1 | 2,0=>x2 | _,_=>Ext.none)⟩:Env) (.lit 0)),(E.i (⟨[F,J,K,L,0,0,0,0,0,0,0,0,0,0,0,0,0,0,0,0,0,0,0,0,0,0,0,0,0,0,0,0,0,0,0,0,0,0],[],[u,z,A2,c,d,g,fun _=>0,fun _=>0,fun _=>0,fun _=>0],[],Iv (fun i j=>match i,j with | 0,0=>x0 | 1,0=>x1 | 2,0=>x2 | _,_=>Ext.none)⟩:Env) (.lit 0)),(E.i (⟨[F,J,K,L,0,0,0,0,0,0,0,0,0,0,0,0,0,0,0,0,0,0,0,0,0,0,0,0,0,0,0,0,0,0,0,0,0,0],[],[u,z,A2,c,d,g,fun _=>0,fun _=>0,fun _=>0,fun _=>0],[],Iv (fun i j=>match i,j with | 0,0=>x0 | 1,0=>x1 | 2,0=>x2 | _,_=>Ext.none)⟩:Env) (.lit 0)),(E.i (⟨[F,J,K,L,0,0,0,0,0,0,0,0,0,0,0,0,0,0,0,0,0,0,0,0,0,0,0,0,0,0,0,0,0,0,0,0,0,0],[],[u,z,A2,c,d,g,fun _=>0,fun _=>0,fun _=>0,fun _=>0],[],Iv (fun i j=>match i,j with | 0,0=>x0 | 1,0=>x1 | 2,0=>x2 | _,_=>Ext.none)⟩:Env) (.lit 0)),(E.i (⟨[F,J,K,L,0,0,0,0,0,0,0,0,0,0,0,0,0,0,0,0,0,0,0,0,0,0,0,0,0,0,0,0,0,0,0,0,0,0],[],[u,z,A2,c,d,g,fun _=>0,fun _=>0,fun _=>0,fun _=>0],[],Iv (fun i j=>match i,j with | 0,0=>x0 | 1,0=>x1 | 2,0=>x2 | _,_=>Ext.none)⟩:Env) (.lit 0)),(E.i (⟨[F,J,K,L,0,0,0,0,0,0,0,0,0,0,0,0,0,0,0,0,0,0,0,0,0,0,0,0,0,0,0,0,0,0,0,0,0,0],[],[u,z,A2,c,d,g,fun _=>0,fun _=>0,fun _=>0,fun _=>0],[],Iv (fun i j=>match i,j with | 0,0=>x0 | 1,0=>x1 | 2,0=>x2 | _,_=>Ext.none)⟩:Env) (.lit 0)),(E.i (⟨[F,J,K,L,0,0,0,0,0,0,0,0,0,0,0,0,0,0,0,0,0,0,0,0,0,0,0,0,0,0,0,0,0,0,0,0,0,0],[],[u,z,A2,c,d,g,fun _=>0,fun _=>0,fun _=>0,fun _=>0],[],Iv (fun i j=>match i,j with | 0,0=>x0 | 1,0=>x1 | 2,0=>x2 | _,_=>Ext.none)⟩:Env) (.lit 0)),(E.i (⟨[F,J,K,L,0,0,0,0,0,0,0,0,0,0,0,0,0,0,0,0,0,0,0,0,0,0,0,0,0,0,0,0,0,0,0,0,0,0],[],[u,z,A2,c,d,g,fun _=>0,fun _=>0,fun _=>0,fun _=>0],[],Iv (fun i j=>match i,j with | 0,0=>x0 | 1,0=>x1 | 2,0=>x2 | _,_=>Ext.none)⟩:Env) (.lit 0)),(E.i (⟨[F,J,K,L,0,0,0,0,0,0,0,0,0,0,0,0,0,0,0,0,0,0,0,0,0,0,0,0,0,0,0,0,0,0,0,0,0,0],[],[u,z,A2,c,d,g,fun _=>0,fun _=>0,fun _=>0,fun _=>0],[],Iv (fun i j=>match i,j with | 0,0=>x0 | 1,0=>x1 | 2,0=>x2 | _,_=>Ext.none)⟩:Env) (.lit 0)),(E.i (⟨[F,J,K,L,0,0,0,0,0,0,0,0,0,0,0,0,0,0,0,0,0,0,0,0,0,0,0,0,0,0,0,0,0,0,0,0,0,0],[],[u,z,A2,c,d,g,fun _=>0,fun _=>0,fun _=>0,fun _=>0],[],Iv (fun i j=>match i,j with | 0,0=>x0 | 1,0=>x1 | 2,0=>x2 | _,_=>Ext.none)⟩:Env) (.lit 0)),(E.i (⟨[F,J,K,L,0,0,0,0,0,0,0,0,0,0,0,0,0,0,0,0,0,0,0,0,0,0,0,0,0,0,0,0,0,0,0,0,0,0],[],[u,z,A2,c,d,g,fun _=>0,fun _=>0,fun _=>0,fun _=>0],[],Iv (fun i j=>match i,j with | 0,0=>x0 | 1,0=>x1 | 2,0=>x2 | _,_=>Ext.none)⟩:Env) (.lit 0)),(E.i (⟨[F,J,K,L,0,0,0,0,0,0,0,0,0,0,0,0,0,0,0,0,0,0,0,0,0,0,0,0,0,0,0,0,0,0,0,0,0,0],[],[u,z,A2,c,d,g,fun _=>0,fun _=>0,fun _=>0,fun _=>0],[],Iv (fun i j=>match i,j with | 0,0=>x0 | 1,0=>x1 | 2,0=>x2 | _,_=>Ext.none)⟩:Env) (.lit 0)),(E.i (⟨[F,J,K,L,0,0,0,0,0,0,0,0,0,0,0,0,0,0,0,0,0,0,0,0,0,0,0,0,0,0,0,0,0,0,0,0,0,0],[],[u,z,A2,c,d,g,fun _=>0,fun _=>0,fun _=>0,fun _=>0],[],Iv (fun i j=>match i,j with | 0,0=>x0 | 1,0=>x1 | 2,0=>x2 | _,_=>Ext.none)⟩:Env) (.lit 0)),(E.i (⟨[F,J,K,L,0,0,0,0,0,0,0,0,0,0,0,0,0,0,0,0,0,0,0,0,0,0,0,0,0,0,0,0,0,0,0,0,0,0],[],[u,z,A2,c,d,g,fun _=>0,fun _=>0,fun _=>0,fun _=>0],[],Iv (fun i j=>match i,j with | 0,0=>x0 | 1,0=>x1 | 2,0=>x2 | _,_=>Ext.none)⟩:Env) (.lit 0)),(E.i (⟨[F,J,K,L,0,0,0,0,0,0,0,0,0,0,0,0,0,0,0,0,0,0,0,0,0,0,0,0,0,0,0,0,0,0,0,0,0,0],[],[u,z,A2,c,d,g,fun _=>0,fun _=>0,fun _=>0,fun _=>0],[],Iv (fun i j=>match i,j with | 0,0=>x0 | 1,0=>x1 | 2,0=>x2 | _,_=>Ext.none)⟩:Env) (.lit 0)),(E.i (⟨[F,J,K,L,0,0,0,0,0,0,0,0,0,0,0,0,0,0,0,0,0,0,0,0,0,0,0,0,0,0,0,0,0,0,0,0,0,0],[],[u,z,A2,c,d,g,fun _=>0,fun _=>0,fun _=>0,fun _=>0],[],Iv (fun i j=>match i,j with | 0,0=>x0 | 1,0=>x1 | 2,0=>x2 | _,_=>Ext.none)⟩:Env) (.lit 0)),0,0,0,0,0,0,0,0,0,0,0,0,0,0,0,0,0,u,z,A2,c,d,g,(E.a (⟨[F,J,K,L,0,0,0,0,0,0,0,0,0,0,0,0,0,0,0,0,0,0,0,0,0,0,0,0,0,0,0,0,0,0,0,0,0,0],[],[u,z,A2,c,d,g,fun _=>0,fun _=>0,fun _=>0,fun _=>0],[],Iv (fun i j=>match i,j with | 0,0=>x0 | 1,0=>x1 | 2,0=>x2 | _,_=>Ext.none)⟩:Env) (.tab [])),(E.a (⟨[F,J,K,L,0,0,0,0,0,0,0,0,0,0,0,0,0,0,0,0,0,0,0,0,0,0,0,0,0,0,0,0,0,0,0,0,0,0],[],[u,z,A2,c,d,g,fun _=>0,fun _=>0,fun _=>0,fun _=>0],[],Iv (fun i j=>match i,j with | 0,0=>x0 | 1,0=>x1 | 2,0=>x2 | _,_=>Ext.none)⟩:Env) (.tab [])),fun _=>0,fun _=>0,(by kernel_rfl),hB,?_⟩
 obtain ⟨b0,b1,b2,b3,_⟩:=hB
 exact ⟨⟨Int.le_refl _,(show (0:Int)≤9223372036854775807 by decide)⟩,⟨Int.le_refl _,(show (0:Int)≤2047 by decide)⟩,⟨Int.le_refl _,(show (0:Int)≤65535 by decide)⟩,⟨Int.le_refl _,(show (0:Int)≤65535 by decide)⟩,⟨Int.le_refl _,(show (0:Int)≤65535 by decide)⟩,⟨Int.le_refl _,(show (0:Int)≤65535 by decide)⟩,⟨Int.le_refl _,(show (0:Int)≤255 by decide)⟩,⟨Int.le_refl _,(show (0:Int)≤1023 by decide)⟩,⟨Int.le_refl _,(show (0:Int)≤65535 by decide)⟩,⟨Int.le_refl _,(show (0:Int)≤65535 by decide)⟩,⟨Int.le_refl _,(show (0:Int)≤65535 by decide)⟩,⟨Int.le_refl _,(show (0:Int)≤65535 by decide)⟩,⟨Int.le_refl _,(show (0:Int)≤65535 by decide)⟩,⟨Int.le_refl _,(show (0:Int)≤65535 by decide)⟩,⟨Int.le_refl _,(show (0:Int)≤63 by decide)⟩,⟨Int.le_refl _,(show (0:Int)≤63 by decide)⟩,⟨Int.le_refl _,(show (0:Int)≤3 by decide)⟩,⟨Int.le_refl _,(show (0:Int)≤3000 by decide)⟩,⟨Int.le_refl _,(show (0:Int)≤2047 by decide)⟩,⟨Int.le_refl _,(show (0:Int)≤65535 by decide)⟩,⟨Int.le_refl _,(show (0:Int)≤65535 by decide)⟩,⟨Int.le_refl _,(show (0:Int)≤65535 by decide)⟩,⟨Int.le_refl _,(show (0:Int)≤65535 by decide)⟩,⟨Int.le_refl _,(show (0:Int)≤255 by decide)⟩,⟨Int.le_refl _,(show (0:Int)≤1023 by decide)⟩,⟨Int.le_refl _,(show (0:Int)≤65535 by decide)⟩,⟨Int.le_refl _,(show (0:Int)≤65535 by decide)⟩,⟨Int.le_refl _,(show (0:Int)≤65535 by decide)⟩,⟨Int.le_refl _,(show (0:Int)≤65535 by decide)⟩,⟨Int.le_refl _,(show (0:Int)≤65535 by decide)⟩,⟨Int.le_refl _,(show (0:Int)≤65535 by decide)⟩,⟨Int.le_refl _,(show (0:Int)≤63 by decide)⟩,⟨Int.le_refl _,(show (0:Int)≤63 by decide)⟩,⟨Int.le_refl _,(show (0:Int)≤3 by decide)⟩,fun _=>⟨Int.le_refl _,(show (0:Int)≤2047 by decide)⟩,fun _=>⟨Int.le_refl _,(show (0:Int)≤65535 by decide)⟩,fun _=>⟨Int.le_refl _,(show (0:Int)≤2047 by decide)⟩,fun _=>⟨Int.le_refl _,(show (0:Int)≤65535 by decide)⟩,b3.1,trivial⟩
set_option maxHeartbeats 20000000 in
theorem bOX (x0 x1:Ext) (d9:Int) (rbP0:inR (dK .u8) d9) (c1:List Value) (l1:c1.length=fT Pc1) (f1:aAj c1 0 Pc1) (x2:Ext) (w:World) (g0:kC x0 w [some .u32]) (g1:kC x1 w [some .u16]) (g2:kC x2 w [some .i64,some .i64,some .u8]) :
 Calls Try.prog 7 #[.agg #[x0.v,x1.v,.int .u8 d9],.agg c1.toArray,x2.v] w fun r w'=>r=.returned (.bool true)∧Below w.heap.size w w':=by
 have hc1:cellsOf (⟨[(x0.n:Int),(x1.n:Int),d9,(x2.n:Int),0,0,0,0,0,0,0,0,0,0,0,0,0,0,0,0,0,0,0,0,0,0,0,0,0,0,0,0,0,0,0,0,0,0],[],[aY x0 1 0,aY x1 1 0,qY c1 0 2,aY x2 3 0,aY x2 3 1,aY x2 3 2,fun _=>0,fun _=>0,fun _=>0,fun _=>0],[],Iv (fun i j=>match i,j with | 0,0=>x0 | 1,0=>x1 | 2,0=>x2 | _,_=>Ext.none)⟩:Env) Loc.id (oG 2 0 3 Pc1)=c1:=by
  rw [bFR Pc1 0 2 0 3 f1 (by intro j hj;rcases j with _ | j <;> first | rfl | (simp [Pc1,pcA,pcB,pcI] at hj <;> omega)) (by intro j hj;simp [Pc1,pcA,pcB,pcI] at hj) (by intro j hj;simp [Pc1,pcA,pcB,pcI] at hj),List.drop_zero,← l1,List.take_length]
 have hx0:SV.aB (⟨[(x0.n:Int),(x1.n:Int),d9,(x2.n:Int),0,0,0,0,0,0,0,0,0,0,0,0,0,0,0,0,0,0,0,0,0,0,0,0,0,0,0,0,0,0,0,0,0,0],[],[aY x0 1 0,aY x1 1 0,qY c1 0 2,aY x2 3 0,aY x2 3 1,aY x2 3 2,fun _=>0,fun _=>0,fun _=>0,fun _=>0],[],Iv (fun i j=>match i,j with | 0,0=>x0 | 1,0=>x1 | 2,0=>x2 | _,_=>Ext.none)⟩:Env) Loc.id (.s (.xslc 0 (.lit 0) (.lit 0) (.v 0)))=x0.v:=iD g0 rfl rfl
 have hx1:SV.aB (⟨[(x0.n:Int),(x1.n:Int),d9,(x2.n:Int),0,0,0,0,0,0,0,0,0,0,0,0,0,0,0,0,0,0,0,0,0,0,0,0,0,0,0,0,0,0,0,0,0,0],[],[aY x0 1 0,aY x1 1 0,qY c1 0 2,aY x2 3 0,aY x2 3 1,aY x2 3 2,fun _=>0,fun _=>0,fun _=>0,fun _=>0],[],Iv (fun i j=>match i,j with | 0,0=>x0 | 1,0=>x1 | 2,0=>x2 | _,_=>Ext.none)⟩:Env) Loc.id (.s (.xslc 1 (.lit 0) (.lit 0) (.v 1)))=x1.v:=iD g1 rfl rfl
 have hx2:SV.aB (⟨[(x0.n:Int),(x1.n:Int),d9,(x2.n:Int),0,0,0,0,0,0,0,0,0,0,0,0,0,0,0,0,0,0,0,0,0,0,0,0,0,0,0,0,0,0,0,0,0,0],[],[aY x0 1 0,aY x1 1 0,qY c1 0 2,aY x2 3 0,aY x2 3 1,aY x2 3 2,fun _=>0,fun _=>0,fun _=>0,fun _=>0],[],Iv (fun i j=>match i,j with | 0,0=>x0 | 1,0=>x1 | 2,0=>x2 | _,_=>Ext.none)⟩:Env) Loc.id (.s (.xslc 2 (.lit 0) (.lit 0) (.v 3)))=x2.v:=iD g2 rfl rfl
 have hargs:(eLs.map (SV.aB (⟨[(x0.n:Int),(x1.n:Int),d9,(x2.n:Int),0,0,0,0,0,0,0,0,0,0,0,0,0,0,0,0,0,0,0,0,0,0,0,0,0,0,0,0,0,0,0,0,0,0],[],[aY x0 1 0,aY x1 1 0,qY c1 0 2,aY x2 3 0,aY x2 3 1,aY x2 3 2,fun _=>0,fun _=>0,fun _=>0,fun _=>0],[],Iv (fun i j=>match i,j with | 0,0=>x0 | 1,0=>x1 | 2,0=>x2 | _,_=>Ext.none)⟩:Env) Loc.id)).toArray=#[.agg #[x0.v,x1.v,.int .u8 d9],.agg c1.toArray,x2.v]:=by
  refine congrArg List.toArray ?_
  exact (gV (aBu hx0 hx1 rfl) (gV (congrArg (fun l=>Value.agg (List.toArray l)) hc1) (gV hx2 rfl)))
 rw [← hargs]
 have hok:Hyp.ok eHy (⟨[(x0.n:Int),(x1.n:Int),d9,(x2.n:Int),0,0,0,0,0,0,0,0,0,0,0,0,0,0,0,0,0,0,0,0,0,0,0,0,0,0,0,0,0,0,0,0,0,0],[],[aY x0 1 0,aY x1 1 0,qY c1 0 2,aY x2 3 0,aY x2 3 1,aY x2 3 2,fun _=>0,fun _=>0,fun _=>0,fun _=>0],[],Iv (fun i j=>match i,j with | 0,0=>x0 | 1,0=>x1 | 2,0=>x2 | _,_=>Ext.none)⟩:Env):=by
  refine ⟨?_,?_,?_,(fun p hp=>aIm _ p hp),?_,by simp [eHy]⟩
  ·intro p hp
   simp only [eHy,List.mem_cons,List.not_mem_nil,or_false] at hp
   rcases hp with rfl | rfl | rfl
   ·exact pL g0 rfl rfl rfl
   ·exact pL g1 rfl rfl rfl
   ·exact (aWr (n:=.v 3) [.i64,.i64,.u8] [3,4,5] g2 (by decide) rfl rfl rfl (fun f a h=>by rcases f with _ | _ | _ | f <;> simp only [List.getElem?_cons_zero,List.getElem?_cons_succ,List.getElem?_nil,Option.some.injEq,reduceCtorEq] at h <;> subst h <;> first | exact rfl | exact rfl | exact rfl))
  ·intro p hp
   simp only [eHy,List.mem_cons,List.not_mem_nil,or_false] at hp
   rcases hp with rfl | rfl | rfl | rfl
   ·exact fJ g0
   ·exact fJ g1
   ·exact rbP0
   ·exact fJ g2
  ·intro p hp
   simp only [eHy,List.mem_cons,List.not_mem_nil,or_false] at hp
   rcases hp with rfl | rfl | rfl | rfl | rfl | rfl
   ·exact gA g0
   ·exact gA g1
   ·exact aFc (f1)
   ·exact mL [.i64,.i64,.u8] g2 0 rfl
   ·exact mL [.i64,.i64,.u8] g2 1 rfl
   ·exact mL [.i64,.i64,.u8] g2 2 rfl
  ·exact fun p hp=>aIl _ p hp
 refine bBv (D:=eD) (hs:=ehs) (ρ:=(⟨[(x0.n:Int),(x1.n:Int),d9,(x2.n:Int),0,0,0,0,0,0,0,0,0,0,0,0,0,0,0,0,0,0,0,0,0,0,0,0,0,0,0,0,0,0,0,0,0,0],[],[aY x0 1 0,aY x1 1 0,qY c1 0 2,aY x2 3 0,aY x2 3 1,aY x2 3 2,fun _=>0,fun _=>0,fun _=>0,fun _=>0],[],Iv (fun i j=>match i,j with | 0,0=>x0 | 1,0=>x1 | 2,0=>x2 | _,_=>Ext.none)⟩:Env)) (G_ok _) (by kernel_rfl) rfl (bIB x0 x1 x2 ) emu est rfl ⟨rfl,rfl,rfl⟩ hok (evcS x0 x1 x2 ((x0.n:Int)) ((x1.n:Int)) (d9) ((x2.n:Int)) (aY x0 1 0) (aY x1 1 0) (qY c1 0 2) (aY x2 3 0) (aY x2 3 1) (aY x2 3 2) ⟨fJ g0,fJ g1,rbP0,fJ g2,gA g0,gA g1,aFc (f1),mL [.i64,.i64,.u8] g2 0 rfl,mL [.i64,.i64,.u8] g2 1 rfl,mL [.i64,.i64,.u8] g2 2 rfl,rfl,rfl,rfl,rfl,rfl,rfl,rfl,rfl,trivial⟩) ?_ w (fun i j=>by rcases i with _ | _ | _ | i <;> rcases j with _ | j <;> first | exact Ext.lU _ | exact g0.ok | exact g1.ok | exact g2.ok)
 intro j h ρ hj hI hz hInv
 rcases j with _ | _ | j
 ·simp only [ehs,List.getElem?_cons_zero,List.getElem?_cons_succ,Option.some.injEq] at hj;subst hj
  obtain ⟨F,J,K,L,y4,y5,y6,y7,y8,y9,a6,a7,a8,a9,b4,b5,b6,b7,b8,b9,c0,M,N,O,P,Q,T,U,V,X,Y,Z,a0,a1,a2,a3,a4,a5,u,z,A2,c,d,g,Z6,Z7,Z8,Z9,rfl,hB,hJ⟩:=hInv
  have hok2:Hyp.ok eh0.H (eV x0 x1 x2 F J K L y4 y5 y6 y7 y8 y9 a6 a7 a8 a9 b4 b5 b6 b7 b8 b9 c0 M N O P Q T U V X Y Z a0 a1 a2 a3 a4 a5 u z A2 c d g Z6 Z7 Z8 Z9):=by
   have l2:=hB;have l3:=hJ
   simp only [aAo] at l2;simp only [eJ0] at l3
   obtain ⟨q8,q9,r3,r4,r5,r6,r7,r8,r9,s0,t1,t2,t3,f6,f8,f9,g3,g4,_⟩:=l2
   obtain ⟨s1,s2,s3,s4,s5,s6,s7,s8,s9,t0,m0,m1,m2,m3,m4,m5,n0,n1,n2,n3,n4,n5,n6,n7,n8,n9,o0,o1,o2,o3,o4,o5,o6,o7,o8,o9,p3,p4,hx,_⟩:=l3
   refine ⟨?_,?_,?_,(fun p hp=>aIm _ p hp),?_,by simp [eh0]⟩
   ·intro p hp
    simp only [eh0,List.mem_cons,List.not_mem_nil,or_false] at hp
    rcases hp with rfl | rfl | rfl
    ·exact pL g0 rfl t1 f6
    ·exact pL g1 rfl t2 f8
    ·exact (aWr (n:=.v 3) [.i64,.i64,.u8] [3,4,5] g2 (by decide) rfl rfl t3 (fun f a h=>by rcases f with _ | _ | _ | f <;> simp only [List.getElem?_cons_zero,List.getElem?_cons_succ,List.getElem?_nil,Option.some.injEq,reduceCtorEq] at h <;> subst h <;> first | exact f9 | exact g3 | exact g4))
   ·intro p hp
    simp only [eh0,List.mem_cons,List.not_mem_nil,or_false] at hp
    rcases hp with rfl | rfl | rfl | rfl | rfl | rfl | rfl | rfl | rfl | rfl | rfl | rfl | rfl | rfl | rfl | rfl | rfl | rfl | rfl | rfl | rfl | rfl | rfl | rfl | rfl | rfl | rfl | rfl | rfl | rfl | rfl | rfl | rfl | rfl | rfl | rfl | rfl | rfl
    ·exact q8
    ·exact q9
    ·exact r3
    ·exact r4
    ·exact s1
    ·exact s2
    ·exact s3
    ·exact s4
    ·exact s5
    ·exact s6
    ·exact s7
    ·exact s8
    ·exact s9
    ·exact t0
    ·exact m0
    ·exact m1
    ·exact m2
    ·exact m3
    ·exact m4
    ·exact m5
    ·exact n0
    ·exact n1
    ·exact n2
    ·exact n3
    ·exact n4
    ·exact n5
    ·exact n6
    ·exact n7
    ·exact n8
    ·exact n9
    ·exact o0
    ·exact o1
    ·exact o2
    ·exact o3
    ·exact o4
    ·exact o5
    ·exact o6
    ·exact o7
   ·intro p hp
    simp only [eh0,List.mem_cons,List.not_mem_nil,or_false] at hp
    rcases hp with rfl | rfl | rfl | rfl | rfl | rfl | rfl | rfl | rfl | rfl
    ·exact r5
    ·exact r6
    ·exact r7
    ·exact r8
    ·exact r9
    ·exact s0
    ·exact o8
    ·exact o9
    ·exact p3
    ·exact p4
   ·exact fun p hp=>aIl _ p hp
  exact ⟨hok2,LT.bAc esg0 (evc0 x0 x1 x2 F J K L y4 y5 y6 y7 y8 y9 a6 a7 a8 a9 b4 b5 b6 b7 b8 b9 c0 M N O P Q T U V X Y Z a0 a1 a2 a3 a4 a5 u z A2 c d g Z6 Z7 Z8 Z9 hB hJ hok2)⟩
 ·simp only [ehs,List.getElem?_cons_zero,List.getElem?_cons_succ,Option.some.injEq] at hj;subst hj
  obtain ⟨F,J,K,L,y4,y5,y6,y7,y8,y9,a6,a7,a8,a9,b4,b5,b6,b7,b8,b9,c0,M,N,O,P,Q,T,U,V,X,Y,Z,a0,a1,a2,a3,a4,a5,u,z,A2,c,d,g,Z6,Z7,Z8,Z9,rfl,hB,hJ⟩:=hInv
  have hok2:Hyp.ok eh1.H (eV x0 x1 x2 F J K L y4 y5 y6 y7 y8 y9 a6 a7 a8 a9 b4 b5 b6 b7 b8 b9 c0 M N O P Q T U V X Y Z a0 a1 a2 a3 a4 a5 u z A2 c d g Z6 Z7 Z8 Z9):=by
   have l2:=hB;have l3:=hJ
   simp only [aAo] at l2;simp only [eJ1] at l3
   obtain ⟨q8,q9,r3,r4,r5,r6,r7,r8,r9,s0,t1,t2,t3,f6,f8,f9,g3,g4,_⟩:=l2
   obtain ⟨s1,s2,s3,s4,s5,s6,s7,s8,s9,t0,m0,m1,m2,m3,m4,m5,n0,n1,n2,n3,n4,n5,n6,n7,n8,n9,o0,o1,o2,o3,o4,o5,o6,o7,o8,o9,p3,p4,hx,_⟩:=l3
   refine ⟨?_,?_,?_,(fun p hp=>aIm _ p hp),?_,by simp [eh1]⟩
   ·intro p hp
    simp only [eh1,List.mem_cons,List.not_mem_nil,or_false] at hp
    rcases hp with rfl | rfl | rfl
    ·exact pL g0 rfl t1 f6
    ·exact pL g1 rfl t2 f8
    ·exact (aWr (n:=.v 3) [.i64,.i64,.u8] [3,4,5] g2 (by decide) rfl rfl t3 (fun f a h=>by rcases f with _ | _ | _ | f <;> simp only [List.getElem?_cons_zero,List.getElem?_cons_succ,List.getElem?_nil,Option.some.injEq,reduceCtorEq] at h <;> subst h <;> first | exact f9 | exact g3 | exact g4))
   ·intro p hp
    simp only [eh1,List.mem_cons,List.not_mem_nil,or_false] at hp
    rcases hp with rfl | rfl | rfl | rfl | rfl | rfl | rfl | rfl | rfl | rfl | rfl | rfl | rfl | rfl | rfl | rfl | rfl | rfl | rfl | rfl | rfl | rfl | rfl | rfl | rfl | rfl | rfl | rfl | rfl | rfl | rfl | rfl | rfl | rfl | rfl | rfl | rfl | rfl
    ·exact q8
    ·exact q9
    ·exact r3
    ·exact r4
    ·exact s1
    ·exact s2
    ·exact s3
    ·exact s4
    ·exact s5
    ·exact s6
    ·exact s7
    ·exact s8
    ·exact s9
    ·exact t0
    ·exact m0
    ·exact m1
    ·exact m2
    ·exact m3
    ·exact m4
    ·exact m5
    ·exact n0
    ·exact n1
    ·exact n2
    ·exact n3
    ·exact n4
    ·exact n5
    ·exact n6
    ·exact n7
    ·exact n8
    ·exact n9
    ·exact o0
    ·exact o1
    ·exact o2
    ·exact o3
    ·exact o4
    ·exact o5
    ·exact o6
    ·exact o7
   ·intro p hp
    simp only [eh1,List.mem_cons,List.not_mem_nil,or_false] at hp
    rcases hp with rfl | rfl | rfl | rfl | rfl | rfl | rfl | rfl | rfl | rfl
    ·exact r5
    ·exact r6
    ·exact r7
    ·exact r8
    ·exact r9
    ·exact s0
    ·exact o8
    ·exact o9
    ·exact p3
    ·exact p4
   ·exact fun p hp=>aIl _ p hp
  exact ⟨hok2,LT.bAc esg1 (evc1 x0 x1 x2 F J K L y4 y5 y6 y7 y8 y9 a6 a7 a8 a9 b4 b5 b6 b7 b8 b9 c0 M N O P Q T U V X Y Z a0 a1 a2 a3 a4 a5 u z A2 c d g Z6 Z7 Z8 Z9 hB hJ hok2)⟩
 ·simp [ehs] at hj
theorem calls (x0 x1:Ext) (d9:Int) (rbP0:inR (dK .u8) d9) (c1:List Value) (l1:c1.length=fT Pc1) (f1:aAj c1 0 Pc1) (x2:Ext) (w:World) (g0:kC x0 w [some .u32]) (g1:kC x1 w [some .u16]) (g2:kC x2 w [some .i64,some .i64,some .u8]) :
 Calls Try.prog 7 #[.agg #[x0.v,x1.v,.int .u8 d9],.agg c1.toArray,x2.v] w fun r w'=>r=.returned (.bool true)∧Below w.heap.size w w' :=
 bOX x0 x1 d9 rbP0 c1 l1 f1 x2 w g0 g1 g2
theorem own:ownKnob Try.prog.godebug=none:=by kernel_rfl
theorem lifted (os:Os) (started:os.Started) (H:Type) (enc:TypeId × Value→H) :
 ReturnsInHanded {} Try.checked os 7 .any (Rows.signalSavedSpec.pre6 enc Try.prog Try.f7 Rows.signalSavedRow.domain false) (Rows.signalSavedSpec.post enc Try.prog Try.f7 false true false false):=by
 refine returnsInHanded_of_change (C:=Try.checked) own started (by kernel_rfl) Try.func7
  (ChangeSpec.witness6 (enc:=enc) (C:=Try.checked) false ⟨#[],#[.agg #[.slice none 0 0,.slice none 0 0,.int .u8 0],.agg #[.int .i64 0,.int .i64 0],.slice none 0 0],[]⟩ 8 (by kernel_rfl) (by kernel_rfl) (by kernel_rfl) (by kernel_rfl)) ?_
 intro W base args ds gs before hval0 hW hcnd _
 have hval:∀ (j:Nat) t v,Try.f7.params[j]? = some t→args[j]? = some v→Value.okWide Try.prog W .any base t v:=hval0
 have hW':=hW
 obtain ⟨p,q,hA0,hV,rfl,hfz,hnd⟩:=hW
 have hA1:DataW.TrodAll enc Try.prog W 0 (fun _=>true) true Try.f7.params.toList args.toList ds p:=hA0
 rw [Try.params7] at hA1 hval
 obtain ⟨v0,vs0,d0,ds0,p0,q0,hargs,rfl,rfl,h0,r0⟩:=trodAll_cons hA1
 obtain ⟨v1,vs1,d1,ds1,p1,q1,rfl,rfl,rfl,h1,r1⟩:=trodAll_cons r0
 obtain ⟨v2,vs2,d2,ds2,p2,q2,rfl,rfl,rfl,h2,r2⟩:=trodAll_cons r1
 obtain ⟨rfl,rfl,rfl⟩:=trodAll_nil r2
 obtain rfl:args=#[v0,v1,v2]:=by cases args;simp_all
 obtain ⟨x0,x1,d9,rfl,g0,g1,rbP0⟩:=bBF (k0:=some .u32) (k1:=some .u16) (k2:=.u8) 8 Try.underlying32 (by kernel_rfl) ⟨rfl,rfl⟩ Try.underlying25 Try.underlying30 ⟨by kernel_rfl,by kernel_rfl⟩ ⟨by kernel_rfl,by kernel_rfl⟩ ⟨by kernel_rfl,by kernel_rfl⟩ (by kernel_rfl) (hval 0 32 v0 rfl rfl) h0
 obtain ⟨c1,rfl,l1,f1⟩:=bJh Pc1 8 (by kernel_rfl) (by kernel_rfl) (by kernel_rfl) (hval 1 62 v1 rfl rfl) h1
 obtain ⟨x2,rfl,g2⟩:=bFQ [some .i64,some .i64,some .u8] 4 Try.underlying45 (by kernel_rfl) (by kernel_rfl) (by decide) (hval 2 45 v2 rfl rfl) h2
 obtain ⟨rfl,rfl⟩:=trodVars_none hV
 refine (calls x0 x1 d9 rbP0 c1 l1 f1 x2 W g0 g1 g2).mono fun e W' ⟨he,hb⟩=>⟨_,he,?_⟩
 exact bFh (by kernel_rfl) (by kernel_rfl) rfl (by kernel_rfl) Try.underlying4 rfl hW' hb
theorem over:Rows.signalSavedRow.holds Try.pinned (OpenSpec.ofChange Rows.signalSavedSpec) :=
 OpenClaim.holds_of_wide 7 Try.f7 rfl rfl rfl rfl rfl rfl rfl ⟨rfl,rfl,rfl,rfl,rfl⟩ rfl rfl rfl rfl rfl (by kernel_rfl) Try.func7 (by kernel_rfl)
  (of_decide_eq_true (by kernel_rfl)) (by unfold Func.isWrapper;first | (rw [if_pos (by decide +kernel)];kernel_rfl) | (rw [if_neg (by decide +kernel)];exact ⟨rfl,rfl⟩))
  (fun os started H enc _=>lifted os started H enc)
theorem proved:Rows.SignalSavedSaid:=over
#print axioms proved
end Go.Proofs.Ytcckecfjjccffaa.SignalSaved
