/- A part of the law SignalLoads, which returns true for every input. A body is taken, if it is a state, and refused if not, with the document's error; then all is as it was; what was taken is saved again with the same bytes. No condition. -/
import Derived.Test.YtcckecfjjccffaaSignalLoadsA
namespace Go.Proofs.Ytcckecfjjccffaa.SignalLoads
open Go.Sx Go.ChangeShapes Go.WideShapes Go.ChangeAt Go.RowKit
set_option linter.unusedVariables false
set_option linter.unusedSimpArgs false
set_option maxRecDepth 100000
theorem xprun:enter Try.prog G Gh 3000 60 6 (eH (oE5++[((.add (.mul (.sel (.av 0) (.lit 6)) (.lit 256)) (.sel (.av 0) (.lit 5))),(2048,65535))]) oB) eLs []=some ([],.s (.bool (.blit true)),none):=by kernel_rfl
theorem bQK:enter Try.prog G Gh 3000 60 6 (eH (oE6++[((.add (.mul (.sel (.av 0) (.lit 31)) (.lit 256)) (.sel (.av 0) (.lit 30))),(2048,65535))]) oB) eLs []=some ([],.s (.bool (.blit true)),none):=by kernel_rfl
theorem bQL:enter Try.prog G Gh 3000 60 6 (eH (oE7++[((.add (.mul (.sel (.av 0) (.lit 33)) (.lit 256)) (.sel (.av 0) (.lit 32))),(2048,65535))]) oB) eLs []=some ([],.s (.bool (.blit true)),none):=by kernel_rfl
theorem bQM:enter Try.prog G Gh 3000 60 6 (eH (oE8++[((.add (.mul (.sel (.av 0) (.lit 35)) (.lit 256)) (.sel (.av 0) (.lit 34))),(2048,65535))]) oB) eLs []=some ([],.s (.bool (.blit true)),none):=by kernel_rfl
theorem bQN:enter Try.prog G Gh 3000 60 6 (eH (oE9++[((.add (.mul (.sel (.av 0) (.lit 37)) (.lit 256)) (.sel (.av 0) (.lit 36))),(2048,65535))]) oB) eLs []=some ([],.s (.bool (.blit true)),none):=by kernel_rfl
def ok0:E:=.upd (.tab []) (.lit 0) (.lit 76)
def ok1:E:=.upd ok0 (.lit 1) (.lit 65)
def ok2:E:=.upd ok1 (.lit 2) (.lit 78)
def ok3:E:=.upd ok2 (.lit 3) (.lit 84)
def ok4:E:=.upd ok3 (.lit 4) (.lit 1)
def ok5:E:=.upd ok4 (.lit 5) (.lit 42)
def ok6:E:=.upd ok5 (.lit 6) (.lit 2)
def ok7:E:=.upd ok6 (.lit 7) (.lit 0)
def ok8:E:=.upd ok7 (.lit 8) (.lit 0)
def ok9:E:=.upd (.tab []) (.lit 0) (.lit 28)
def ok10:E:=.upd ok9 (.lit 1) (.lit 0)
def ok11:E:=.upd ok10 (.lit 2) (.lit 0)
def ok12:E:=.upd ok11 (.lit 3) (.lit 0)
def ok13:E:=.upd ok12 (.lit 4) (.lit 0)
def ok14:E:=.sel (.av 0) (.lit 5)
def ok15:E:=.upd ok13 (.lit 5) ok14
def ok16:E:=.div ok14 (.lit 256)
def ok17:E:=.sel (.av 0) (.lit 6)
def ok18:E:=.add ok16 ok17
def ok19:E:=.upd ok15 (.lit 6) ok18
def ok20:E:=.sel (.av 0) (.lit 7)
def ok21:E:=.upd ok19 (.lit 7) ok20
def ok22:E:=.div ok20 (.lit 256)
def ok23:E:=.sel (.av 0) (.lit 8)
def ok24:E:=.add ok22 ok23
def ok25:E:=.upd ok21 (.lit 8) ok24
def ok26:E:=.sel (.av 0) (.lit 9)
def ok27:E:=.upd ok25 (.lit 9) ok26
def ok28:E:=.div ok26 (.lit 256)
def ok29:E:=.sel (.av 0) (.lit 10)
def ok30:E:=.add ok28 ok29
def ok31:E:=.upd ok27 (.lit 10) ok30
def ok32:E:=.sel (.av 0) (.lit 11)
def ok33:E:=.upd ok31 (.lit 11) ok32
def ok34:E:=.div ok32 (.lit 256)
def ok35:E:=.sel (.av 0) (.lit 12)
def ok36:E:=.add ok34 ok35
def ok37:E:=.upd ok33 (.lit 12) ok36
def ok38:E:=.sel (.av 0) (.lit 13)
def ok39:E:=.upd ok37 (.lit 13) ok38
def ok40:E:=.div ok38 (.lit 256)
def ok41:E:=.sel (.av 0) (.lit 14)
def ok42:E:=.add ok40 ok41
def ok43:E:=.upd ok39 (.lit 14) ok42
def ok44:E:=.sel (.av 0) (.lit 16)
def ok45:E:=.mul ok44 (.lit 256)
def ok46:E:=.sel (.av 0) (.lit 15)
def ok47:E:=.add ok45 ok46
def ok48:E:=.upd ok43 (.lit 15) ok47
def ok49:E:=.upd ok48 (.lit 16) (.lit 0)
def ok50:E:=.sel (.av 0) (.lit 17)
def ok51:E:=.upd ok49 (.lit 17) ok50
def ok52:E:=.div ok50 (.lit 256)
def ok53:E:=.sel (.av 0) (.lit 18)
def ok54:E:=.add ok52 ok53
def ok55:E:=.upd ok51 (.lit 18) ok54
def ok56:E:=.sel (.av 0) (.lit 19)
def ok57:E:=.upd ok55 (.lit 19) ok56
def ok58:E:=.div ok56 (.lit 256)
def ok59:E:=.sel (.av 0) (.lit 20)
def ok60:E:=.add ok58 ok59
def ok61:E:=.upd ok57 (.lit 20) ok60
def ok62:E:=.sel (.av 0) (.lit 21)
def ok63:E:=.upd ok61 (.lit 21) ok62
def ok64:E:=.div ok62 (.lit 256)
def ok65:E:=.sel (.av 0) (.lit 22)
def ok66:E:=.add ok64 ok65
def ok67:E:=.upd ok63 (.lit 22) ok66
def ok68:E:=.sel (.av 0) (.lit 23)
def ok69:E:=.upd ok67 (.lit 23) ok68
def ok70:E:=.div ok68 (.lit 256)
def ok71:E:=.sel (.av 0) (.lit 24)
def ok72:E:=.add ok70 ok71
def ok73:E:=.upd ok69 (.lit 24) ok72
def ok74:E:=.sel (.av 0) (.lit 25)
def ok75:E:=.upd ok73 (.lit 25) ok74
def ok76:E:=.div ok74 (.lit 256)
def ok77:E:=.sel (.av 0) (.lit 26)
def ok78:E:=.add ok76 ok77
def ok79:E:=.upd ok75 (.lit 26) ok78
def ok80:E:=.sel (.av 0) (.lit 27)
def ok81:E:=.upd ok79 (.lit 27) ok80
def ok82:E:=.sel (.av 0) (.lit 28)
def ok83:E:=.upd ok81 (.lit 28) ok82
def ok84:E:=.sel (.av 0) (.lit 29)
def ok85:E:=.upd ok83 (.lit 29) ok84
def ok86:E:=.sel (.av 0) (.lit 30)
def ok87:E:=.upd ok85 (.lit 30) ok86
def ok88:E:=.div ok86 (.lit 256)
def ok89:E:=.sel (.av 0) (.lit 31)
def ok90:E:=.add ok88 ok89
def ok91:E:=.upd ok87 (.lit 31) ok90
def ok92:E:=.sel (.av 0) (.lit 32)
def ok93:E:=.upd ok91 (.lit 32) ok92
def ok94:E:=.div ok92 (.lit 256)
def ok95:E:=.sel (.av 0) (.lit 33)
def ok96:E:=.add ok94 ok95
def ok97:E:=.upd ok93 (.lit 33) ok96
def ok98:E:=.sel (.av 0) (.lit 34)
def ok99:E:=.upd ok97 (.lit 34) ok98
def ok100:E:=.div ok98 (.lit 256)
def ok101:E:=.sel (.av 0) (.lit 35)
def ok102:E:=.add ok100 ok101
def ok103:E:=.upd ok99 (.lit 35) ok102
def bKz:E:=.sel (.av 0) (.lit 36)
def ok105:E:=.upd ok103 (.lit 36) bKz
def ok106:E:=.div bKz (.lit 256)
def ok107:E:=.sel (.av 0) (.lit 37)
def ok108:E:=.add ok106 ok107
def ok109:E:=.upd ok105 (.lit 37) ok108
def ok110:E:=.blt (.tab []) (.lit 0) (.lit 38) ok109 (.lit 0)
def ok111:E:=.upd (.tab []) (.lit 0) (.lit 0)
def ok112:E:=.upd ok111 (.lit 1) (.lit 2)
def ok113:E:=.upd ok112 (.lit 2) (.lit 0)
def ok114:E:=.upd ok113 (.lit 3) (.lit 0)
def aYZ:E:=.app 51 (.cons (.lit 42) (.cons (.av 0) .nil))
def ok116:E:=.sel aYZ (.lit 0)
def bEp:E:=.upd aYZ (.lit 0) ok116
def aSC:E:=.app 50 (.cons bEp .nil)
def ok119:E:=.blt ok114 (.lit 4) (.lit 512) aSC (.lit 0)
def aZa:E:=.blt ok110 (.lit 38) (.lit 516) ok119 (.lit 0)
def ok121:E:=.upd aZa (.lit 1) (.lit 37)
def ok122:E:=.upd ok121 (.lit 2) (.lit 2)
def ok123:E:=.upd ok122 (.lit 3) (.lit 0)
def aZb:E:=.upd ok123 (.lit 4) (.lit 0)
def aZc:E:=.app 10 (.cons (.lit 554) (.cons aZb .nil))
def ok126:E:=.mod aZc (.lit 256)
def ok127:E:=.upd ok8 (.lit 9) ok126
def ok128:E:=.div aZc (.lit 256)
def ok129:E:=.mod ok128 (.lit 256)
def ok130:E:=.upd ok127 (.lit 10) ok129
def ok131:E:=.div aZc (.lit 65536)
def ok132:E:=.mod ok131 (.lit 256)
def ok133:E:=.upd ok130 (.lit 11) ok132
def ok134:E:=.div aZc (.lit 16777216)
def ok135:E:=.upd ok133 (.lit 12) ok134
def cG:E:=.blt ok135 (.lit 13) (.lit 554) aZb (.lit 0)
def bKA:E:=.aeq false (.lit 554) cG (.av 0) 13 0
theorem okrun:enter Try.prog G Gh 3000 60 6 (eH oE10 oB) eLs []=some ([],.s (.bool bKA),none):=by kernel_rfl
theorem bB {p:Nat→Prop} {n:Nat} (h:∀ j,j<n→p j) (hn:p n):∀ j,j<n+1→p j:=fun j hj=>by
 rcases Nat.lt_or_ge j n with a | a
 ·exact h j a
 ·have e:j=n:=by omega
  rw [e];exact hn
theorem okv (xs:Nat→Nat→Ext) (n o q r:Int) (A B C:Nat→Int) (hA:∀ j,0≤A j∧A j≤255) (f0:28≤A 0∧A 0≤28) (f1:549≤A 4*16777216+A 3*65536+A 2*256+A 1∧A 4*16777216+A 3*65536+A 2*256+A 1≤549) (f2:512≤A 41*16777216+A 40*65536+A 39*256+A 38∧A 41*16777216+A 40*65536+A 39*256+A 38≤512) (f3:0≤A 29∧A 29≤3) (f4:0≤A 27∧A 27≤63) (f5:0≤A 28∧A 28≤63) (f6:0≤A 16*256+A 15∧A 16*256+A 15≤255) (f7:0≤A 18*256+A 17∧A 18*256+A 17≤1023) (f8:0≤A 6*256+A 5∧A 6*256+A 5≤2047) (f9:0≤A 31*256+A 30∧A 31*256+A 30≤2047) (f10:0≤A 33*256+A 32∧A 33*256+A 32≤2047) (f11:0≤A 35*256+A 34∧A 35*256+A 34≤2047) (f12:0≤A 37*256+A 36∧A 37*256+A 36≤2047):E.b (⟨[n,o,q,r],[],[A,B,C],[],Iv xs⟩:Env) bKA=true:=by
 have h50:∀ k,E.a (⟨[n,o,q,r],[],[A,B,C],[],Iv xs⟩:Env) aSC k=A (42+k):=fun k=>by
  rw [show E.a (⟨[n,o,q,r],[],[A,B,C],[],Iv xs⟩:Env) aSC=iW (E.a (⟨[n,o,q,r],[],[A,B,C],[],Iv xs⟩:Env) bEp) from bCc rfl _,show E.a (⟨[n,o,q,r],[],[A,B,C],[],Iv xs⟩:Env) bEp=E.a (⟨[n,o,q,r],[],[A,B,C],[],Iv xs⟩:Env) aYZ from bIV _ _,show E.a (⟨[n,o,q,r],[],[A,B,C],[],Iv xs⟩:Env) aYZ=pY 42 A from bCd rfl _ _]
  exact bAR hA k
 have q0:=hA 0
 have q1:=hA 1
 have q2:=hA 2
 have q3:=hA 3
 have q4:=hA 4
 have q5:=hA 5
 have q6:=hA 6
 have q7:=hA 7
 have q8:=hA 8
 have q9:=hA 9
 have q10:=hA 10
 have q11:=hA 11
 have q12:=hA 12
 have q13:=hA 13
 have q14:=hA 14
 have q15:=hA 15
 have q16:=hA 16
 have q17:=hA 17
 have q18:=hA 18
 have q19:=hA 19
 have q20:=hA 20
 have q21:=hA 21
 have q22:=hA 22
 have q23:=hA 23
 have q24:=hA 24
 have q25:=hA 25
 have q26:=hA 26
 have q27:=hA 27
 have q28:=hA 28
 have q29:=hA 29
 have q30:=hA 30
 have q31:=hA 31
 have q32:=hA 32
 have q33:=hA 33
 have q34:=hA 34
 have q35:=hA 35
 have q36:=hA 36
 have q37:=hA 37
 have q38:=hA 38
 have q39:=hA 39
 have q40:=hA 40
 have q41:=hA 41
 have hs:∀ j,j<42→E.a (⟨[n,o,q,r],[],[A,B,C],[],Iv xs⟩:Env) cG (13+j)=A (0+j):=by
  refine bB (bB (bB (bB (bB (bB (bB (bB (bB (bB (bB (bB (bB (bB (bB (bB (bB (bB (bB (bB (bB (bB (bB (bB (bB (bB (bB (bB (bB (bB (bB (bB (bB (bB (bB (bB (bB (bB (bB (bB (bB (bB (fun j h=>absurd h (Nat.not_lt_zero _)) ?_) ?_) ?_) ?_) ?_) ?_) ?_) ?_) ?_) ?_) ?_) ?_) ?_) ?_) ?_) ?_) ?_) ?_) ?_) ?_) ?_) ?_) ?_) ?_) ?_) ?_) ?_) ?_) ?_) ?_) ?_) ?_) ?_) ?_) ?_) ?_) ?_) ?_) ?_) ?_) ?_) ?_
  ·exact (show E.a (⟨[n,o,q,r],[],[A,B,C],[],Iv xs⟩:Env) cG (13+0)=28 by kernel_rfl).trans (show 28=A 0 by omega)
  ·exact (show E.a (⟨[n,o,q,r],[],[A,B,C],[],Iv xs⟩:Env) cG (13+1)=37 by kernel_rfl).trans (show 37=A 1 by omega)
  ·exact (show E.a (⟨[n,o,q,r],[],[A,B,C],[],Iv xs⟩:Env) cG (13+2)=2 by kernel_rfl).trans (show 2=A 2 by omega)
  ·exact (show E.a (⟨[n,o,q,r],[],[A,B,C],[],Iv xs⟩:Env) cG (13+3)=0 by kernel_rfl).trans (show 0=A 3 by omega)
  ·exact (show E.a (⟨[n,o,q,r],[],[A,B,C],[],Iv xs⟩:Env) cG (13+4)=0 by kernel_rfl).trans (show 0=A 4 by omega)
  ·exact (show E.a (⟨[n,o,q,r],[],[A,B,C],[],Iv xs⟩:Env) cG (13+5)=A 5 by kernel_rfl).trans (show A 5=A 5 by omega)
  ·exact (show E.a (⟨[n,o,q,r],[],[A,B,C],[],Iv xs⟩:Env) cG (13+6)=((A 5 / 256)+A 6) by kernel_rfl).trans (show ((A 5 / 256)+A 6)=A 6 by omega)
  ·exact (show E.a (⟨[n,o,q,r],[],[A,B,C],[],Iv xs⟩:Env) cG (13+7)=A 7 by kernel_rfl).trans (show A 7=A 7 by omega)
  ·exact (show E.a (⟨[n,o,q,r],[],[A,B,C],[],Iv xs⟩:Env) cG (13+8)=((A 7 / 256)+A 8) by kernel_rfl).trans (show ((A 7 / 256)+A 8)=A 8 by omega)
  ·exact (show E.a (⟨[n,o,q,r],[],[A,B,C],[],Iv xs⟩:Env) cG (13+9)=A 9 by kernel_rfl).trans (show A 9=A 9 by omega)
  ·exact (show E.a (⟨[n,o,q,r],[],[A,B,C],[],Iv xs⟩:Env) cG (13+10)=((A 9 / 256)+A 10) by kernel_rfl).trans (show ((A 9 / 256)+A 10)=A 10 by omega)
  ·exact (show E.a (⟨[n,o,q,r],[],[A,B,C],[],Iv xs⟩:Env) cG (13+11)=A 11 by kernel_rfl).trans (show A 11=A 11 by omega)
  ·exact (show E.a (⟨[n,o,q,r],[],[A,B,C],[],Iv xs⟩:Env) cG (13+12)=((A 11 / 256)+A 12) by kernel_rfl).trans (show ((A 11 / 256)+A 12)=A 12 by omega)
  ·exact (show E.a (⟨[n,o,q,r],[],[A,B,C],[],Iv xs⟩:Env) cG (13+13)=A 13 by kernel_rfl).trans (show A 13=A 13 by omega)
  ·exact (show E.a (⟨[n,o,q,r],[],[A,B,C],[],Iv xs⟩:Env) cG (13+14)=((A 13 / 256)+A 14) by kernel_rfl).trans (show ((A 13 / 256)+A 14)=A 14 by omega)
  ·exact (show E.a (⟨[n,o,q,r],[],[A,B,C],[],Iv xs⟩:Env) cG (13+15)=((A 16*256)+A 15) by kernel_rfl).trans (show ((A 16*256)+A 15)=A 15 by omega)
  ·exact (show E.a (⟨[n,o,q,r],[],[A,B,C],[],Iv xs⟩:Env) cG (13+16)=0 by kernel_rfl).trans (show 0=A 16 by omega)
  ·exact (show E.a (⟨[n,o,q,r],[],[A,B,C],[],Iv xs⟩:Env) cG (13+17)=A 17 by kernel_rfl).trans (show A 17=A 17 by omega)
  ·exact (show E.a (⟨[n,o,q,r],[],[A,B,C],[],Iv xs⟩:Env) cG (13+18)=((A 17 / 256)+A 18) by kernel_rfl).trans (show ((A 17 / 256)+A 18)=A 18 by omega)
  ·exact (show E.a (⟨[n,o,q,r],[],[A,B,C],[],Iv xs⟩:Env) cG (13+19)=A 19 by kernel_rfl).trans (show A 19=A 19 by omega)
  ·exact (show E.a (⟨[n,o,q,r],[],[A,B,C],[],Iv xs⟩:Env) cG (13+20)=((A 19 / 256)+A 20) by kernel_rfl).trans (show ((A 19 / 256)+A 20)=A 20 by omega)
  ·exact (show E.a (⟨[n,o,q,r],[],[A,B,C],[],Iv xs⟩:Env) cG (13+21)=A 21 by kernel_rfl).trans (show A 21=A 21 by omega)
  ·exact (show E.a (⟨[n,o,q,r],[],[A,B,C],[],Iv xs⟩:Env) cG (13+22)=((A 21 / 256)+A 22) by kernel_rfl).trans (show ((A 21 / 256)+A 22)=A 22 by omega)
  ·exact (show E.a (⟨[n,o,q,r],[],[A,B,C],[],Iv xs⟩:Env) cG (13+23)=A 23 by kernel_rfl).trans (show A 23=A 23 by omega)
  ·exact (show E.a (⟨[n,o,q,r],[],[A,B,C],[],Iv xs⟩:Env) cG (13+24)=((A 23 / 256)+A 24) by kernel_rfl).trans (show ((A 23 / 256)+A 24)=A 24 by omega)
  ·exact (show E.a (⟨[n,o,q,r],[],[A,B,C],[],Iv xs⟩:Env) cG (13+25)=A 25 by kernel_rfl).trans (show A 25=A 25 by omega)
  ·exact (show E.a (⟨[n,o,q,r],[],[A,B,C],[],Iv xs⟩:Env) cG (13+26)=((A 25 / 256)+A 26) by kernel_rfl).trans (show ((A 25 / 256)+A 26)=A 26 by omega)
  ·exact (show E.a (⟨[n,o,q,r],[],[A,B,C],[],Iv xs⟩:Env) cG (13+27)=A 27 by kernel_rfl).trans (show A 27=A 27 by omega)
  ·exact (show E.a (⟨[n,o,q,r],[],[A,B,C],[],Iv xs⟩:Env) cG (13+28)=A 28 by kernel_rfl).trans (show A 28=A 28 by omega)
  ·exact (show E.a (⟨[n,o,q,r],[],[A,B,C],[],Iv xs⟩:Env) cG (13+29)=A 29 by kernel_rfl).trans (show A 29=A 29 by omega)
  ·exact (show E.a (⟨[n,o,q,r],[],[A,B,C],[],Iv xs⟩:Env) cG (13+30)=A 30 by kernel_rfl).trans (show A 30=A 30 by omega)
  ·exact (show E.a (⟨[n,o,q,r],[],[A,B,C],[],Iv xs⟩:Env) cG (13+31)=((A 30 / 256)+A 31) by kernel_rfl).trans (show ((A 30 / 256)+A 31)=A 31 by omega)
  ·exact (show E.a (⟨[n,o,q,r],[],[A,B,C],[],Iv xs⟩:Env) cG (13+32)=A 32 by kernel_rfl).trans (show A 32=A 32 by omega)
  ·exact (show E.a (⟨[n,o,q,r],[],[A,B,C],[],Iv xs⟩:Env) cG (13+33)=((A 32 / 256)+A 33) by kernel_rfl).trans (show ((A 32 / 256)+A 33)=A 33 by omega)
  ·exact (show E.a (⟨[n,o,q,r],[],[A,B,C],[],Iv xs⟩:Env) cG (13+34)=A 34 by kernel_rfl).trans (show A 34=A 34 by omega)
  ·exact (show E.a (⟨[n,o,q,r],[],[A,B,C],[],Iv xs⟩:Env) cG (13+35)=((A 34 / 256)+A 35) by kernel_rfl).trans (show ((A 34 / 256)+A 35)=A 35 by omega)
  ·exact (show E.a (⟨[n,o,q,r],[],[A,B,C],[],Iv xs⟩:Env) cG (13+36)=A 36 by kernel_rfl).trans (show A 36=A 36 by omega)
  ·exact (show E.a (⟨[n,o,q,r],[],[A,B,C],[],Iv xs⟩:Env) cG (13+37)=((A 36 / 256)+A 37) by kernel_rfl).trans (show ((A 36 / 256)+A 37)=A 37 by omega)
  ·exact (show E.a (⟨[n,o,q,r],[],[A,B,C],[],Iv xs⟩:Env) cG (13+38)=0 by kernel_rfl).trans (show 0=A 38 by omega)
  ·exact (show E.a (⟨[n,o,q,r],[],[A,B,C],[],Iv xs⟩:Env) cG (13+39)=2 by kernel_rfl).trans (show 2=A 39 by omega)
  ·exact (show E.a (⟨[n,o,q,r],[],[A,B,C],[],Iv xs⟩:Env) cG (13+40)=0 by kernel_rfl).trans (show 0=A 40 by omega)
  ·exact (show E.a (⟨[n,o,q,r],[],[A,B,C],[],Iv xs⟩:Env) cG (13+41)=0 by kernel_rfl).trans (show 0=A 41 by omega)
 have hb:∀ j,42≤j→j<554→E.a (⟨[n,o,q,r],[],[A,B,C],[],Iv xs⟩:Env) cG (13+j)=A (0+j):=fun j h1 h2=>by
  have e1:E.a (⟨[n,o,q,r],[],[A,B,C],[],Iv xs⟩:Env) cG (13+j)=E.a (⟨[n,o,q,r],[],[A,B,C],[],Iv xs⟩:Env) aZb (13+j-13+0):=by
   show (if 13≤13+j∧13+j<13+554 then _ else _)=_
   rw [if_pos (by omega)]
   rfl
  have e2:E.a (⟨[n,o,q,r],[],[A,B,C],[],Iv xs⟩:Env) aZb (13+j-13+0)=E.a (⟨[n,o,q,r],[],[A,B,C],[],Iv xs⟩:Env) aZa (13+j-13+0):=by
   show (if 13+j-13+0=4 then _ else (if 13+j-13+0=3 then _ else (if 13+j-13+0=2 then _ else (if 13+j-13+0=1 then _ else E.a (⟨[n,o,q,r],[],[A,B,C],[],Iv xs⟩:Env) aZa (13+j-13+0)))))=_
   rw [if_neg (by omega),if_neg (by omega),if_neg (by omega),if_neg (by omega)]
  have e3:E.a (⟨[n,o,q,r],[],[A,B,C],[],Iv xs⟩:Env) aZa (13+j-13+0)=E.a (⟨[n,o,q,r],[],[A,B,C],[],Iv xs⟩:Env) aSC (13+j-13+0-38+0-4+0):=by
   show (if 38≤13+j-13+0∧13+j-13+0<38+516 then (if 4≤13+j-13+0-38+0∧13+j-13+0-38+0<4+512 then E.a (⟨[n,o,q,r],[],[A,B,C],[],Iv xs⟩:Env) aSC (13+j-13+0-38+0-4+0) else _) else _)=_
   rw [if_pos (by omega),if_pos (by omega)]
  rw [e1,e2,e3,h50]
  congr 1;omega
 show E.b (⟨[n,o,q,r],[],[A,B,C],[],Iv xs⟩:Env) (.aeq false (.lit 554) cG (.av 0) 13 0)=true
 rw [aIu]
 refine List.all_eq_true.2 fun j hj=>?_
 have hj:j<554:=List.mem_range.1 hj
 rw [if_neg (by decide)]
 refine beq_iff_eq.2 ?_
 rcases Nat.lt_or_ge j 42 with g | g
 ·exact hs j g
 ·exact hb j g hj
end Go.Proofs.Ytcckecfjjccffaa.SignalLoads
