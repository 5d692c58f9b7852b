/- Contracts: what reads a body that is a state; what the document puts of an empty chip. No condition. -/
import Derived.Test.YtcckecfjjccffaaSgt
namespace Go.Proofs.Ytcckecfjjccffaa
open Go.Sx Go.ChangeShapes Go.WideShapes Go.ChangeAt Go.RowKit
set_option linter.unusedVariables false
set_option linter.unusedSimpArgs false
set_option maxRecDepth 100000
noncomputable def SRd:Ctx:=inl Try.prog (ctx [(44,cQ),(46,cQ),(27,fG 5),(33,dV 5),(20,eV)]) 3000 60 14
noncomputable def aZS:aV:=bCV Try.prog (ctx [(44,cQ),(46,cQ),(27,fG 5),(33,dV 5),(20,eV)]) 3000 60 14
theorem bBP (xs:Nat→Nat→Ext):cA Try.prog (Iv xs) SRd:=yA (kP (fun p hp=>by
 simp only [List.mem_cons,List.not_mem_nil,or_false] at hp
 rcases hp with rfl | rfl | rfl | rfl | rfl
 ·exact eI bCx rfl
 ·exact eI bCw rfl
 ·exact iT bAa
 ·exact iD bAc
 ·exact jH bCp
 )) (by kernel_rfl) 3000 60 14
def rt11:E:=.sel (.av 0) (.lit 41)
def rt12:E:=.mul rt11 (.lit 16777216)
def rt13:E:=.sel (.av 0) (.lit 40)
def rt14:E:=.mul rt13 (.lit 65536)
def rt15:E:=.add rt12 rt14
def rt16:E:=.sel (.av 0) (.lit 39)
def rt17:E:=.mul rt16 (.lit 256)
def rt18:E:=.add rt15 rt17
def rt19:E:=.sel (.av 0) (.lit 38)
def rt20:E:=.add rt18 rt19
def rt90:E:=.add rt20 (.lit 42)
def rt22:E:=.upd (.tab []) (.lit 0) (.v 0)
def rt23:E:=.sel (.av 0) (.lit 6)
def rt24:E:=.mul rt23 (.lit 256)
def rt25:E:=.sel (.av 0) (.lit 5)
def rt26:E:=.add rt24 rt25
def rt27:E:=.sel (.av 0) (.lit 8)
def rt28:E:=.mul rt27 (.lit 256)
def rt29:E:=.sel (.av 0) (.lit 7)
def rt30:E:=.add rt28 rt29
def rt31:E:=.sel (.av 0) (.lit 10)
def rt32:E:=.mul rt31 (.lit 256)
def rt33:E:=.sel (.av 0) (.lit 9)
def rt34:E:=.add rt32 rt33
def rt35:E:=.sel (.av 0) (.lit 12)
def rt36:E:=.mul rt35 (.lit 256)
def rt37:E:=.sel (.av 0) (.lit 11)
def rt38:E:=.add rt36 rt37
def rt39:E:=.sel (.av 0) (.lit 14)
def rt40:E:=.mul rt39 (.lit 256)
def rt41:E:=.sel (.av 0) (.lit 13)
def rt42:E:=.add rt40 rt41
def rt43:E:=.sel (.av 0) (.lit 16)
def rt44:E:=.mul rt43 (.lit 256)
def rt45:E:=.sel (.av 0) (.lit 15)
def rt46:E:=.add rt44 rt45
def rt47:E:=.sel (.av 0) (.lit 18)
def rt48:E:=.mul rt47 (.lit 256)
def rt49:E:=.sel (.av 0) (.lit 17)
def rt50:E:=.add rt48 rt49
def rt51:E:=.sel (.av 0) (.lit 20)
def rt52:E:=.mul rt51 (.lit 256)
def rt53:E:=.sel (.av 0) (.lit 19)
def rt54:E:=.add rt52 rt53
def rt55:E:=.sel (.av 0) (.lit 22)
def rt56:E:=.mul rt55 (.lit 256)
def rt57:E:=.sel (.av 0) (.lit 21)
def rt58:E:=.add rt56 rt57
def rt59:E:=.sel (.av 0) (.lit 24)
def rt60:E:=.mul rt59 (.lit 256)
def rt61:E:=.sel (.av 0) (.lit 23)
def rt62:E:=.add rt60 rt61
def rt63:E:=.sel (.av 0) (.lit 26)
def rt64:E:=.mul rt63 (.lit 256)
def rt65:E:=.sel (.av 0) (.lit 25)
def rt66:E:=.add rt64 rt65
def rt67:E:=.sel (.av 0) (.lit 27)
def rt68:E:=.sel (.av 0) (.lit 28)
def rt69:E:=.sel (.av 0) (.lit 29)
def rt70:E:=.sel (.av 0) (.lit 31)
def rt71:E:=.mul rt70 (.lit 256)
def rt72:E:=.sel (.av 0) (.lit 30)
def rt73:E:=.add rt71 rt72
def rt74:E:=.upd (.tab []) (.lit 0) rt73
def rt75:E:=.sel (.av 0) (.lit 33)
def rt76:E:=.mul rt75 (.lit 256)
def rt77:E:=.sel (.av 0) (.lit 32)
def rt78:E:=.add rt76 rt77
def rt79:E:=.upd rt74 (.lit 1) rt78
def rt80:E:=.sel (.av 0) (.lit 35)
def rt81:E:=.mul rt80 (.lit 256)
def rt82:E:=.sel (.av 0) (.lit 34)
def rt83:E:=.add rt81 rt82
def rt84:E:=.upd rt79 (.lit 2) rt83
def rt85:E:=.sel (.av 0) (.lit 37)
def rt86:E:=.mul rt85 (.lit 256)
def rt87:E:=.sel (.av 0) (.lit 36)
def rt88:E:=.add rt86 rt87
def rt89:E:=.upd rt84 (.lit 3) rt88
def rt91:E:=.blt (.tab []) (.lit 0) (.lit 512) (.av 0) (.lit 42)
def rbH:Hyp:=⟨[(.v 0,(554,1048576)),((.sel (.av 0) (.lit 0)),(28,28)),((.add (.add (.add (.mul (.sel (.av 0) (.lit 4)) (.lit 16777216)) (.mul (.sel (.av 0) (.lit 3)) (.lit 65536))) (.mul (.sel (.av 0) (.lit 2)) (.lit 256))) (.sel (.av 0) (.lit 1))),(549,549)),((.add (.add (.add (.mul (.sel (.av 0) (.lit 41)) (.lit 16777216)) (.mul (.sel (.av 0) (.lit 40)) (.lit 65536))) (.mul (.sel (.av 0) (.lit 39)) (.lit 256))) (.sel (.av 0) (.lit 38))),(512,512))],[(0,(0,255))],[(10,(0,4294967295))],[(50,(0,255)),(51,(0,65535))],[],[]⟩
def rbL:List SV:=[.s (.ptr 2 (.lit 0)),.s (.ptr 1 (.lit 0))]
def rbM:Mem:=[⟨5,[.run .u8 (.v 0) (.av 0) 0],true,some 1,false⟩,⟨98,[.one (.slc 0 (.lit 0) (.v 0) (.op (.lit 0))),.one (.int .i64 (.lit 0)),.one (.int .i64 (.v 0)),.run .i64 (.lit 16) (.tab []) 0,.one (.int .i64 (.lit 0))],true,none,false⟩,⟨79,[.one (.int .u16 (.lit 0)),.one (.int .u16 (.lit 0)),.one (.int .u16 (.lit 0)),.one (.int .u16 (.lit 0)),.one (.int .u16 (.lit 0)),.one (.int .u16 (.lit 0)),.one (.int .u16 (.lit 0)),.one (.int .u16 (.lit 0)),.one (.int .u16 (.lit 0)),.one (.int .u16 (.lit 0)),.one (.int .u16 (.lit 0)),.one (.int .u16 (.lit 0)),.one (.int .u16 (.lit 0)),.one (.int .u8 (.lit 0)),.one (.int .u8 (.lit 0)),.one (.int .u8 (.lit 0)),.run .u16 (.lit 4) (.tab []) 0,.run .u16 (.lit 256) (.tab []) 0],true,none,false⟩]
def rbO:Mem:=[⟨5,[.run .u8 (.v 0) (.av 0) 0],true,some 1,false⟩,⟨98,[.one (.slc 0 (.lit 0) (.v 0) (.op (.lit 0))),.one (.int .i64 rt90),.one (.int .i64 (.v 0)),.run .i64 (.lit 16) rt22 0,.one (.int .i64 (.lit 0))],true,none,false⟩,⟨79,[.one (.int .u16 rt26),.one (.int .u16 rt30),.one (.int .u16 rt34),.one (.int .u16 rt38),.one (.int .u16 rt42),.one (.int .u16 rt46),.one (.int .u16 rt50),.one (.int .u16 rt54),.one (.int .u16 rt58),.one (.int .u16 (.lit 0)),.one (.int .u16 (.lit 0)),.one (.int .u16 rt62),.one (.int .u16 rt66),.one (.int .u8 rt67),.one (.int .u8 rt68),.one (.int .u8 rt69),.run .u16 (.lit 4) rt89 0,.run .u16 (.lit 256) (.app 51 (.cons (.lit 42) (.cons (.av 0) .nil))) 0],true,none,false⟩,⟨55,[.one (.ptr 1 (.lit 0))],true,none,false⟩,⟨33,[.one (.int .i64 (.lit 0))],true,none,false⟩,⟨5,[.run .u8 (.lit 512) rt91 0],true,some 1,false⟩]
def rbN:List E:=[]
def rbR:SV:=.s (.int .i64 (.lit 0))
--SKEND
def rb0:E:=.sel (.av 0) (.lit 0)
def rb1:E:=.sel (.av 0) (.lit 4)
def rb2:E:=.mul rb1 (.lit 16777216)
def rb3:E:=.sel (.av 0) (.lit 3)
def rb4:E:=.mul rb3 (.lit 65536)
def rb5:E:=.add rb2 rb4
def rb6:E:=.sel (.av 0) (.lit 2)
def rb7:E:=.mul rb6 (.lit 256)
def rb8:E:=.add rb5 rb7
def rb9:E:=.sel (.av 0) (.lit 1)
def bOw:E:=.add rb8 rb9
def rb11:E:=.sel (.av 0) (.lit 41)
def rb12:E:=.mul rb11 (.lit 16777216)
def rb13:E:=.sel (.av 0) (.lit 40)
def rb14:E:=.mul rb13 (.lit 65536)
def rb15:E:=.add rb12 rb14
def rb16:E:=.sel (.av 0) (.lit 39)
def rb17:E:=.mul rb16 (.lit 256)
def rb18:E:=.add rb15 rb17
def rb19:E:=.sel (.av 0) (.lit 38)
def bOx:E:=.add rb18 rb19
def rb21:E:=.add bOw (.lit 5)
def bHL:E:=.upd (.tab []) (.lit 0) (.v 0)
def rb23:E:=.sel (.av 0) (.lit 6)
def rb24:E:=.mul rb23 (.lit 256)
def rb25:E:=.sel (.av 0) (.lit 5)
def bHM:E:=.add rb24 rb25
def rb27:E:=.sel (.av 0) (.lit 8)
def rb28:E:=.mul rb27 (.lit 256)
def rb29:E:=.sel (.av 0) (.lit 7)
def bHN:E:=.add rb28 rb29
def rb31:E:=.sel (.av 0) (.lit 10)
def rb32:E:=.mul rb31 (.lit 256)
def rb33:E:=.sel (.av 0) (.lit 9)
def bHO:E:=.add rb32 rb33
def rb35:E:=.sel (.av 0) (.lit 12)
def rb36:E:=.mul rb35 (.lit 256)
def rb37:E:=.sel (.av 0) (.lit 11)
def bHP:E:=.add rb36 rb37
def rb39:E:=.sel (.av 0) (.lit 14)
def rb40:E:=.mul rb39 (.lit 256)
def rb41:E:=.sel (.av 0) (.lit 13)
def bHQ:E:=.add rb40 rb41
def rb43:E:=.sel (.av 0) (.lit 16)
def rb44:E:=.mul rb43 (.lit 256)
def rb45:E:=.sel (.av 0) (.lit 15)
def bHR:E:=.add rb44 rb45
def rb47:E:=.sel (.av 0) (.lit 18)
def rb48:E:=.mul rb47 (.lit 256)
def rb49:E:=.sel (.av 0) (.lit 17)
def bHS:E:=.add rb48 rb49
def rb51:E:=.sel (.av 0) (.lit 20)
def rb52:E:=.mul rb51 (.lit 256)
def rb53:E:=.sel (.av 0) (.lit 19)
def bHT:E:=.add rb52 rb53
def rb55:E:=.sel (.av 0) (.lit 22)
def rb56:E:=.mul rb55 (.lit 256)
def rb57:E:=.sel (.av 0) (.lit 21)
def bHU:E:=.add rb56 rb57
def rb59:E:=.sel (.av 0) (.lit 24)
def rb60:E:=.mul rb59 (.lit 256)
def rb61:E:=.sel (.av 0) (.lit 23)
def bHV:E:=.add rb60 rb61
def rb63:E:=.sel (.av 0) (.lit 26)
def rb64:E:=.mul rb63 (.lit 256)
def rb65:E:=.sel (.av 0) (.lit 25)
def bHW:E:=.add rb64 rb65
def bHX:E:=.sel (.av 0) (.lit 27)
def bHY:E:=.sel (.av 0) (.lit 28)
def bHZ:E:=.sel (.av 0) (.lit 29)
def rb70:E:=.sel (.av 0) (.lit 31)
def rb71:E:=.mul rb70 (.lit 256)
def rb72:E:=.sel (.av 0) (.lit 30)
def rb73:E:=.add rb71 rb72
def rb74:E:=.upd (.tab []) (.lit 0) rb73
def rb75:E:=.sel (.av 0) (.lit 33)
def rb76:E:=.mul rb75 (.lit 256)
def rb77:E:=.sel (.av 0) (.lit 32)
def rb78:E:=.add rb76 rb77
def rb79:E:=.upd rb74 (.lit 1) rb78
def rb80:E:=.sel (.av 0) (.lit 35)
def rb81:E:=.mul rb80 (.lit 256)
def rb82:E:=.sel (.av 0) (.lit 34)
def rb83:E:=.add rb81 rb82
def rb84:E:=.upd rb79 (.lit 2) rb83
def rb85:E:=.sel (.av 0) (.lit 37)
def rb86:E:=.mul rb85 (.lit 256)
def rb87:E:=.sel (.av 0) (.lit 36)
def rb88:E:=.add rb86 rb87
def bIa:E:=.upd rb84 (.lit 3) rb88
def bOy:E:=.add bOx (.lit 42)
def bOz:E:=.blt (.tab []) (.lit 0) (.lit 512) (.av 0) (.lit 42)
def rb92:E:=.le (.v 1) (.lit 255)
def bOA:E:=.add (.v 1) (.lit 1)
def rb94:E:=.mul (.v 1) (.lit 2)
def rb95:E:=.add rb94 (.lit 42)
def rb96:E:=.sel (.av 0) rb95
def rb97:E:=.add rb94 (.lit 43)
def rb98:E:=.sel (.av 0) rb97
def rb99:E:=.mul rb98 (.lit 256)
def bKE:E:=.add rb96 rb99
def aZm:E:=.upd (.av 1) (.v 1) bKE
noncomputable def bOB:List Item:=mL Try.prog 47 17
noncomputable def aSL:Head:=⟨17,bOB,⟨[((.v 0),(554,1048576)),(rb0,(28,28)),(bOw,(549,549)),(bOx,(512,512)),((.v 1),(0,256))],[(0,(0,255)),(1,(0,65535))],[(10,(0,4294967295))],[(50,(0,255)),(51,(0,65535))],[],[]⟩,[⟨60,[],.s (.int .i64 (.lit 4))⟩,⟨5,[],.s (.fn 64 [(4,(.lit 0)),(3,(.lit 0))])⟩,⟨4,[],.s (.ptr 4 (.lit 0))⟩,⟨3,[],.s (.ptr 3 (.lit 0))⟩,⟨0,[],.s (.ptr 2 (.lit 0))⟩],[⟨5,[.run .u8 (.v 0) (.av 0) 0],true,some 1,false⟩,⟨98,[.one (.slc 0 (.lit 0) (.v 0) (.op (.lit 0))),.one (.int .i64 (.lit 38)),.one (.int .i64 rb21),.run .i64 (.lit 16) bHL 0,.one (.int .i64 (.lit 1))],true,none,false⟩,⟨79,[.one (.int .u16 bHM),.one (.int .u16 bHN),.one (.int .u16 bHO),.one (.int .u16 bHP),.one (.int .u16 bHQ),.one (.int .u16 bHR),.one (.int .u16 bHS),.one (.int .u16 bHT),.one (.int .u16 bHU),.one (.int .u16 (.lit 0)),.one (.int .u16 (.lit 0)),.one (.int .u16 bHV),.one (.int .u16 bHW),.one (.int .u8 bHX),.one (.int .u8 bHY),.one (.int .u8 bHZ),.run .u16 (.lit 4) bIa 0,.run .u16 (.lit 256) (.tab []) 0],true,none,false⟩,⟨55,[.one (.ptr 1 (.lit 0))],true,none,false⟩,⟨33,[.one (.int .i64 (.lit 0))],true,none,false⟩]⟩
noncomputable def bEH:List Item:=mL Try.prog 47 29
noncomputable def aSM:Head:=⟨29,bEH,⟨[((.v 0),(554,1048576)),(rb0,(28,28)),(bOw,(549,549)),(bOx,(512,512)),((.v 1),(0,256))],[(0,(0,255)),(1,(0,65535))],[(10,(0,4294967295))],[(50,(0,255)),(51,(0,65535))],[],[]⟩,[⟨87,[],.s (.int .i64 (.v 1))⟩,⟨13,[],.s (.slc 5 (.lit 0) (.lit 512) (.op (.lit 0)))⟩,⟨4,[],.s (.ptr 4 (.lit 0))⟩,⟨3,[],.s (.ptr 3 (.lit 0))⟩,⟨0,[],.s (.ptr 2 (.lit 0))⟩],[⟨5,[.run .u8 (.v 0) (.av 0) 0],true,some 1,false⟩,⟨98,[.one (.slc 0 (.lit 0) (.v 0) (.op (.lit 0))),.one (.int .i64 bOy),.one (.int .i64 rb21),.run .i64 (.lit 16) bHL 0,.one (.int .i64 (.lit 1))],true,none,false⟩,⟨79,[.one (.int .u16 bHM),.one (.int .u16 bHN),.one (.int .u16 bHO),.one (.int .u16 bHP),.one (.int .u16 bHQ),.one (.int .u16 bHR),.one (.int .u16 bHS),.one (.int .u16 bHT),.one (.int .u16 bHU),.one (.int .u16 (.lit 0)),.one (.int .u16 (.lit 0)),.one (.int .u16 bHV),.one (.int .u16 bHW),.one (.int .u8 bHX),.one (.int .u8 bHY),.one (.int .u8 bHZ),.run .u16 (.lit 4) bIa 0,.run .u16 (.lit 256) (.av 1) 0],true,none,false⟩,⟨55,[.one (.ptr 1 (.lit 0))],true,none,false⟩,⟨33,[.one (.int .i64 (.lit 0))],true,none,false⟩,⟨5,[.run .u8 (.lit 512) bOz 0],true,some 1,false⟩]⟩
noncomputable def aHX:List Head:=[aSL,aSM]
def rbD:Dim:=⟨2,0,2,1,0,1,3⟩
theorem rbst:gD Try.prog SRd aZS rbD aHX [] 3000 20 47 rbH rbL rbM=some (.jump 0 bOB ⟨[],[],[]⟩):=by kernel_rfl
theorem rbsg0:mM Try.prog SRd aZS rbD aHX [] 3000 0 47 aSL=some (.jump 1 bEH ⟨[(1,(.lit 0))],[],[(1,(.tab []))]⟩):=by kernel_rfl
theorem rbsg1:mM Try.prog SRd aZS rbD aHX [] 3000 0 47 aSM=some (.ite rb92 (.jump 1 bEH ⟨[(1,bOA)],[],[(1,aZm)]⟩) (.ret (.s (.int .i64 (.lit 0))) [⟨5,[.run .u8 (.v 0) (.av 0) 0],true,some 1,false⟩,⟨98,[.one (.slc 0 (.lit 0) (.v 0) (.op (.lit 0))),.one (.int .i64 bOy),.one (.int .i64 (.v 0)),.run .i64 (.lit 16) bHL 0,.one (.int .i64 (.lit 0))],true,none,false⟩,⟨79,[.one (.int .u16 bHM),.one (.int .u16 bHN),.one (.int .u16 bHO),.one (.int .u16 bHP),.one (.int .u16 bHQ),.one (.int .u16 bHR),.one (.int .u16 bHS),.one (.int .u16 bHT),.one (.int .u16 bHU),.one (.int .u16 (.lit 0)),.one (.int .u16 (.lit 0)),.one (.int .u16 bHV),.one (.int .u16 bHW),.one (.int .u8 bHX),.one (.int .u8 bHY),.one (.int .u8 bHZ),.run .u16 (.lit 4) bIa 0,.run .u16 (.lit 256) (.av 1) 0],true,none,false⟩,⟨55,[.one (.ptr 1 (.lit 0))],true,none,false⟩,⟨33,[.one (.int .i64 (.lit 0))],true,none,false⟩,⟨5,[.run .u8 (.lit 512) bOz 0],true,some 1,false⟩])):=by kernel_rfl
def rbV (i0 d:Int) (c f:Nat→Int) (vs:List Value) (J:Interp):Env:=⟨[i0,d],[],[c,f],vs,J⟩
def rbJ (i0 d:Int) (c f:Nat→Int):Nat→Prop
 | 0=>(0≤d∧d≤256)∧(∀ j,0≤f j∧f j≤65535)
 | 1=>(0≤d∧d≤256)∧(∀ j,0≤f j∧f j≤65535)∧∀ j:Nat,(j:Int)<d→f j=pY 42 c j
 | _=>False
def bEI:Nat→Env→Nat
 | 0,ρ=>1000
 | 1,ρ=>(256-ρ.i.getD 1 0).toNat
 | _,_=>0
theorem rbok0 (i0 d:Int) (c f:Nat→Int) (vs:List Value) (J:Interp) (r:554≤i0∧i0≤1048576) (x:28≤c 0∧c 0≤28) (y:549≤c 4*16777216+c 3*65536+c 2*256+c 1∧c 4*16777216+c 3*65536+c 2*256+c 1≤549) (z:512≤c 41*16777216+c 40*65536+c 39*256+c 38∧c 41*16777216+c 40*65536+c 39*256+c 38≤512) (o:∀ j,0≤c j∧c j≤255) (hfi:∀ p ∈ rbH.fi,∀ is bs xs,inR p.2 (J.fi p.1 is bs xs)) (hfa:∀ p ∈ rbH.fa,∀ is bs xs j,inR p.2 (J.fa p.1 is bs xs j)) (hIi:J.fi=Ifi) (hIb:J.fb=Ifb) (hIa:J.fa=Ifa) (hJ:rbJ i0 d c f 0):Hyp.ok aSL.H (rbV i0 d c f vs J):=by
 simp only [rbJ] at hJ
 obtain ⟨L,m0⟩:=hJ
 refine ⟨by simp [aSL],?_,?_,?_,?_,by simp [aSL]⟩
 ·intro p hp
  simp only [aSL,List.mem_cons,List.not_mem_nil,or_false] at hp
  rcases hp with rfl | rfl | rfl | rfl | rfl
  ·exact r
  ·exact x
  ·exact y
  ·exact z
  ·exact L
 ·intro p hp
  simp only [aSL,List.mem_cons,List.not_mem_nil,or_false] at hp
  rcases hp with rfl | rfl
  ·exact o
  ·exact m0
 ·exact hfi
 ·exact hfa
theorem rbok1 (i0 d:Int) (c f:Nat→Int) (vs:List Value) (J:Interp) (r:554≤i0∧i0≤1048576) (x:28≤c 0∧c 0≤28) (y:549≤c 4*16777216+c 3*65536+c 2*256+c 1∧c 4*16777216+c 3*65536+c 2*256+c 1≤549) (z:512≤c 41*16777216+c 40*65536+c 39*256+c 38∧c 41*16777216+c 40*65536+c 39*256+c 38≤512) (o:∀ j,0≤c j∧c j≤255) (hfi:∀ p ∈ rbH.fi,∀ is bs xs,inR p.2 (J.fi p.1 is bs xs)) (hfa:∀ p ∈ rbH.fa,∀ is bs xs j,inR p.2 (J.fa p.1 is bs xs j)) (hIi:J.fi=Ifi) (hIb:J.fb=Ifb) (hIa:J.fa=Ifa) (hJ:rbJ i0 d c f 1):Hyp.ok aSM.H (rbV i0 d c f vs J):=by
 simp only [rbJ] at hJ
 obtain ⟨L,m0,hinv⟩:=hJ
 refine ⟨by simp [aSM],?_,?_,?_,?_,by simp [aSM]⟩
 ·intro p hp
  simp only [aSM,List.mem_cons,List.not_mem_nil,or_false] at hp
  rcases hp with rfl | rfl | rfl | rfl | rfl
  ·exact r
  ·exact x
  ·exact y
  ·exact z
  ·exact L
 ·intro p hp
  simp only [aSM,List.mem_cons,List.not_mem_nil,or_false] at hp
  rcases hp with rfl | rfl
  ·exact o
  ·exact m0
 ·exact hfi
 ·exact hfa
theorem rbvcS (i0:Int) (c:Nat→Int) (vs:List Value) (J:Interp) (r:554≤i0∧i0≤1048576) (x:28≤c 0∧c 0≤28) (y:549≤c 4*16777216+c 3*65536+c 2*256+c 1∧c 4*16777216+c 3*65536+c 2*256+c 1≤549) (z:512≤c 41*16777216+c 40*65536+c 39*256+c 38∧c 41*16777216+c 40*65536+c 39*256+c 38≤512) (o:∀ j,0≤c j∧c j≤255) (hfi:∀ p ∈ rbH.fi,∀ is bs xs,inR p.2 (J.fi p.1 is bs xs)) (hfa:∀ p ∈ rbH.fa,∀ is bs xs j,inR p.2 (J.fa p.1 is bs xs j)) (hIi:J.fi=Ifi) (hIb:J.fb=Ifb) (hIa:J.fa=Ifa) :
 LT.holds (rbV i0 0 c (fun _=>0) vs J) (fun v' m'=>mT (rbV i0 0 c (fun _=>0) vs J) (⟨[i0],[],[c],vs,J⟩:Env) rbR rbO v' m') (fun j todo ρ'=>(aHX[j]?.map (·.todo))=some todo∧(fun j ρ'=>∃ (d:Int) (f:Nat→Int),ρ'=(rbV i0 d c f vs J)∧rbJ i0 d c f j) j ρ') (.jump 0 bOB ⟨[],[],[]⟩):=by
 simp only [LT.holds]
 refine ⟨rfl,0,(fun _=>0),rfl,?_⟩
 ·simp only [rbJ]
  exact ⟨⟨Int.le_refl _,(show (0:Int)≤256 by decide)⟩,fun j=>⟨Int.le_refl _,(show (0:Int)≤65535 by decide)⟩⟩
theorem rbvc0 (i0 d:Int) (c f:Nat→Int) (vs:List Value) (J:Interp) (r:554≤i0∧i0≤1048576) (x:28≤c 0∧c 0≤28) (y:549≤c 4*16777216+c 3*65536+c 2*256+c 1∧c 4*16777216+c 3*65536+c 2*256+c 1≤549) (z:512≤c 41*16777216+c 40*65536+c 39*256+c 38∧c 41*16777216+c 40*65536+c 39*256+c 38≤512) (o:∀ j,0≤c j∧c j≤255) (hfi:∀ p ∈ rbH.fi,∀ is bs xs,inR p.2 (J.fi p.1 is bs xs)) (hfa:∀ p ∈ rbH.fa,∀ is bs xs j,inR p.2 (J.fa p.1 is bs xs j)) (hIi:J.fi=Ifi) (hIb:J.fb=Ifb) (hIa:J.fa=Ifa) (hJ:rbJ i0 d c f 0) :
 LT.holds (rbV i0 d c f vs J) (fun v' m'=>mT (rbV i0 d c f vs J) (⟨[i0],[],[c],vs,J⟩:Env) rbR rbO v' m') (fun j' todo ρ'=>(aHX[j']?.map (·.todo))=some todo∧(fun j ρ'=>∃ (d:Int) (f:Nat→Int),ρ'=(rbV i0 d c f vs J)∧rbJ i0 d c f j) j' ρ'∧bEI j' ρ'<bEI 0 (rbV i0 d c f vs J)) (.jump 1 bEH ⟨[(1,(.lit 0))],[],[(1,(.tab []))]⟩):=by
 simp only [LT.holds]
 simp only [rbJ] at hJ
 obtain ⟨L,m0⟩:=hJ
 refine ⟨rfl,⟨(E.i (rbV i0 d c f vs J) ((.lit 0))),(E.a (rbV i0 d c f vs J) ((.tab []))),rfl,?_⟩,?_⟩
 ·simp only [rbJ]
  refine ⟨⟨Int.le_refl _,(show (0:Int)≤256 by decide)⟩,fun j=>⟨Int.le_refl _,(show (0:Int)≤65535 by decide)⟩,fun j h=>?_⟩
  exact absurd h (show ¬ ((j:Int)<0) by omega)
 ·exact (by decide:256<1000)
theorem rbvc1 (i0 d:Int) (c f:Nat→Int) (vs:List Value) (J:Interp) (r:554≤i0∧i0≤1048576) (x:28≤c 0∧c 0≤28) (y:549≤c 4*16777216+c 3*65536+c 2*256+c 1∧c 4*16777216+c 3*65536+c 2*256+c 1≤549) (z:512≤c 41*16777216+c 40*65536+c 39*256+c 38∧c 41*16777216+c 40*65536+c 39*256+c 38≤512) (o:∀ j,0≤c j∧c j≤255) (hfi:∀ p ∈ rbH.fi,∀ is bs xs,inR p.2 (J.fi p.1 is bs xs)) (hfa:∀ p ∈ rbH.fa,∀ is bs xs j,inR p.2 (J.fa p.1 is bs xs j)) (hIi:J.fi=Ifi) (hIb:J.fb=Ifb) (hIa:J.fa=Ifa) (hJ:rbJ i0 d c f 1) :
 LT.holds (rbV i0 d c f vs J) (fun v' m'=>mT (rbV i0 d c f vs J) (⟨[i0],[],[c],vs,J⟩:Env) rbR rbO v' m') (fun j' todo ρ'=>(aHX[j']?.map (·.todo))=some todo∧(fun j ρ'=>∃ (d:Int) (f:Nat→Int),ρ'=(rbV i0 d c f vs J)∧rbJ i0 d c f j) j' ρ'∧bEI j' ρ'<bEI 1 (rbV i0 d c f vs J)) (.ite rb92 (.jump 1 bEH ⟨[(1,bOA)],[],[(1,aZm)]⟩) (.ret (.s (.int .i64 (.lit 0))) [⟨5,[.run .u8 (.v 0) (.av 0) 0],true,some 1,false⟩,⟨98,[.one (.slc 0 (.lit 0) (.v 0) (.op (.lit 0))),.one (.int .i64 bOy),.one (.int .i64 (.v 0)),.run .i64 (.lit 16) bHL 0,.one (.int .i64 (.lit 0))],true,none,false⟩,⟨79,[.one (.int .u16 bHM),.one (.int .u16 bHN),.one (.int .u16 bHO),.one (.int .u16 bHP),.one (.int .u16 bHQ),.one (.int .u16 bHR),.one (.int .u16 bHS),.one (.int .u16 bHT),.one (.int .u16 bHU),.one (.int .u16 (.lit 0)),.one (.int .u16 (.lit 0)),.one (.int .u16 bHV),.one (.int .u16 bHW),.one (.int .u8 bHX),.one (.int .u8 bHY),.one (.int .u8 bHZ),.run .u16 (.lit 4) bIa 0,.run .u16 (.lit 256) (.av 1) 0],true,none,false⟩,⟨55,[.one (.ptr 1 (.lit 0))],true,none,false⟩,⟨33,[.one (.int .i64 (.lit 0))],true,none,false⟩,⟨5,[.run .u8 (.lit 512) bOz 0],true,some 1,false⟩])):=by
 simp only [LT.holds]
 simp only [rbJ] at hJ
 obtain ⟨L,m0,hinv⟩:=hJ
 refine ⟨fun t=>?_,fun t=>?_⟩
 ·
   refine ⟨rfl,⟨(E.i (rbV i0 d c f vs J) bOA),(E.a (rbV i0 d c f vs J) aZm),rfl,?_⟩,?_⟩
   ·simp only [rbJ]
    have hc:d≤255:=of_decide_eq_true t
    have q:=o (42+2*d.toNat)
    have q1:=o (42+2*d.toNat+1)
    have hw:E.i (rbV i0 d c f vs J) bKE=pY 42 c d.toNat:=by
     show c (d*2+42).toNat+c (d*2+43).toNat*256=_
     rw [show (d*2+42).toNat=42+2*d.toNat by omega,show (d*2+43).toNat=42+2*d.toNat+1 by omega]
     unfold pY;omega
    have hu:∀ j,E.a (rbV i0 d c f vs J) aZm j=if j=d.toNat then pY 42 c d.toNat else f j:=fun j=>by
     rw [← hw]
     rfl
    have hr:=aDo 42 c d.toNat
    refine ⟨(show 0≤d+1∧d+1≤256 by omega),fun j=>?_,fun j h=>?_⟩
    ·rw [hu j]
     have:=m0 j;split <;> omega
    ·have h:(j:Int)<d+1:=h
     rw [hu j]
     by_cases e:j=d.toNat
     ·rw [if_pos e,e]
     ·rw [if_neg e];exact hinv j (by omega)
   ·have hc:d≤255:=of_decide_eq_true t
    exact Nat.lt_of_le_of_lt (Nat.le_of_eq (m:=(256-(d+1)).toNat) (by kernel_rfl)) (Nat.lt_of_lt_of_eq (show (256-(d+1)).toNat<(256-d).toNat by omega) (by kernel_rfl))
 ·
   refine ⟨rfl,?_,?_⟩
   all_goals
    repeat' (first | exact rfl | exact trivial | exact fun _ _=>rfl | refine And.intro ?_ ?_ | refine Or.inr ?_)
   all_goals have hc:¬ (d≤255):=of_decide_eq_false (show decide (d≤255)=false from t)
   all_goals first
    | exact rfl
    | exact fun _ _=>rfl
    | exact fun j hj=>(show f (0+j)=E.a (⟨[i0],[],[c],vs,J⟩:Env) (.app 51 (.cons (.lit 42) (.cons (.av 0) .nil))) (0+j) from (hinv (0+j) (by have hj:j<256:=hj;omega)).trans (congrFun (show E.a (⟨[i0],[],[c],vs,J⟩:Env) (.app 51 (.cons (.lit 42) (.cons (.av 0) .nil)))=pY 42 c from bCd (ρ:=(⟨[i0],[],[c],vs,J⟩:Env)) hIa (.lit 42) (.av 0)) (0+j)).symm)
theorem rbat (xs:Nat→Nat→Ext):fI Try.prog (Iv xs) 47 1 0 1 (iY rbH rbL rbM rbN rbR (some rbO)):=by
 refine rE (u:=0) (bBP xs) (by kernel_rfl) rbst (by decide) rfl (fun ρ j ρ'=>∃(i0:Int) (c:Nat→Int),∃ vs J,ρ=(⟨[i0],[],[c],vs,J⟩:Env)∧(fun j ρ'=>∃ (d:Int) (f:Nat→Int),ρ'=(rbV i0 d c f vs J)∧rbJ i0 d c f j) j ρ') bEI ?_
 intro ρ hI hz hH hn
 obtain ⟨ys,zs,Ys,vs,J⟩:=ρ
 obtain ⟨z1,z2,X⟩:=hz
 simp only at z1 z2 X hI
 obtain ⟨i0,ys0,rfl,I⟩:=aL z1
 obtain rfl:=List.eq_nil_of_length_eq_zero I
 obtain rfl:=List.eq_nil_of_length_eq_zero z2
 obtain ⟨c,Ys0,rfl,K⟩:=aL X
 obtain rfl:=List.eq_nil_of_length_eq_zero K
 have r:554≤i0∧i0≤1048576:=hH.e (.v 0,(554,1048576)) (by simp [rbH])
 have x:28≤c 0∧c 0≤28:=hH.e ((.sel (.av 0) (.lit 0)),(28,28)) (by simp [rbH])
 have y:549≤c 4*16777216+c 3*65536+c 2*256+c 1∧c 4*16777216+c 3*65536+c 2*256+c 1≤549:=hH.e ((.add (.add (.add (.mul (.sel (.av 0) (.lit 4)) (.lit 16777216)) (.mul (.sel (.av 0) (.lit 3)) (.lit 65536))) (.mul (.sel (.av 0) (.lit 2)) (.lit 256))) (.sel (.av 0) (.lit 1))),(549,549)) (by simp [rbH])
 have z:512≤c 41*16777216+c 40*65536+c 39*256+c 38∧c 41*16777216+c 40*65536+c 39*256+c 38≤512:=hH.e ((.add (.add (.add (.mul (.sel (.av 0) (.lit 41)) (.lit 16777216)) (.mul (.sel (.av 0) (.lit 40)) (.lit 65536))) (.mul (.sel (.av 0) (.lit 39)) (.lit 256))) (.sel (.av 0) (.lit 38))),(512,512)) (by simp [rbH])
 have o:∀ j,0≤c j∧c j≤255:=fun j=>hH.a (0,(0,255)) (by simp [rbH]) j
 have hfi:∀ p ∈ rbH.fi,∀ is bs xs,inR p.2 (J.fi p.1 is bs xs):=hH.fi
 have hfa:∀ p ∈ rbH.fa,∀ is bs xs j,inR p.2 (J.fa p.1 is bs xs j):=hH.fa
 have hIi:J.fi=Ifi:=by rw [hI];rfl
 have hIb:J.fb=Ifb:=by rw [hI];rfl
 have hIa:J.fa=Ifa:=by rw [hI];rfl
 refine ⟨(rbV i0 0 c (fun _=>0) vs J),rfl,⟨rfl,rfl,rfl⟩,?_,fun ι=>rfl,?_,?_,?_⟩
 ·
   refine ⟨by simp [rbH],?_,?_,?_,?_,by simp [rbH]⟩
   ·intro p hp
    simp only [rbH,List.mem_cons,List.not_mem_nil,or_false] at hp
    rcases hp with rfl | rfl | rfl | rfl
    ·exact r
    ·exact x
    ·exact y
    ·exact z
   ·intro p hp
    simp only [rbH,List.mem_cons,List.not_mem_nil,or_false] at hp
    rcases hp with rfl
    ·exact o
   ·exact hfi
   ·exact hfa
 ·repeat' (first | exact rfl | exact trivial | exact fun _ _=>rfl | refine And.intro ?_ ?_ | refine Or.inr ?_)
 ·refine LT.cI (fun v' m' h=>h) (fun j todo ρ' h=>⟨h.1,i0,c,vs,J,rfl,h.2⟩) (rbvcS i0 c vs J r x y z o hfi hfa hIi hIb hIa)
 ·intro j h ρ' hj hI' hz' hInv
  obtain ⟨i0',A0',vs',J',he,d,f,hρ,hJ⟩:=hInv
  cases he
  subst hρ
  rcases j with _ | _ | j
  ·simp only [aHX,List.getElem?_cons_zero,List.getElem?_cons_succ,Option.some.injEq] at hj;subst hj
   refine ⟨aSL.H,rbok0 i0 d c f vs J r x y z o hfi hfa hIi hIb hIa hJ,_,rbsg0,?_⟩
   exact LT.cI (fun v' m' h=>h) (fun j todo ρ' h=>⟨h.1,⟨i0,c,vs,J,rfl,h.2.1⟩,h.2.2⟩) (rbvc0 i0 d c f vs J r x y z o hfi hfa hIi hIb hIa hJ)
  ·simp only [aHX,List.getElem?_cons_zero,List.getElem?_cons_succ,Option.some.injEq] at hj;subst hj
   refine ⟨aSM.H,rbok1 i0 d c f vs J r x y z o hfi hfa hIi hIb hIa hJ,_,rbsg1,?_⟩
   exact LT.cI (fun v' m' h=>h) (fun j todo ρ' h=>⟨h.1,⟨i0,c,vs,J,rfl,h.2.1⟩,h.2.2⟩) (rbvc1 i0 d c f vs J r x y z o hfi hfa hIi hIb hIa hJ)
  ·simp [aHX] at hj
def rbS:Go.Sx.Spec:=fC (fK 1 0 1 rbL rbM) rbH rbL rbM rbN (rbR) (some rbO)
theorem rbok (xs:Nat→Nat→Ext):aX Try.prog (Iv xs) 47 rbS:=fB (rbat xs) (dT _ _ _ _ _ _)
def ru11:E:=.sel (.av 0) (.lit 41)
def ru12:E:=.mul ru11 (.lit 16777216)
def ru13:E:=.sel (.av 0) (.lit 40)
def ru14:E:=.mul ru13 (.lit 65536)
def ru15:E:=.add ru12 ru14
def ru16:E:=.sel (.av 0) (.lit 39)
def ru17:E:=.mul ru16 (.lit 256)
def ru18:E:=.add ru15 ru17
def ru19:E:=.sel (.av 0) (.lit 38)
def ru20:E:=.add ru18 ru19
def ru92:E:=.add ru20 (.lit 42)
def ru1:E:=.sel (.av 0) (.lit 4)
def ru2:E:=.mul ru1 (.lit 16777216)
def ru3:E:=.sel (.av 0) (.lit 3)
def ru4:E:=.mul ru3 (.lit 65536)
def ru5:E:=.add ru2 ru4
def ru6:E:=.sel (.av 0) (.lit 2)
def ru7:E:=.mul ru6 (.lit 256)
def ru8:E:=.add ru5 ru7
def ru9:E:=.sel (.av 0) (.lit 1)
def ru10:E:=.add ru8 ru9
def ru23:E:=.add ru10 (.lit 5)
def ru24:E:=.upd (.tab []) (.lit 0) (.v 0)
def ru25:E:=.sel (.av 0) (.lit 6)
def ru26:E:=.mul ru25 (.lit 256)
def ru27:E:=.sel (.av 0) (.lit 5)
def ru28:E:=.add ru26 ru27
def ru29:E:=.sel (.av 0) (.lit 8)
def ru30:E:=.mul ru29 (.lit 256)
def ru31:E:=.sel (.av 0) (.lit 7)
def ru32:E:=.add ru30 ru31
def ru33:E:=.sel (.av 0) (.lit 10)
def ru34:E:=.mul ru33 (.lit 256)
def ru35:E:=.sel (.av 0) (.lit 9)
def ru36:E:=.add ru34 ru35
def ru37:E:=.sel (.av 0) (.lit 12)
def ru38:E:=.mul ru37 (.lit 256)
def ru39:E:=.sel (.av 0) (.lit 11)
def ru40:E:=.add ru38 ru39
def ru41:E:=.sel (.av 0) (.lit 14)
def ru42:E:=.mul ru41 (.lit 256)
def ru43:E:=.sel (.av 0) (.lit 13)
def ru44:E:=.add ru42 ru43
def ru45:E:=.sel (.av 0) (.lit 16)
def ru46:E:=.mul ru45 (.lit 256)
def ru47:E:=.sel (.av 0) (.lit 15)
def ru48:E:=.add ru46 ru47
def ru49:E:=.sel (.av 0) (.lit 18)
def ru50:E:=.mul ru49 (.lit 256)
def ru51:E:=.sel (.av 0) (.lit 17)
def ru52:E:=.add ru50 ru51
def ru53:E:=.sel (.av 0) (.lit 20)
def ru54:E:=.mul ru53 (.lit 256)
def ru55:E:=.sel (.av 0) (.lit 19)
def ru56:E:=.add ru54 ru55
def ru57:E:=.sel (.av 0) (.lit 22)
def ru58:E:=.mul ru57 (.lit 256)
def ru59:E:=.sel (.av 0) (.lit 21)
def ru60:E:=.add ru58 ru59
def ru61:E:=.sel (.av 0) (.lit 24)
def ru62:E:=.mul ru61 (.lit 256)
def ru63:E:=.sel (.av 0) (.lit 23)
def ru64:E:=.add ru62 ru63
def ru65:E:=.sel (.av 0) (.lit 26)
def ru66:E:=.mul ru65 (.lit 256)
def ru67:E:=.sel (.av 0) (.lit 25)
def ru68:E:=.add ru66 ru67
def ru69:E:=.sel (.av 0) (.lit 27)
def ru70:E:=.sel (.av 0) (.lit 28)
def ru71:E:=.sel (.av 0) (.lit 29)
def ru72:E:=.sel (.av 0) (.lit 31)
def ru73:E:=.mul ru72 (.lit 256)
def ru74:E:=.sel (.av 0) (.lit 30)
def ru75:E:=.add ru73 ru74
def ru76:E:=.upd (.tab []) (.lit 0) ru75
def ru77:E:=.sel (.av 0) (.lit 33)
def ru78:E:=.mul ru77 (.lit 256)
def ru79:E:=.sel (.av 0) (.lit 32)
def ru80:E:=.add ru78 ru79
def ru81:E:=.upd ru76 (.lit 1) ru80
def ru82:E:=.sel (.av 0) (.lit 35)
def ru83:E:=.mul ru82 (.lit 256)
def ru84:E:=.sel (.av 0) (.lit 34)
def ru85:E:=.add ru83 ru84
def ru86:E:=.upd ru81 (.lit 2) ru85
def ru87:E:=.sel (.av 0) (.lit 37)
def ru88:E:=.mul ru87 (.lit 256)
def ru89:E:=.sel (.av 0) (.lit 36)
def ru90:E:=.add ru88 ru89
def ru91:E:=.upd ru86 (.lit 3) ru90
def ru93:E:=.blt (.tab []) (.lit 0) (.lit 512) (.av 0) (.lit 42)
def rlH:Hyp:=⟨[(.v 0,(555,1048576)),((.sel (.av 0) (.lit 0)),(28,28)),((.add (.add (.add (.mul (.sel (.av 0) (.lit 4)) (.lit 16777216)) (.mul (.sel (.av 0) (.lit 3)) (.lit 65536))) (.mul (.sel (.av 0) (.lit 2)) (.lit 256))) (.sel (.av 0) (.lit 1))),(550,1048571)),((.add (.add (.add (.mul (.sel (.av 0) (.lit 41)) (.lit 16777216)) (.mul (.sel (.av 0) (.lit 40)) (.lit 65536))) (.mul (.sel (.av 0) (.lit 39)) (.lit 256))) (.sel (.av 0) (.lit 38))),(512,512))],[(0,(0,255))],[(10,(0,4294967295))],[(50,(0,255)),(51,(0,65535))],[((.lt (.add (.v 0) (.lit (-5))) (.add (.add (.add (.mul (.sel (.av 0) (.lit 4)) (.lit 16777216)) (.mul (.sel (.av 0) (.lit 3)) (.lit 65536))) (.mul (.sel (.av 0) (.lit 2)) (.lit 256))) (.sel (.av 0) (.lit 1)))),false)],[]⟩
def rlL:List SV:=[.s (.ptr 2 (.lit 0)),.s (.ptr 1 (.lit 0))]
def rlM:Mem:=[⟨5,[.run .u8 (.v 0) (.av 0) 0],true,some 1,false⟩,⟨98,[.one (.slc 0 (.lit 0) (.v 0) (.op (.lit 0))),.one (.int .i64 (.lit 0)),.one (.int .i64 (.v 0)),.run .i64 (.lit 16) (.tab []) 0,.one (.int .i64 (.lit 0))],true,none,false⟩,⟨79,[.one (.int .u16 (.lit 0)),.one (.int .u16 (.lit 0)),.one (.int .u16 (.lit 0)),.one (.int .u16 (.lit 0)),.one (.int .u16 (.lit 0)),.one (.int .u16 (.lit 0)),.one (.int .u16 (.lit 0)),.one (.int .u16 (.lit 0)),.one (.int .u16 (.lit 0)),.one (.int .u16 (.lit 0)),.one (.int .u16 (.lit 0)),.one (.int .u16 (.lit 0)),.one (.int .u16 (.lit 0)),.one (.int .u8 (.lit 0)),.one (.int .u8 (.lit 0)),.one (.int .u8 (.lit 0)),.run .u16 (.lit 4) (.tab []) 0,.run .u16 (.lit 256) (.tab []) 0],true,none,false⟩]
def rlO:Mem:=[⟨5,[.run .u8 (.v 0) (.av 0) 0],true,some 1,false⟩,⟨98,[.one (.slc 0 (.lit 0) (.v 0) (.op (.lit 0))),.one (.int .i64 ru92),.one (.int .i64 ru23),.run .i64 (.lit 16) ru24 0,.one (.int .i64 (.lit 1))],true,none,false⟩,⟨79,[.one (.int .u16 ru28),.one (.int .u16 ru32),.one (.int .u16 ru36),.one (.int .u16 ru40),.one (.int .u16 ru44),.one (.int .u16 ru48),.one (.int .u16 ru52),.one (.int .u16 ru56),.one (.int .u16 ru60),.one (.int .u16 (.lit 0)),.one (.int .u16 (.lit 0)),.one (.int .u16 ru64),.one (.int .u16 ru68),.one (.int .u8 ru69),.one (.int .u8 ru70),.one (.int .u8 ru71),.run .u16 (.lit 4) ru91 0,.run .u16 (.lit 256) (.app 51 (.cons (.lit 42) (.cons (.av 0) .nil))) 0],true,none,false⟩,⟨55,[.one (.ptr 1 (.lit 0))],true,none,false⟩,⟨33,[.one (.int .i64 (.lit 59))],true,none,false⟩,⟨5,[.run .u8 (.lit 512) ru93 0],true,some 1,false⟩]
def rlN:List E:=[]
def rlR:SV:=.s (.int .i64 (.lit 59))
--SKEND
def rl0:E:=.sel (.av 0) (.lit 0)
def rl1:E:=.sel (.av 0) (.lit 4)
def rl2:E:=.mul rl1 (.lit 16777216)
def rl3:E:=.sel (.av 0) (.lit 3)
def rl4:E:=.mul rl3 (.lit 65536)
def rl5:E:=.add rl2 rl4
def rl6:E:=.sel (.av 0) (.lit 2)
def rl7:E:=.mul rl6 (.lit 256)
def rl8:E:=.add rl5 rl7
def rl9:E:=.sel (.av 0) (.lit 1)
def bIg:E:=.add rl8 rl9
def rl11:E:=.sel (.av 0) (.lit 41)
def rl12:E:=.mul rl11 (.lit 16777216)
def rl13:E:=.sel (.av 0) (.lit 40)
def rl14:E:=.mul rl13 (.lit 65536)
def rl15:E:=.add rl12 rl14
def rl16:E:=.sel (.av 0) (.lit 39)
def rl17:E:=.mul rl16 (.lit 256)
def rl18:E:=.add rl15 rl17
def rl19:E:=.sel (.av 0) (.lit 38)
def bOE:E:=.add rl18 rl19
def rl21:E:=.add (.v 0) (.lit (-5))
def rl22:E:=.lt rl21 bIg
def bIh:E:=.add bIg (.lit 5)
def bIi:E:=.upd (.tab []) (.lit 0) (.v 0)
def rl25:E:=.sel (.av 0) (.lit 6)
def rl26:E:=.mul rl25 (.lit 256)
def rl27:E:=.sel (.av 0) (.lit 5)
def bIj:E:=.add rl26 rl27
def rl29:E:=.sel (.av 0) (.lit 8)
def rl30:E:=.mul rl29 (.lit 256)
def rl31:E:=.sel (.av 0) (.lit 7)
def bIk:E:=.add rl30 rl31
def rl33:E:=.sel (.av 0) (.lit 10)
def rl34:E:=.mul rl33 (.lit 256)
def rl35:E:=.sel (.av 0) (.lit 9)
def bIl:E:=.add rl34 rl35
def rl37:E:=.sel (.av 0) (.lit 12)
def rl38:E:=.mul rl37 (.lit 256)
def rl39:E:=.sel (.av 0) (.lit 11)
def bIm:E:=.add rl38 rl39
def rl41:E:=.sel (.av 0) (.lit 14)
def rl42:E:=.mul rl41 (.lit 256)
def rl43:E:=.sel (.av 0) (.lit 13)
def bIn:E:=.add rl42 rl43
def rl45:E:=.sel (.av 0) (.lit 16)
def rl46:E:=.mul rl45 (.lit 256)
def rl47:E:=.sel (.av 0) (.lit 15)
def bIo:E:=.add rl46 rl47
def rl49:E:=.sel (.av 0) (.lit 18)
def rl50:E:=.mul rl49 (.lit 256)
def rl51:E:=.sel (.av 0) (.lit 17)
def bIp:E:=.add rl50 rl51
def rl53:E:=.sel (.av 0) (.lit 20)
def rl54:E:=.mul rl53 (.lit 256)
def rl55:E:=.sel (.av 0) (.lit 19)
def bIq:E:=.add rl54 rl55
def rl57:E:=.sel (.av 0) (.lit 22)
def rl58:E:=.mul rl57 (.lit 256)
def rl59:E:=.sel (.av 0) (.lit 21)
def bIr:E:=.add rl58 rl59
def rl61:E:=.sel (.av 0) (.lit 24)
def rl62:E:=.mul rl61 (.lit 256)
def rl63:E:=.sel (.av 0) (.lit 23)
def bIs:E:=.add rl62 rl63
def rl65:E:=.sel (.av 0) (.lit 26)
def rl66:E:=.mul rl65 (.lit 256)
def rl67:E:=.sel (.av 0) (.lit 25)
def bIt:E:=.add rl66 rl67
def bIu:E:=.sel (.av 0) (.lit 27)
def bIv:E:=.sel (.av 0) (.lit 28)
def bIw:E:=.sel (.av 0) (.lit 29)
def rl72:E:=.sel (.av 0) (.lit 31)
def rl73:E:=.mul rl72 (.lit 256)
def rl74:E:=.sel (.av 0) (.lit 30)
def rl75:E:=.add rl73 rl74
def rl76:E:=.upd (.tab []) (.lit 0) rl75
def rl77:E:=.sel (.av 0) (.lit 33)
def rl78:E:=.mul rl77 (.lit 256)
def rl79:E:=.sel (.av 0) (.lit 32)
def rl80:E:=.add rl78 rl79
def rl81:E:=.upd rl76 (.lit 1) rl80
def rl82:E:=.sel (.av 0) (.lit 35)
def rl83:E:=.mul rl82 (.lit 256)
def rl84:E:=.sel (.av 0) (.lit 34)
def rl85:E:=.add rl83 rl84
def rl86:E:=.upd rl81 (.lit 2) rl85
def rl87:E:=.sel (.av 0) (.lit 37)
def rl88:E:=.mul rl87 (.lit 256)
def rl89:E:=.sel (.av 0) (.lit 36)
def rl90:E:=.add rl88 rl89
def bIx:E:=.upd rl86 (.lit 3) rl90
def bOF:E:=.add bOE (.lit 42)
def bOG:E:=.blt (.tab []) (.lit 0) (.lit 512) (.av 0) (.lit 42)
def rl94:E:=.le (.v 1) (.lit 255)
def bOH:E:=.add (.v 1) (.lit 1)
def rl96:E:=.mul (.v 1) (.lit 2)
def rl97:E:=.add rl96 (.lit 42)
def rl98:E:=.sel (.av 0) rl97
def rl99:E:=.add rl96 (.lit 43)
def rl100:E:=.sel (.av 0) rl99
def rl101:E:=.mul rl100 (.lit 256)
def bKI:E:=.add rl98 rl101
def aZo:E:=.upd (.av 1) (.v 1) bKI
noncomputable def bOI:List Item:=mL Try.prog 47 17
noncomputable def aSP:Head:=⟨17,bOI,⟨[((.v 0),(555,1048576)),(rl0,(28,28)),(bIg,(550,1048571)),(bOE,(512,512)),((.v 1),(0,256))],[(0,(0,255)),(1,(0,65535))],[(10,(0,4294967295))],[(50,(0,255)),(51,(0,65535))],[(rl22,false)],[]⟩,[⟨60,[],.s (.int .i64 (.lit 4))⟩,⟨5,[],.s (.fn 64 [(4,(.lit 0)),(3,(.lit 0))])⟩,⟨4,[],.s (.ptr 4 (.lit 0))⟩,⟨3,[],.s (.ptr 3 (.lit 0))⟩,⟨0,[],.s (.ptr 2 (.lit 0))⟩],[⟨5,[.run .u8 (.v 0) (.av 0) 0],true,some 1,false⟩,⟨98,[.one (.slc 0 (.lit 0) (.v 0) (.op (.lit 0))),.one (.int .i64 (.lit 38)),.one (.int .i64 bIh),.run .i64 (.lit 16) bIi 0,.one (.int .i64 (.lit 1))],true,none,false⟩,⟨79,[.one (.int .u16 bIj),.one (.int .u16 bIk),.one (.int .u16 bIl),.one (.int .u16 bIm),.one (.int .u16 bIn),.one (.int .u16 bIo),.one (.int .u16 bIp),.one (.int .u16 bIq),.one (.int .u16 bIr),.one (.int .u16 (.lit 0)),.one (.int .u16 (.lit 0)),.one (.int .u16 bIs),.one (.int .u16 bIt),.one (.int .u8 bIu),.one (.int .u8 bIv),.one (.int .u8 bIw),.run .u16 (.lit 4) bIx 0,.run .u16 (.lit 256) (.tab []) 0],true,none,false⟩,⟨55,[.one (.ptr 1 (.lit 0))],true,none,false⟩,⟨33,[.one (.int .i64 (.lit 0))],true,none,false⟩]⟩
noncomputable def bEN:List Item:=mL Try.prog 47 29
noncomputable def aSQ:Head:=⟨29,bEN,⟨[((.v 0),(555,1048576)),(rl0,(28,28)),(bIg,(550,1048571)),(bOE,(512,512)),((.v 1),(0,256))],[(0,(0,255)),(1,(0,65535))],[(10,(0,4294967295))],[(50,(0,255)),(51,(0,65535))],[(rl22,false)],[]⟩,[⟨87,[],.s (.int .i64 (.v 1))⟩,⟨13,[],.s (.slc 5 (.lit 0) (.lit 512) (.op (.lit 0)))⟩,⟨4,[],.s (.ptr 4 (.lit 0))⟩,⟨3,[],.s (.ptr 3 (.lit 0))⟩,⟨0,[],.s (.ptr 2 (.lit 0))⟩],[⟨5,[.run .u8 (.v 0) (.av 0) 0],true,some 1,false⟩,⟨98,[.one (.slc 0 (.lit 0) (.v 0) (.op (.lit 0))),.one (.int .i64 bOF),.one (.int .i64 bIh),.run .i64 (.lit 16) bIi 0,.one (.int .i64 (.lit 1))],true,none,false⟩,⟨79,[.one (.int .u16 bIj),.one (.int .u16 bIk),.one (.int .u16 bIl),.one (.int .u16 bIm),.one (.int .u16 bIn),.one (.int .u16 bIo),.one (.int .u16 bIp),.one (.int .u16 bIq),.one (.int .u16 bIr),.one (.int .u16 (.lit 0)),.one (.int .u16 (.lit 0)),.one (.int .u16 bIs),.one (.int .u16 bIt),.one (.int .u8 bIu),.one (.int .u8 bIv),.one (.int .u8 bIw),.run .u16 (.lit 4) bIx 0,.run .u16 (.lit 256) (.av 1) 0],true,none,false⟩,⟨55,[.one (.ptr 1 (.lit 0))],true,none,false⟩,⟨33,[.one (.int .i64 (.lit 0))],true,none,false⟩,⟨5,[.run .u8 (.lit 512) bOG 0],true,some 1,false⟩]⟩
noncomputable def rlhs:List Head:=[aSP,aSQ]
def rlD:Dim:=⟨2,0,2,1,0,1,3⟩
theorem rlst:gD Try.prog SRd aZS rlD rlhs [] 3000 20 47 rlH rlL rlM=some (.jump 0 bOI ⟨[],[],[]⟩):=by kernel_rfl
theorem rlsg0:mM Try.prog SRd aZS rlD rlhs [] 3000 0 47 aSP=some (.jump 1 bEN ⟨[(1,(.lit 0))],[],[(1,(.tab []))]⟩):=by kernel_rfl
theorem rlsg1:mM Try.prog SRd aZS rlD rlhs [] 3000 0 47 aSQ=some (.ite rl94 (.jump 1 bEN ⟨[(1,bOH)],[],[(1,aZo)]⟩) (.ret (.s (.int .i64 (.lit 59))) [⟨5,[.run .u8 (.v 0) (.av 0) 0],true,some 1,false⟩,⟨98,[.one (.slc 0 (.lit 0) (.v 0) (.op (.lit 0))),.one (.int .i64 bOF),.one (.int .i64 bIh),.run .i64 (.lit 16) bIi 0,.one (.int .i64 (.lit 1))],true,none,false⟩,⟨79,[.one (.int .u16 bIj),.one (.int .u16 bIk),.one (.int .u16 bIl),.one (.int .u16 bIm),.one (.int .u16 bIn),.one (.int .u16 bIo),.one (.int .u16 bIp),.one (.int .u16 bIq),.one (.int .u16 bIr),.one (.int .u16 (.lit 0)),.one (.int .u16 (.lit 0)),.one (.int .u16 bIs),.one (.int .u16 bIt),.one (.int .u8 bIu),.one (.int .u8 bIv),.one (.int .u8 bIw),.run .u16 (.lit 4) bIx 0,.run .u16 (.lit 256) (.av 1) 0],true,none,false⟩,⟨55,[.one (.ptr 1 (.lit 0))],true,none,false⟩,⟨33,[.one (.int .i64 (.lit 59))],true,none,false⟩,⟨5,[.run .u8 (.lit 512) bOG 0],true,some 1,false⟩])):=by kernel_rfl
def rlV (i0 d:Int) (c f:Nat→Int) (vs:List Value) (J:Interp):Env:=⟨[i0,d],[],[c,f],vs,J⟩
def rlJ (i0 d:Int) (c f:Nat→Int):Nat→Prop
 | 0=>(0≤d∧d≤256)∧(∀ j,0≤f j∧f j≤65535)
 | 1=>(0≤d∧d≤256)∧(∀ j,0≤f j∧f j≤65535)∧∀ j:Nat,(j:Int)<d→f j=pY 42 c j
 | _=>False
def bEO:Nat→Env→Nat
 | 0,ρ=>1000
 | 1,ρ=>(256-ρ.i.getD 1 0).toNat
 | _,_=>0
theorem rlok0 (i0 d:Int) (c f:Nat→Int) (vs:List Value) (J:Interp) (r:555≤i0∧i0≤1048576) (x:28≤c 0∧c 0≤28) (y:550≤c 4*16777216+c 3*65536+c 2*256+c 1∧c 4*16777216+c 3*65536+c 2*256+c 1≤1048571) (z:512≤c 41*16777216+c 40*65536+c 39*256+c 38∧c 41*16777216+c 40*65536+c 39*256+c 38≤512) (M:decide (i0 + -5<c 4*16777216+c 3*65536+c 2*256+c 1)=false) (o:∀ j,0≤c j∧c j≤255) (hfi:∀ p ∈ rlH.fi,∀ is bs xs,inR p.2 (J.fi p.1 is bs xs)) (hfa:∀ p ∈ rlH.fa,∀ is bs xs j,inR p.2 (J.fa p.1 is bs xs j)) (hIi:J.fi=Ifi) (hIb:J.fb=Ifb) (hIa:J.fa=Ifa) (hJ:rlJ i0 d c f 0):Hyp.ok aSP.H (rlV i0 d c f vs J):=by
 simp only [rlJ] at hJ
 obtain ⟨L,m0⟩:=hJ
 refine ⟨by simp [aSP],?_,?_,?_,?_,?_⟩
 ·intro p hp
  simp only [aSP,List.mem_cons,List.not_mem_nil,or_false] at hp
  rcases hp with rfl | rfl | rfl | rfl | rfl
  ·exact r
  ·exact x
  ·exact y
  ·exact z
  ·exact L
 ·intro p hp
  simp only [aSP,List.mem_cons,List.not_mem_nil,or_false] at hp
  rcases hp with rfl | rfl
  ·exact o
  ·exact m0
 ·exact hfi
 ·exact hfa
 ·intro p hp
  simp only [aSP,List.mem_cons,List.not_mem_nil,or_false] at hp
  rcases hp with rfl
  ·exact M
theorem rlok1 (i0 d:Int) (c f:Nat→Int) (vs:List Value) (J:Interp) (r:555≤i0∧i0≤1048576) (x:28≤c 0∧c 0≤28) (y:550≤c 4*16777216+c 3*65536+c 2*256+c 1∧c 4*16777216+c 3*65536+c 2*256+c 1≤1048571) (z:512≤c 41*16777216+c 40*65536+c 39*256+c 38∧c 41*16777216+c 40*65536+c 39*256+c 38≤512) (M:decide (i0 + -5<c 4*16777216+c 3*65536+c 2*256+c 1)=false) (o:∀ j,0≤c j∧c j≤255) (hfi:∀ p ∈ rlH.fi,∀ is bs xs,inR p.2 (J.fi p.1 is bs xs)) (hfa:∀ p ∈ rlH.fa,∀ is bs xs j,inR p.2 (J.fa p.1 is bs xs j)) (hIi:J.fi=Ifi) (hIb:J.fb=Ifb) (hIa:J.fa=Ifa) (hJ:rlJ i0 d c f 1):Hyp.ok aSQ.H (rlV i0 d c f vs J):=by
 simp only [rlJ] at hJ
 obtain ⟨L,m0,hinv⟩:=hJ
 refine ⟨by simp [aSQ],?_,?_,?_,?_,?_⟩
 ·intro p hp
  simp only [aSQ,List.mem_cons,List.not_mem_nil,or_false] at hp
  rcases hp with rfl | rfl | rfl | rfl | rfl
  ·exact r
  ·exact x
  ·exact y
  ·exact z
  ·exact L
 ·intro p hp
  simp only [aSQ,List.mem_cons,List.not_mem_nil,or_false] at hp
  rcases hp with rfl | rfl
  ·exact o
  ·exact m0
 ·exact hfi
 ·exact hfa
 ·intro p hp
  simp only [aSQ,List.mem_cons,List.not_mem_nil,or_false] at hp
  rcases hp with rfl
  ·exact M
theorem rlvcS (i0:Int) (c:Nat→Int) (vs:List Value) (J:Interp) (r:555≤i0∧i0≤1048576) (x:28≤c 0∧c 0≤28) (y:550≤c 4*16777216+c 3*65536+c 2*256+c 1∧c 4*16777216+c 3*65536+c 2*256+c 1≤1048571) (z:512≤c 41*16777216+c 40*65536+c 39*256+c 38∧c 41*16777216+c 40*65536+c 39*256+c 38≤512) (M:decide (i0 + -5<c 4*16777216+c 3*65536+c 2*256+c 1)=false) (o:∀ j,0≤c j∧c j≤255) (hfi:∀ p ∈ rlH.fi,∀ is bs xs,inR p.2 (J.fi p.1 is bs xs)) (hfa:∀ p ∈ rlH.fa,∀ is bs xs j,inR p.2 (J.fa p.1 is bs xs j)) (hIi:J.fi=Ifi) (hIb:J.fb=Ifb) (hIa:J.fa=Ifa) :
 LT.holds (rlV i0 0 c (fun _=>0) vs J) (fun v' m'=>mT (rlV i0 0 c (fun _=>0) vs J) (⟨[i0],[],[c],vs,J⟩:Env) rlR rlO v' m') (fun j todo ρ'=>(rlhs[j]?.map (·.todo))=some todo∧(fun j ρ'=>∃ (d:Int) (f:Nat→Int),ρ'=(rlV i0 d c f vs J)∧rlJ i0 d c f j) j ρ') (.jump 0 bOI ⟨[],[],[]⟩):=by
 simp only [LT.holds]
 refine ⟨rfl,0,(fun _=>0),rfl,?_⟩
 ·simp only [rlJ]
  exact ⟨⟨Int.le_refl _,(show (0:Int)≤256 by decide)⟩,fun j=>⟨Int.le_refl _,(show (0:Int)≤65535 by decide)⟩⟩
theorem rlvc0 (i0 d:Int) (c f:Nat→Int) (vs:List Value) (J:Interp) (r:555≤i0∧i0≤1048576) (x:28≤c 0∧c 0≤28) (y:550≤c 4*16777216+c 3*65536+c 2*256+c 1∧c 4*16777216+c 3*65536+c 2*256+c 1≤1048571) (z:512≤c 41*16777216+c 40*65536+c 39*256+c 38∧c 41*16777216+c 40*65536+c 39*256+c 38≤512) (M:decide (i0 + -5<c 4*16777216+c 3*65536+c 2*256+c 1)=false) (o:∀ j,0≤c j∧c j≤255) (hfi:∀ p ∈ rlH.fi,∀ is bs xs,inR p.2 (J.fi p.1 is bs xs)) (hfa:∀ p ∈ rlH.fa,∀ is bs xs j,inR p.2 (J.fa p.1 is bs xs j)) (hIi:J.fi=Ifi) (hIb:J.fb=Ifb) (hIa:J.fa=Ifa) (hJ:rlJ i0 d c f 0) :
 LT.holds (rlV i0 d c f vs J) (fun v' m'=>mT (rlV i0 d c f vs J) (⟨[i0],[],[c],vs,J⟩:Env) rlR rlO v' m') (fun j' todo ρ'=>(rlhs[j']?.map (·.todo))=some todo∧(fun j ρ'=>∃ (d:Int) (f:Nat→Int),ρ'=(rlV i0 d c f vs J)∧rlJ i0 d c f j) j' ρ'∧bEO j' ρ'<bEO 0 (rlV i0 d c f vs J)) (.jump 1 bEN ⟨[(1,(.lit 0))],[],[(1,(.tab []))]⟩):=by
 simp only [LT.holds]
 simp only [rlJ] at hJ
 obtain ⟨L,m0⟩:=hJ
 refine ⟨rfl,⟨(E.i (rlV i0 d c f vs J) ((.lit 0))),(E.a (rlV i0 d c f vs J) ((.tab []))),rfl,?_⟩,?_⟩
 ·simp only [rlJ]
  refine ⟨⟨Int.le_refl _,(show (0:Int)≤256 by decide)⟩,fun j=>⟨Int.le_refl _,(show (0:Int)≤65535 by decide)⟩,fun j h=>?_⟩
  exact absurd h (show ¬ ((j:Int)<0) by omega)
 ·exact (by decide:256<1000)
theorem rlvc1 (i0 d:Int) (c f:Nat→Int) (vs:List Value) (J:Interp) (r:555≤i0∧i0≤1048576) (x:28≤c 0∧c 0≤28) (y:550≤c 4*16777216+c 3*65536+c 2*256+c 1∧c 4*16777216+c 3*65536+c 2*256+c 1≤1048571) (z:512≤c 41*16777216+c 40*65536+c 39*256+c 38∧c 41*16777216+c 40*65536+c 39*256+c 38≤512) (M:decide (i0 + -5<c 4*16777216+c 3*65536+c 2*256+c 1)=false) (o:∀ j,0≤c j∧c j≤255) (hfi:∀ p ∈ rlH.fi,∀ is bs xs,inR p.2 (J.fi p.1 is bs xs)) (hfa:∀ p ∈ rlH.fa,∀ is bs xs j,inR p.2 (J.fa p.1 is bs xs j)) (hIi:J.fi=Ifi) (hIb:J.fb=Ifb) (hIa:J.fa=Ifa) (hJ:rlJ i0 d c f 1) :
 LT.holds (rlV i0 d c f vs J) (fun v' m'=>mT (rlV i0 d c f vs J) (⟨[i0],[],[c],vs,J⟩:Env) rlR rlO v' m') (fun j' todo ρ'=>(rlhs[j']?.map (·.todo))=some todo∧(fun j ρ'=>∃ (d:Int) (f:Nat→Int),ρ'=(rlV i0 d c f vs J)∧rlJ i0 d c f j) j' ρ'∧bEO j' ρ'<bEO 1 (rlV i0 d c f vs J)) (.ite rl94 (.jump 1 bEN ⟨[(1,bOH)],[],[(1,aZo)]⟩) (.ret (.s (.int .i64 (.lit 59))) [⟨5,[.run .u8 (.v 0) (.av 0) 0],true,some 1,false⟩,⟨98,[.one (.slc 0 (.lit 0) (.v 0) (.op (.lit 0))),.one (.int .i64 bOF),.one (.int .i64 bIh),.run .i64 (.lit 16) bIi 0,.one (.int .i64 (.lit 1))],true,none,false⟩,⟨79,[.one (.int .u16 bIj),.one (.int .u16 bIk),.one (.int .u16 bIl),.one (.int .u16 bIm),.one (.int .u16 bIn),.one (.int .u16 bIo),.one (.int .u16 bIp),.one (.int .u16 bIq),.one (.int .u16 bIr),.one (.int .u16 (.lit 0)),.one (.int .u16 (.lit 0)),.one (.int .u16 bIs),.one (.int .u16 bIt),.one (.int .u8 bIu),.one (.int .u8 bIv),.one (.int .u8 bIw),.run .u16 (.lit 4) bIx 0,.run .u16 (.lit 256) (.av 1) 0],true,none,false⟩,⟨55,[.one (.ptr 1 (.lit 0))],true,none,false⟩,⟨33,[.one (.int .i64 (.lit 59))],true,none,false⟩,⟨5,[.run .u8 (.lit 512) bOG 0],true,some 1,false⟩])):=by
 simp only [LT.holds]
 simp only [rlJ] at hJ
 obtain ⟨L,m0,hinv⟩:=hJ
 refine ⟨fun t=>?_,fun t=>?_⟩
 ·
   refine ⟨rfl,⟨(E.i (rlV i0 d c f vs J) bOH),(E.a (rlV i0 d c f vs J) aZo),rfl,?_⟩,?_⟩
   ·simp only [rlJ]
    have hc:d≤255:=of_decide_eq_true t
    have q:=o (42+2*d.toNat)
    have q1:=o (42+2*d.toNat+1)
    have hw:E.i (rlV i0 d c f vs J) bKI=pY 42 c d.toNat:=by
     show c (d*2+42).toNat+c (d*2+43).toNat*256=_
     rw [show (d*2+42).toNat=42+2*d.toNat by omega,show (d*2+43).toNat=42+2*d.toNat+1 by omega]
     unfold pY;omega
    have hu:∀ j,E.a (rlV i0 d c f vs J) aZo j=if j=d.toNat then pY 42 c d.toNat else f j:=fun j=>by
     rw [← hw]
     rfl
    have hr:=aDo 42 c d.toNat
    refine ⟨(show 0≤d+1∧d+1≤256 by omega),fun j=>?_,fun j h=>?_⟩
    ·rw [hu j]
     have:=m0 j;split <;> omega
    ·have h:(j:Int)<d+1:=h
     rw [hu j]
     by_cases e:j=d.toNat
     ·rw [if_pos e,e]
     ·rw [if_neg e];exact hinv j (by omega)
   ·have hc:d≤255:=of_decide_eq_true t
    exact Nat.lt_of_le_of_lt (Nat.le_of_eq (m:=(256-(d+1)).toNat) (by kernel_rfl)) (Nat.lt_of_lt_of_eq (show (256-(d+1)).toNat<(256-d).toNat by omega) (by kernel_rfl))
 ·
   refine ⟨rfl,?_,?_⟩
   all_goals
    repeat' (first | exact rfl | exact trivial | exact fun _ _=>rfl | refine And.intro ?_ ?_ | refine Or.inr ?_)
   all_goals have hc:¬ (d≤255):=of_decide_eq_false (show decide (d≤255)=false from t)
   all_goals first
    | exact rfl
    | exact fun _ _=>rfl
    | exact fun j hj=>(show f (0+j)=E.a (⟨[i0],[],[c],vs,J⟩:Env) (.app 51 (.cons (.lit 42) (.cons (.av 0) .nil))) (0+j) from (hinv (0+j) (by have hj:j<256:=hj;omega)).trans (congrFun (show E.a (⟨[i0],[],[c],vs,J⟩:Env) (.app 51 (.cons (.lit 42) (.cons (.av 0) .nil)))=pY 42 c from bCd (ρ:=(⟨[i0],[],[c],vs,J⟩:Env)) hIa (.lit 42) (.av 0)) (0+j)).symm)
theorem rlat (xs:Nat→Nat→Ext):fI Try.prog (Iv xs) 47 1 0 1 (iY rlH rlL rlM rlN rlR (some rlO)):=by
 refine rE (u:=0) (bBP xs) (by kernel_rfl) rlst (by decide) rfl (fun ρ j ρ'=>∃(i0:Int) (c:Nat→Int),∃ vs J,ρ=(⟨[i0],[],[c],vs,J⟩:Env)∧(fun j ρ'=>∃ (d:Int) (f:Nat→Int),ρ'=(rlV i0 d c f vs J)∧rlJ i0 d c f j) j ρ') bEO ?_
 intro ρ hI hz hH hn
 obtain ⟨ys,zs,Ys,vs,J⟩:=ρ
 obtain ⟨z1,z2,X⟩:=hz
 simp only at z1 z2 X hI
 obtain ⟨i0,ys0,rfl,I⟩:=aL z1
 obtain rfl:=List.eq_nil_of_length_eq_zero I
 obtain rfl:=List.eq_nil_of_length_eq_zero z2
 obtain ⟨c,Ys0,rfl,K⟩:=aL X
 obtain rfl:=List.eq_nil_of_length_eq_zero K
 have r:555≤i0∧i0≤1048576:=hH.e (.v 0,(555,1048576)) (by simp [rlH])
 have M:decide (i0 + -5<c 4*16777216+c 3*65536+c 2*256+c 1)=false:=hH.b ((.lt (.add (.v 0) (.lit (-5))) (.add (.add (.add (.mul (.sel (.av 0) (.lit 4)) (.lit 16777216)) (.mul (.sel (.av 0) (.lit 3)) (.lit 65536))) (.mul (.sel (.av 0) (.lit 2)) (.lit 256))) (.sel (.av 0) (.lit 1)))),false) (by simp [rlH])
 have x:28≤c 0∧c 0≤28:=hH.e ((.sel (.av 0) (.lit 0)),(28,28)) (by simp [rlH])
 have y:550≤c 4*16777216+c 3*65536+c 2*256+c 1∧c 4*16777216+c 3*65536+c 2*256+c 1≤1048571:=hH.e ((.add (.add (.add (.mul (.sel (.av 0) (.lit 4)) (.lit 16777216)) (.mul (.sel (.av 0) (.lit 3)) (.lit 65536))) (.mul (.sel (.av 0) (.lit 2)) (.lit 256))) (.sel (.av 0) (.lit 1))),(550,1048571)) (by simp [rlH])
 have z:512≤c 41*16777216+c 40*65536+c 39*256+c 38∧c 41*16777216+c 40*65536+c 39*256+c 38≤512:=hH.e ((.add (.add (.add (.mul (.sel (.av 0) (.lit 41)) (.lit 16777216)) (.mul (.sel (.av 0) (.lit 40)) (.lit 65536))) (.mul (.sel (.av 0) (.lit 39)) (.lit 256))) (.sel (.av 0) (.lit 38))),(512,512)) (by simp [rlH])
 have o:∀ j,0≤c j∧c j≤255:=fun j=>hH.a (0,(0,255)) (by simp [rlH]) j
 have hfi:∀ p ∈ rlH.fi,∀ is bs xs,inR p.2 (J.fi p.1 is bs xs):=hH.fi
 have hfa:∀ p ∈ rlH.fa,∀ is bs xs j,inR p.2 (J.fa p.1 is bs xs j):=hH.fa
 have hIi:J.fi=Ifi:=by rw [hI];rfl
 have hIb:J.fb=Ifb:=by rw [hI];rfl
 have hIa:J.fa=Ifa:=by rw [hI];rfl
 refine ⟨(rlV i0 0 c (fun _=>0) vs J),rfl,⟨rfl,rfl,rfl⟩,?_,fun ι=>rfl,?_,?_,?_⟩
 ·
   refine ⟨by simp [rlH],?_,?_,?_,?_,?_⟩
   ·intro p hp
    simp only [rlH,List.mem_cons,List.not_mem_nil,or_false] at hp
    rcases hp with rfl | rfl | rfl | rfl
    ·exact r
    ·exact x
    ·exact y
    ·exact z
   ·intro p hp
    simp only [rlH,List.mem_cons,List.not_mem_nil,or_false] at hp
    rcases hp with rfl
    ·exact o
   ·exact hfi
   ·exact hfa
   ·intro p hp
    simp only [rlH,List.mem_cons,List.not_mem_nil,or_false] at hp
    rcases hp with rfl
    ·exact M
 ·repeat' (first | exact rfl | exact trivial | exact fun _ _=>rfl | refine And.intro ?_ ?_ | refine Or.inr ?_)
 ·refine LT.cI (fun v' m' h=>h) (fun j todo ρ' h=>⟨h.1,i0,c,vs,J,rfl,h.2⟩) (rlvcS i0 c vs J r x y z M o hfi hfa hIi hIb hIa)
 ·intro j h ρ' hj hI' hz' hInv
  obtain ⟨i0',A0',vs',J',he,d,f,hρ,hJ⟩:=hInv
  cases he
  subst hρ
  rcases j with _ | _ | j
  ·simp only [rlhs,List.getElem?_cons_zero,List.getElem?_cons_succ,Option.some.injEq] at hj;subst hj
   refine ⟨aSP.H,rlok0 i0 d c f vs J r x y z M o hfi hfa hIi hIb hIa hJ,_,rlsg0,?_⟩
   exact LT.cI (fun v' m' h=>h) (fun j todo ρ' h=>⟨h.1,⟨i0,c,vs,J,rfl,h.2.1⟩,h.2.2⟩) (rlvc0 i0 d c f vs J r x y z M o hfi hfa hIi hIb hIa hJ)
  ·simp only [rlhs,List.getElem?_cons_zero,List.getElem?_cons_succ,Option.some.injEq] at hj;subst hj
   refine ⟨aSQ.H,rlok1 i0 d c f vs J r x y z M o hfi hfa hIi hIb hIa hJ,_,rlsg1,?_⟩
   exact LT.cI (fun v' m' h=>h) (fun j todo ρ' h=>⟨h.1,⟨i0,c,vs,J,rfl,h.2.1⟩,h.2.2⟩) (rlvc1 i0 d c f vs J r x y z M o hfi hfa hIi hIb hIa hJ)
  ·simp [rlhs] at hj
def rlS:Go.Sx.Spec:=fC (fK 1 0 1 rlL rlM) rlH rlL rlM rlN (rlR) (some rlO)
theorem rlok (xs:Nat→Nat→Ext):aX Try.prog (Iv xs) 47 rlS:=fB (rlat xs) (dT _ _ _ _ _ _)
noncomputable def SPz:Ctx:=inl Try.prog (ctx []) 3000 60 14
noncomputable def SPzh:aV:=bCV Try.prog (ctx []) 3000 60 14
theorem bLD (xs:Nat→Nat→Ext):cA Try.prog (Iv xs) SPz:=yA (kP (fun p hp=>by cases hp)) (by kernel_rfl) 3000 60 14
def pzH:Hyp:=⟨[(.v 0,(0,2047)),(.v 1,(0,65535)),(.v 2,(0,65535)),(.v 3,(0,65535)),(.v 4,(0,65535)),(.v 5,(0,255)),(.v 6,(0,1023)),(.v 7,(0,65535)),(.v 8,(0,65535)),(.v 9,(0,65535)),(.v 10,(0,65535)),(.v 11,(0,65535)),(.v 12,(0,65535)),(.v 13,(0,63)),(.v 14,(0,63)),(.v 15,(0,3))],[(0,(0,2047)),(1,(0,65535))],[(10,(0,4294967295)),(40,(0,65535)),(41,(0,63))],[(50,(0,255))],[],[]⟩
def pzL:List SV:=[.s (.ptr 0 (.lit 0))]
def pzM:Mem:=[⟨75,[.one (.int .u16 (.v 0)),.one (.int .u16 (.v 1)),.one (.int .u16 (.v 2)),.one (.int .u16 (.v 3)),.one (.int .u16 (.v 4)),.one (.int .u16 (.v 5)),.one (.int .u16 (.v 6)),.one (.int .u16 (.v 7)),.one (.int .u16 (.v 8)),.one (.int .u16 (.v 9)),.one (.int .u16 (.v 10)),.one (.int .u16 (.v 11)),.one (.int .u16 (.v 12)),.one (.int .u8 (.v 13)),.one (.int .u8 (.v 14)),.one (.int .i64 (.v 15)),.run .i64 (.lit 4) (.av 0) 0,.run .i64 (.lit 256) (.av 1) 0,.one .nilSlc],true,none,false⟩]
def pzO:Mem:=[⟨75,[.one (.int .u16 (.v 0)),.one (.int .u16 (.v 1)),.one (.int .u16 (.v 2)),.one (.int .u16 (.v 3)),.one (.int .u16 (.v 4)),.one (.int .u16 (.v 5)),.one (.int .u16 (.v 6)),.one (.int .u16 (.v 7)),.one (.int .u16 (.v 8)),.one (.int .u16 (.v 9)),.one (.int .u16 (.v 10)),.one (.int .u16 (.v 11)),.one (.int .u16 (.v 12)),.one (.int .u8 (.v 13)),.one (.int .u8 (.v 14)),.one (.int .i64 (.v 15)),.run .i64 (.lit 4) (.av 0) 0,.run .i64 (.lit 256) (.av 1) 0,.one (.nilSlc)],true,none,false⟩,⟨107,[.one (.int .i64 (.lit 6)),.one (.int .i64 (.lit 28)),.one (.nilSlc),.one (.int .i64 (.lit 1)),.one (.int .i64 (.v 0)),.one (.nilSlc),.one (.int .i64 (.lit 1)),.one (.int .i64 (.v 1)),.one (.nilSlc),.one (.int .i64 (.lit 1)),.one (.int .i64 (.v 2)),.one (.nilSlc),.one (.int .i64 (.lit 1)),.one (.int .i64 (.v 3)),.one (.nilSlc),.one (.int .i64 (.lit 1)),.one (.int .i64 (.v 4)),.one (.nilSlc),.one (.int .i64 (.lit 1)),.one (.int .i64 (.v 5)),.one (.nilSlc),.one (.int .i64 (.lit 1)),.one (.int .i64 (.v 6)),.one (.nilSlc),.one (.int .i64 (.lit 1)),.one (.int .i64 (.v 7)),.one (.nilSlc),.one (.int .i64 (.lit 1)),.one (.int .i64 (.v 8)),.one (.nilSlc),.one (.int .i64 (.lit 1)),.one (.int .i64 (.v 11)),.one (.nilSlc),.one (.int .i64 (.lit 1)),.one (.int .i64 (.v 12)),.one (.nilSlc),.one (.int .i64 (.lit 0)),.one (.int .i64 (.v 13)),.one (.nilSlc),.one (.int .i64 (.lit 0)),.one (.int .i64 (.v 14)),.one (.nilSlc),.one (.int .i64 (.lit 0)),.one (.int .i64 (.v 15)),.one (.nilSlc),.one (.int .i64 (.lit 1)),.one (.int .i64 (.sel (.av 0) (.lit 0))),.one (.nilSlc),.one (.int .i64 (.lit 1)),.one (.int .i64 (.sel (.av 0) (.lit 1))),.one (.nilSlc),.one (.int .i64 (.lit 1)),.one (.int .i64 (.sel (.av 0) (.lit 2))),.one (.nilSlc),.one (.int .i64 (.lit 1)),.one (.int .i64 (.sel (.av 0) (.lit 3))),.one (.nilSlc)],true,some 3,true⟩,⟨5,[.run .u8 (.lit 512) (.app 50 (.cons (.av 1) .nil)) 0],true,some 1,false⟩,⟨107,[.one (.int .i64 (.lit 5)),.one (.int .i64 (.lit 0)),.one (.slc 2 (.lit 0) (.lit 512) (.op (.lit 0))),.one (.int .i64 (.lit 7)),.one (.int .i64 (.lit 0)),.one (.nilSlc)],true,none,false⟩,⟨107,[.one (.int .i64 (.lit 6)),.one (.int .i64 (.lit 28)),.one (.nilSlc),.one (.int .i64 (.lit 1)),.one (.int .i64 (.v 0)),.one (.nilSlc),.one (.int .i64 (.lit 1)),.one (.int .i64 (.v 1)),.one (.nilSlc),.one (.int .i64 (.lit 1)),.one (.int .i64 (.v 2)),.one (.nilSlc),.one (.int .i64 (.lit 1)),.one (.int .i64 (.v 3)),.one (.nilSlc),.one (.int .i64 (.lit 1)),.one (.int .i64 (.v 4)),.one (.nilSlc),.one (.int .i64 (.lit 1)),.one (.int .i64 (.v 5)),.one (.nilSlc),.one (.int .i64 (.lit 1)),.one (.int .i64 (.v 6)),.one (.nilSlc),.one (.int .i64 (.lit 1)),.one (.int .i64 (.v 7)),.one (.nilSlc),.one (.int .i64 (.lit 1)),.one (.int .i64 (.v 8)),.one (.nilSlc),.one (.int .i64 (.lit 1)),.one (.int .i64 (.v 11)),.one (.nilSlc),.one (.int .i64 (.lit 1)),.one (.int .i64 (.v 12)),.one (.nilSlc),.one (.int .i64 (.lit 0)),.one (.int .i64 (.v 13)),.one (.nilSlc),.one (.int .i64 (.lit 0)),.one (.int .i64 (.v 14)),.one (.nilSlc),.one (.int .i64 (.lit 0)),.one (.int .i64 (.v 15)),.one (.nilSlc),.one (.int .i64 (.lit 1)),.one (.int .i64 (.sel (.av 0) (.lit 0))),.one (.nilSlc),.one (.int .i64 (.lit 1)),.one (.int .i64 (.sel (.av 0) (.lit 1))),.one (.nilSlc),.one (.int .i64 (.lit 1)),.one (.int .i64 (.sel (.av 0) (.lit 2))),.one (.nilSlc),.one (.int .i64 (.lit 1)),.one (.int .i64 (.sel (.av 0) (.lit 3))),.one (.nilSlc),.one (.int .i64 (.lit 5)),.one (.int .i64 (.lit 0)),.one (.slc 2 (.lit 0) (.lit 512) (.op (.lit 0))),.one (.int .i64 (.lit 7)),.one (.int .i64 (.lit 0)),.one (.nilSlc)],true,some 3,false⟩]
def pzN:List E:=[]
def pzR:SV:=.s (.slc 4 (.lit 0) (.lit 21) (.op (.lit 0)))
--SKEND
def pz0:E:=.sel (.av 0) (.lit 0)
def pz1:E:=.sel (.av 0) (.lit 1)
def pz2:E:=.sel (.av 0) (.lit 2)
def pz3:E:=.sel (.av 0) (.lit 3)
def pz4:E:=.sel (.av 1) (.lit 0)
def pz5:E:=.mod pz4 (.lit 256)
def pz6:E:=.upd (.tab []) (.lit 0) pz5
def pz7:E:=.div pz4 (.lit 256)
def pz8:E:=.upd pz6 (.lit 1) pz7
def pz9:E:=.le (.v 17) (.lit 255)
def bAB:E:=.add (.v 16) (.lit 2)
def bAC:E:=.add (.v 17) (.lit 1)
def bEv:E:=.sel (.av 1) (.v 17)
def bHC:E:=.mod bEv (.lit 256)
def bHD:E:=.upd (.av 2) (.v 16) bHC
def bHE:E:=.add (.v 16) (.lit 1)
def bHF:E:=.div bEv (.lit 256)
def bAD:E:=.upd bHD bHE bHF
noncomputable def bEw:List Item:=mL Try.prog 49 15
noncomputable def aSG:Head:=⟨15,bEw,⟨[((.v 0),(0,2047)),((.v 1),(0,65535)),((.v 2),(0,65535)),((.v 3),(0,65535)),((.v 4),(0,65535)),((.v 5),(0,255)),((.v 6),(0,1023)),((.v 7),(0,65535)),((.v 8),(0,65535)),((.v 9),(0,65535)),((.v 10),(0,65535)),((.v 11),(0,65535)),((.v 12),(0,65535)),((.v 13),(0,63)),((.v 14),(0,63)),((.v 15),(0,3)),((.v 16),(0,512)),((.v 17),(0,256))],[(0,(0,2047)),(1,(0,65535)),(2,(0,255))],[(10,(0,4294967295)),(40,(0,65535)),(41,(0,63))],[(50,(0,255))],[],[]⟩,[⟨8,[],.s (.int .i64 (.v 17))⟩,⟨7,[],.s (.slc 2 (.lit 0) (.v 16) (.op (.lit 0)))⟩,⟨3,[],.s (.slc 1 (.lit 0) (.lit 19) (.op (.lit 0)))⟩,⟨0,[],.s (.ptr 0 (.lit 0))⟩],[⟨75,[.one (.int .u16 (.v 0)),.one (.int .u16 (.v 1)),.one (.int .u16 (.v 2)),.one (.int .u16 (.v 3)),.one (.int .u16 (.v 4)),.one (.int .u16 (.v 5)),.one (.int .u16 (.v 6)),.one (.int .u16 (.v 7)),.one (.int .u16 (.v 8)),.one (.int .u16 (.v 9)),.one (.int .u16 (.v 10)),.one (.int .u16 (.v 11)),.one (.int .u16 (.v 12)),.one (.int .u8 (.v 13)),.one (.int .u8 (.v 14)),.one (.int .i64 (.v 15)),.run .i64 (.lit 4) (.av 0) 0,.run .i64 (.lit 256) (.av 1) 0,.one (.nilSlc)],true,none,false⟩,⟨107,[.one (.int .i64 (.lit 6)),.one (.int .i64 (.lit 28)),.one (.nilSlc),.one (.int .i64 (.lit 1)),.one (.int .i64 (.v 0)),.one (.nilSlc),.one (.int .i64 (.lit 1)),.one (.int .i64 (.v 1)),.one (.nilSlc),.one (.int .i64 (.lit 1)),.one (.int .i64 (.v 2)),.one (.nilSlc),.one (.int .i64 (.lit 1)),.one (.int .i64 (.v 3)),.one (.nilSlc),.one (.int .i64 (.lit 1)),.one (.int .i64 (.v 4)),.one (.nilSlc),.one (.int .i64 (.lit 1)),.one (.int .i64 (.v 5)),.one (.nilSlc),.one (.int .i64 (.lit 1)),.one (.int .i64 (.v 6)),.one (.nilSlc),.one (.int .i64 (.lit 1)),.one (.int .i64 (.v 7)),.one (.nilSlc),.one (.int .i64 (.lit 1)),.one (.int .i64 (.v 8)),.one (.nilSlc),.one (.int .i64 (.lit 1)),.one (.int .i64 (.v 11)),.one (.nilSlc),.one (.int .i64 (.lit 1)),.one (.int .i64 (.v 12)),.one (.nilSlc),.one (.int .i64 (.lit 0)),.one (.int .i64 (.v 13)),.one (.nilSlc),.one (.int .i64 (.lit 0)),.one (.int .i64 (.v 14)),.one (.nilSlc),.one (.int .i64 (.lit 0)),.one (.int .i64 (.v 15)),.one (.nilSlc),.one (.int .i64 (.lit 1)),.one (.int .i64 pz0),.one (.nilSlc),.one (.int .i64 (.lit 1)),.one (.int .i64 pz1),.one (.nilSlc),.one (.int .i64 (.lit 1)),.one (.int .i64 pz2),.one (.nilSlc),.one (.int .i64 (.lit 1)),.one (.int .i64 pz3),.one (.nilSlc)],true,some 3,false⟩,⟨5,[.run .u8 (.v 16) (.av 2) 0],true,some 1,false⟩]⟩
noncomputable def bAE:List Head:=[aSG]
def pzD:Dim:=⟨18,0,3,16,0,2,1⟩
theorem pzst:gD Try.prog SPz SPzh pzD bAE [] 3000 18 49 pzH pzL pzM=some (.jump 0 bEw ⟨[(16,(.lit 2)),(17,(.lit 1))],[],[(2,pz8)]⟩):=by kernel_rfl
theorem pzsg0:mM Try.prog SPz SPzh pzD bAE [] 3000 0 49 aSG=some (.ite pz9 (.jump 0 bEw ⟨[(16,bAB),(17,bAC)],[],[(2,bAD)]⟩) (.ret (.s (.slc 4 (.lit 0) (.lit 21) (.op (.lit 0)))) [⟨75,[.one (.int .u16 (.v 0)),.one (.int .u16 (.v 1)),.one (.int .u16 (.v 2)),.one (.int .u16 (.v 3)),.one (.int .u16 (.v 4)),.one (.int .u16 (.v 5)),.one (.int .u16 (.v 6)),.one (.int .u16 (.v 7)),.one (.int .u16 (.v 8)),.one (.int .u16 (.v 9)),.one (.int .u16 (.v 10)),.one (.int .u16 (.v 11)),.one (.int .u16 (.v 12)),.one (.int .u8 (.v 13)),.one (.int .u8 (.v 14)),.one (.int .i64 (.v 15)),.run .i64 (.lit 4) (.av 0) 0,.run .i64 (.lit 256) (.av 1) 0,.one (.nilSlc)],true,none,false⟩,⟨107,[.one (.int .i64 (.lit 6)),.one (.int .i64 (.lit 28)),.one (.nilSlc),.one (.int .i64 (.lit 1)),.one (.int .i64 (.v 0)),.one (.nilSlc),.one (.int .i64 (.lit 1)),.one (.int .i64 (.v 1)),.one (.nilSlc),.one (.int .i64 (.lit 1)),.one (.int .i64 (.v 2)),.one (.nilSlc),.one (.int .i64 (.lit 1)),.one (.int .i64 (.v 3)),.one (.nilSlc),.one (.int .i64 (.lit 1)),.one (.int .i64 (.v 4)),.one (.nilSlc),.one (.int .i64 (.lit 1)),.one (.int .i64 (.v 5)),.one (.nilSlc),.one (.int .i64 (.lit 1)),.one (.int .i64 (.v 6)),.one (.nilSlc),.one (.int .i64 (.lit 1)),.one (.int .i64 (.v 7)),.one (.nilSlc),.one (.int .i64 (.lit 1)),.one (.int .i64 (.v 8)),.one (.nilSlc),.one (.int .i64 (.lit 1)),.one (.int .i64 (.v 11)),.one (.nilSlc),.one (.int .i64 (.lit 1)),.one (.int .i64 (.v 12)),.one (.nilSlc),.one (.int .i64 (.lit 0)),.one (.int .i64 (.v 13)),.one (.nilSlc),.one (.int .i64 (.lit 0)),.one (.int .i64 (.v 14)),.one (.nilSlc),.one (.int .i64 (.lit 0)),.one (.int .i64 (.v 15)),.one (.nilSlc),.one (.int .i64 (.lit 1)),.one (.int .i64 pz0),.one (.nilSlc),.one (.int .i64 (.lit 1)),.one (.int .i64 pz1),.one (.nilSlc),.one (.int .i64 (.lit 1)),.one (.int .i64 pz2),.one (.nilSlc),.one (.int .i64 (.lit 1)),.one (.int .i64 pz3),.one (.nilSlc)],true,some 3,true⟩,⟨5,[.run .u8 (.v 16) (.av 2) 0],true,some 1,false⟩,⟨107,[.one (.int .i64 (.lit 5)),.one (.int .i64 (.lit 0)),.one (.slc 2 (.lit 0) (.v 16) (.op (.lit 0))),.one (.int .i64 (.lit 7)),.one (.int .i64 (.lit 0)),.one (.nilSlc)],true,none,false⟩,⟨107,[.one (.int .i64 (.lit 6)),.one (.int .i64 (.lit 28)),.one (.nilSlc),.one (.int .i64 (.lit 1)),.one (.int .i64 (.v 0)),.one (.nilSlc),.one (.int .i64 (.lit 1)),.one (.int .i64 (.v 1)),.one (.nilSlc),.one (.int .i64 (.lit 1)),.one (.int .i64 (.v 2)),.one (.nilSlc),.one (.int .i64 (.lit 1)),.one (.int .i64 (.v 3)),.one (.nilSlc),.one (.int .i64 (.lit 1)),.one (.int .i64 (.v 4)),.one (.nilSlc),.one (.int .i64 (.lit 1)),.one (.int .i64 (.v 5)),.one (.nilSlc),.one (.int .i64 (.lit 1)),.one (.int .i64 (.v 6)),.one (.nilSlc),.one (.int .i64 (.lit 1)),.one (.int .i64 (.v 7)),.one (.nilSlc),.one (.int .i64 (.lit 1)),.one (.int .i64 (.v 8)),.one (.nilSlc),.one (.int .i64 (.lit 1)),.one (.int .i64 (.v 11)),.one (.nilSlc),.one (.int .i64 (.lit 1)),.one (.int .i64 (.v 12)),.one (.nilSlc),.one (.int .i64 (.lit 0)),.one (.int .i64 (.v 13)),.one (.nilSlc),.one (.int .i64 (.lit 0)),.one (.int .i64 (.v 14)),.one (.nilSlc),.one (.int .i64 (.lit 0)),.one (.int .i64 (.v 15)),.one (.nilSlc),.one (.int .i64 (.lit 1)),.one (.int .i64 pz0),.one (.nilSlc),.one (.int .i64 (.lit 1)),.one (.int .i64 pz1),.one (.nilSlc),.one (.int .i64 (.lit 1)),.one (.int .i64 pz2),.one (.nilSlc),.one (.int .i64 (.lit 1)),.one (.int .i64 pz3),.one (.nilSlc),.one (.int .i64 (.lit 5)),.one (.int .i64 (.lit 0)),.one (.slc 2 (.lit 0) (.v 16) (.op (.lit 0))),.one (.int .i64 (.lit 7)),.one (.int .i64 (.lit 0)),.one (.nilSlc)],true,some 3,false⟩])):=by kernel_rfl
def pzV (i0 i1 i2 i3 i4 i5 i6 i7 i8 i9 i10 i11 i12 i13 i14 i15 l g:Int) (c n w:Nat→Int) (vs:List Value) (J:Interp):Env:=⟨[i0,i1,i2,i3,i4,i5,i6,i7,i8,i9,i10,i11,i12,i13,i14,i15,l,g],[],[c,n,w],vs,J⟩
def pzJ (i0 i1 i2 i3 i4 i5 i6 i7 i8 i9 i10 i11 i12 i13 i14 i15 l g:Int) (c n w:Nat→Int):Nat→Prop
 | 0=>(0≤l∧l≤512)∧(0≤g∧g≤256)∧(∀ j,0≤w j∧w j≤255)∧l=2*g∧∀ j:Nat,(j:Int)<2*g→w j=iW n j
 | _=>False
def bHG:Nat→Env→Nat
 | 0,ρ=>(256-ρ.i.getD 17 0).toNat
 | _,_=>0
theorem pzok0 (i0 i1 i2 i3 i4 i5 i6 i7 i8 i9 i10 i11 i12 i13 i14 i15 l g:Int) (c n w:Nat→Int) (vs:List Value) (J:Interp) (r:0≤i0∧i0≤2047) (O:0≤i1∧i1≤65535) (P:0≤i2∧i2≤65535) (Q:0≤i3∧i3≤65535) (R:0≤i4∧i4≤65535) (S:0≤i5∧i5≤255) (T:0≤i6∧i6≤1023) (U:0≤i7∧i7≤65535) (V:0≤i8∧i8≤65535) (W:0≤i9∧i9≤65535) (A:0≤i10∧i10≤65535) (B:0≤i11∧i11≤65535) (C:0≤i12∧i12≤65535) (D:0≤i13∧i13≤63) (F:0≤i14∧i14≤63) (G:0≤i15∧i15≤3) (o:∀ j,0≤c j∧c j≤2047) (N:∀ j,0≤n j∧n j≤65535) (hfi:∀ p ∈ pzH.fi,∀ is bs xs,inR p.2 (J.fi p.1 is bs xs)) (hfa:∀ p ∈ pzH.fa,∀ is bs xs j,inR p.2 (J.fa p.1 is bs xs j)) (hIi:J.fi=Ifi) (hIb:J.fb=Ifb) (hIa:J.fa=Ifa) (hJ:pzJ i0 i1 i2 i3 i4 i5 i6 i7 i8 i9 i10 i11 i12 i13 i14 i15 l g c n w 0):Hyp.ok aSG.H (pzV i0 i1 i2 i3 i4 i5 i6 i7 i8 i9 i10 i11 i12 i13 i14 i15 l g c n w vs J):=by
 simp only [pzJ] at hJ
 obtain ⟨L,l1,m0,hinv⟩:=hJ
 refine ⟨by simp [aSG],?_,?_,?_,?_,by simp [aSG]⟩
 ·intro p hp
  simp only [aSG,List.mem_cons,List.not_mem_nil,or_false] at hp
  rcases hp with rfl | rfl | rfl | rfl | rfl | rfl | rfl | rfl | rfl | rfl | rfl | rfl | rfl | rfl | rfl | rfl | rfl | rfl
  ·exact r
  ·exact O
  ·exact P
  ·exact Q
  ·exact R
  ·exact S
  ·exact T
  ·exact U
  ·exact V
  ·exact W
  ·exact A
  ·exact B
  ·exact C
  ·exact D
  ·exact F
  ·exact G
  ·exact L
  ·exact l1
 ·intro p hp
  simp only [aSG,List.mem_cons,List.not_mem_nil,or_false] at hp
  rcases hp with rfl | rfl | rfl
  ·exact o
  ·exact N
  ·exact m0
 ·exact hfi
 ·exact hfa
theorem pzvcS (i0 i1 i2 i3 i4 i5 i6 i7 i8 i9 i10 i11 i12 i13 i14 i15:Int) (c n:Nat→Int) (vs:List Value) (J:Interp) (r:0≤i0∧i0≤2047) (O:0≤i1∧i1≤65535) (P:0≤i2∧i2≤65535) (Q:0≤i3∧i3≤65535) (R:0≤i4∧i4≤65535) (S:0≤i5∧i5≤255) (T:0≤i6∧i6≤1023) (U:0≤i7∧i7≤65535) (V:0≤i8∧i8≤65535) (W:0≤i9∧i9≤65535) (A:0≤i10∧i10≤65535) (B:0≤i11∧i11≤65535) (C:0≤i12∧i12≤65535) (D:0≤i13∧i13≤63) (F:0≤i14∧i14≤63) (G:0≤i15∧i15≤3) (o:∀ j,0≤c j∧c j≤2047) (N:∀ j,0≤n j∧n j≤65535) (hfi:∀ p ∈ pzH.fi,∀ is bs xs,inR p.2 (J.fi p.1 is bs xs)) (hfa:∀ p ∈ pzH.fa,∀ is bs xs j,inR p.2 (J.fa p.1 is bs xs j)) (hIi:J.fi=Ifi) (hIb:J.fb=Ifb) (hIa:J.fa=Ifa) :
 LT.holds (pzV i0 i1 i2 i3 i4 i5 i6 i7 i8 i9 i10 i11 i12 i13 i14 i15 0 0 c n (fun _=>0) vs J) (fun v' m'=>mT (pzV i0 i1 i2 i3 i4 i5 i6 i7 i8 i9 i10 i11 i12 i13 i14 i15 0 0 c n (fun _=>0) vs J) (⟨[i0,i1,i2,i3,i4,i5,i6,i7,i8,i9,i10,i11,i12,i13,i14,i15],[],[c,n],vs,J⟩:Env) pzR pzO v' m') (fun j todo ρ'=>(bAE[j]?.map (·.todo))=some todo∧(fun j ρ'=>∃ (l g:Int) (w:Nat→Int),ρ'=(pzV i0 i1 i2 i3 i4 i5 i6 i7 i8 i9 i10 i11 i12 i13 i14 i15 l g c n w vs J)∧pzJ i0 i1 i2 i3 i4 i5 i6 i7 i8 i9 i10 i11 i12 i13 i14 i15 l g c n w j) j ρ') (.jump 0 bEw ⟨[(16,(.lit 2)),(17,(.lit 1))],[],[(2,pz8)]⟩):=by
 simp only [LT.holds]
 refine ⟨rfl,(E.i (pzV i0 i1 i2 i3 i4 i5 i6 i7 i8 i9 i10 i11 i12 i13 i14 i15 0 0 c n (fun _=>0) vs J) ((.lit 2))),(E.i (pzV i0 i1 i2 i3 i4 i5 i6 i7 i8 i9 i10 i11 i12 i13 i14 i15 0 0 c n (fun _=>0) vs J) ((.lit 1))),(E.a (pzV i0 i1 i2 i3 i4 i5 i6 i7 i8 i9 i10 i11 i12 i13 i14 i15 0 0 c n (fun _=>0) vs J) pz8),rfl,?_⟩
 ·simp only [pzJ]
  have q:=N 0
  have Y:iW n 0=n 0%256:=aAI (k:=0)
  have Z:iW n 1=n 0 / 256:=aAH (k:=0) (by omega)
  simp only [pzV,pz0,pz1,pz2,pz3,pz4,pz5,pz6,pz7,pz8,pz9,bAB,bAC,bEv,bHC,bHD,bHE,bHF,bAD,i_v,gP,aF,aP,aS,cU,bE,cE,bC,bX,bU,aT,cR,fX,fM,eR,cZ,cT,fJ,dO,dI,cB,bW,List.getD_cons_zero,List.getD_cons_succ,decide_eq_true_eq,decide_eq_false_iff_not,Bool.and_eq_true,Bool.or_eq_true,Bool.not_eq_true',Bool.not_eq_false',Bool.and_eq_false_iff,Bool.or_eq_false_iff,Bool.not_not,cM,cL,cK,cJ,gJ,cD,cC]
  refine ⟨by omega,by omega,fun j=>?_,by omega,fun j h=>?_⟩
  ·show 0≤(if j=1 then n 0 / 256 else if j=0 then n 0%256 else 0)∧(if j=1 then n 0 / 256 else if j=0 then n 0%256 else 0)≤255
   repeat' split
   all_goals omega
  ·show (if j=1 then n 0 / 256 else if j=0 then n 0%256 else 0)=iW n j
   rcases (show j=0∨j=1 by omega) with rfl | rfl
   ·exact Y.symm
   ·exact Z.symm
theorem pzvc0 (i0 i1 i2 i3 i4 i5 i6 i7 i8 i9 i10 i11 i12 i13 i14 i15 l g:Int) (c n w:Nat→Int) (vs:List Value) (J:Interp) (r:0≤i0∧i0≤2047) (O:0≤i1∧i1≤65535) (P:0≤i2∧i2≤65535) (Q:0≤i3∧i3≤65535) (R:0≤i4∧i4≤65535) (S:0≤i5∧i5≤255) (T:0≤i6∧i6≤1023) (U:0≤i7∧i7≤65535) (V:0≤i8∧i8≤65535) (W:0≤i9∧i9≤65535) (A:0≤i10∧i10≤65535) (B:0≤i11∧i11≤65535) (C:0≤i12∧i12≤65535) (D:0≤i13∧i13≤63) (F:0≤i14∧i14≤63) (G:0≤i15∧i15≤3) (o:∀ j,0≤c j∧c j≤2047) (N:∀ j,0≤n j∧n j≤65535) (hfi:∀ p ∈ pzH.fi,∀ is bs xs,inR p.2 (J.fi p.1 is bs xs)) (hfa:∀ p ∈ pzH.fa,∀ is bs xs j,inR p.2 (J.fa p.1 is bs xs j)) (hIi:J.fi=Ifi) (hIb:J.fb=Ifb) (hIa:J.fa=Ifa) (hJ:pzJ i0 i1 i2 i3 i4 i5 i6 i7 i8 i9 i10 i11 i12 i13 i14 i15 l g c n w 0) :
 LT.holds (pzV i0 i1 i2 i3 i4 i5 i6 i7 i8 i9 i10 i11 i12 i13 i14 i15 l g c n w vs J) (fun v' m'=>mT (pzV i0 i1 i2 i3 i4 i5 i6 i7 i8 i9 i10 i11 i12 i13 i14 i15 l g c n w vs J) (⟨[i0,i1,i2,i3,i4,i5,i6,i7,i8,i9,i10,i11,i12,i13,i14,i15],[],[c,n],vs,J⟩:Env) pzR pzO v' m') (fun j' todo ρ'=>(bAE[j']?.map (·.todo))=some todo∧(fun j ρ'=>∃ (l g:Int) (w:Nat→Int),ρ'=(pzV i0 i1 i2 i3 i4 i5 i6 i7 i8 i9 i10 i11 i12 i13 i14 i15 l g c n w vs J)∧pzJ i0 i1 i2 i3 i4 i5 i6 i7 i8 i9 i10 i11 i12 i13 i14 i15 l g c n w j) j' ρ'∧bHG j' ρ'<bHG 0 (pzV i0 i1 i2 i3 i4 i5 i6 i7 i8 i9 i10 i11 i12 i13 i14 i15 l g c n w vs J)) (.ite pz9 (.jump 0 bEw ⟨[(16,bAB),(17,bAC)],[],[(2,bAD)]⟩) (.ret (.s (.slc 4 (.lit 0) (.lit 21) (.op (.lit 0)))) [⟨75,[.one (.int .u16 (.v 0)),.one (.int .u16 (.v 1)),.one (.int .u16 (.v 2)),.one (.int .u16 (.v 3)),.one (.int .u16 (.v 4)),.one (.int .u16 (.v 5)),.one (.int .u16 (.v 6)),.one (.int .u16 (.v 7)),.one (.int .u16 (.v 8)),.one (.int .u16 (.v 9)),.one (.int .u16 (.v 10)),.one (.int .u16 (.v 11)),.one (.int .u16 (.v 12)),.one (.int .u8 (.v 13)),.one (.int .u8 (.v 14)),.one (.int .i64 (.v 15)),.run .i64 (.lit 4) (.av 0) 0,.run .i64 (.lit 256) (.av 1) 0,.one (.nilSlc)],true,none,false⟩,⟨107,[.one (.int .i64 (.lit 6)),.one (.int .i64 (.lit 28)),.one (.nilSlc),.one (.int .i64 (.lit 1)),.one (.int .i64 (.v 0)),.one (.nilSlc),.one (.int .i64 (.lit 1)),.one (.int .i64 (.v 1)),.one (.nilSlc),.one (.int .i64 (.lit 1)),.one (.int .i64 (.v 2)),.one (.nilSlc),.one (.int .i64 (.lit 1)),.one (.int .i64 (.v 3)),.one (.nilSlc),.one (.int .i64 (.lit 1)),.one (.int .i64 (.v 4)),.one (.nilSlc),.one (.int .i64 (.lit 1)),.one (.int .i64 (.v 5)),.one (.nilSlc),.one (.int .i64 (.lit 1)),.one (.int .i64 (.v 6)),.one (.nilSlc),.one (.int .i64 (.lit 1)),.one (.int .i64 (.v 7)),.one (.nilSlc),.one (.int .i64 (.lit 1)),.one (.int .i64 (.v 8)),.one (.nilSlc),.one (.int .i64 (.lit 1)),.one (.int .i64 (.v 11)),.one (.nilSlc),.one (.int .i64 (.lit 1)),.one (.int .i64 (.v 12)),.one (.nilSlc),.one (.int .i64 (.lit 0)),.one (.int .i64 (.v 13)),.one (.nilSlc),.one (.int .i64 (.lit 0)),.one (.int .i64 (.v 14)),.one (.nilSlc),.one (.int .i64 (.lit 0)),.one (.int .i64 (.v 15)),.one (.nilSlc),.one (.int .i64 (.lit 1)),.one (.int .i64 pz0),.one (.nilSlc),.one (.int .i64 (.lit 1)),.one (.int .i64 pz1),.one (.nilSlc),.one (.int .i64 (.lit 1)),.one (.int .i64 pz2),.one (.nilSlc),.one (.int .i64 (.lit 1)),.one (.int .i64 pz3),.one (.nilSlc)],true,some 3,true⟩,⟨5,[.run .u8 (.v 16) (.av 2) 0],true,some 1,false⟩,⟨107,[.one (.int .i64 (.lit 5)),.one (.int .i64 (.lit 0)),.one (.slc 2 (.lit 0) (.v 16) (.op (.lit 0))),.one (.int .i64 (.lit 7)),.one (.int .i64 (.lit 0)),.one (.nilSlc)],true,none,false⟩,⟨107,[.one (.int .i64 (.lit 6)),.one (.int .i64 (.lit 28)),.one (.nilSlc),.one (.int .i64 (.lit 1)),.one (.int .i64 (.v 0)),.one (.nilSlc),.one (.int .i64 (.lit 1)),.one (.int .i64 (.v 1)),.one (.nilSlc),.one (.int .i64 (.lit 1)),.one (.int .i64 (.v 2)),.one (.nilSlc),.one (.int .i64 (.lit 1)),.one (.int .i64 (.v 3)),.one (.nilSlc),.one (.int .i64 (.lit 1)),.one (.int .i64 (.v 4)),.one (.nilSlc),.one (.int .i64 (.lit 1)),.one (.int .i64 (.v 5)),.one (.nilSlc),.one (.int .i64 (.lit 1)),.one (.int .i64 (.v 6)),.one (.nilSlc),.one (.int .i64 (.lit 1)),.one (.int .i64 (.v 7)),.one (.nilSlc),.one (.int .i64 (.lit 1)),.one (.int .i64 (.v 8)),.one (.nilSlc),.one (.int .i64 (.lit 1)),.one (.int .i64 (.v 11)),.one (.nilSlc),.one (.int .i64 (.lit 1)),.one (.int .i64 (.v 12)),.one (.nilSlc),.one (.int .i64 (.lit 0)),.one (.int .i64 (.v 13)),.one (.nilSlc),.one (.int .i64 (.lit 0)),.one (.int .i64 (.v 14)),.one (.nilSlc),.one (.int .i64 (.lit 0)),.one (.int .i64 (.v 15)),.one (.nilSlc),.one (.int .i64 (.lit 1)),.one (.int .i64 pz0),.one (.nilSlc),.one (.int .i64 (.lit 1)),.one (.int .i64 pz1),.one (.nilSlc),.one (.int .i64 (.lit 1)),.one (.int .i64 pz2),.one (.nilSlc),.one (.int .i64 (.lit 1)),.one (.int .i64 pz3),.one (.nilSlc),.one (.int .i64 (.lit 5)),.one (.int .i64 (.lit 0)),.one (.slc 2 (.lit 0) (.v 16) (.op (.lit 0))),.one (.int .i64 (.lit 7)),.one (.int .i64 (.lit 0)),.one (.nilSlc)],true,some 3,false⟩])):=by
 simp only [LT.holds]
 simp only [pzJ] at hJ
 obtain ⟨L,l1,m0,hinv⟩:=hJ
 refine ⟨fun t=>?_,fun t=>?_⟩
 ·
   refine ⟨rfl,⟨(E.i (pzV i0 i1 i2 i3 i4 i5 i6 i7 i8 i9 i10 i11 i12 i13 i14 i15 l g c n w vs J) bAB),(E.i (pzV i0 i1 i2 i3 i4 i5 i6 i7 i8 i9 i10 i11 i12 i13 i14 i15 l g c n w vs J) bAC),(E.a (pzV i0 i1 i2 i3 i4 i5 i6 i7 i8 i9 i10 i11 i12 i13 i14 i15 l g c n w vs J) bAD),rfl,?_⟩,?_⟩
   ·simp only [pzJ]
    simp only [pzV,pz0,pz1,pz2,pz3,pz4,pz5,pz6,pz7,pz8,pz9,bAB,bAC,bEv,bHC,bHD,bHE,bHF,bAD,i_v,gP,aF,aP,aS,cU,bE,cE,bC,bX,bU,aT,cR,fX,fM,eR,cZ,cT,fJ,dO,dI,cB,bW,List.getD_cons_zero,List.getD_cons_succ,decide_eq_true_eq,decide_eq_false_iff_not,Bool.and_eq_true,Bool.or_eq_true,Bool.not_eq_true',Bool.not_eq_false',Bool.and_eq_false_iff,Bool.or_eq_false_iff,Bool.not_not,cM,cL,cK,cJ,gJ,cD,cC] at t ⊢
    obtain ⟨he,hv⟩:=hinv
    have e0:l.toNat=2*g.toNat:=by omega
    have e1:(l+1).toNat=2*g.toNat+1:=by omega
    have q:=N g.toNat
    have Y:iW n (2*g.toNat)=n g.toNat%256:=aAI
    have Z:iW n (2*g.toNat+1)=n g.toNat / 256:=aAH (by omega)
    simp only [e0,e1]
    refine ⟨by omega,by omega,fun j=>?_,by omega,fun j h=>?_⟩
    ·have:=m0 j;repeat' split
     all_goals omega
    ·by_cases f1:j=2*g.toNat+1
     ·rw [if_pos f1,f1,Z]
     ·rw [if_neg f1]
      by_cases f0:j=2*g.toNat
      ·rw [if_pos f0,f0,Y]
      ·rw [if_neg f0];exact hv j (by omega)
   ·simp only [bHG,Env.app,kV,List.map_cons,List.map_nil,List.set,pzV,pz0,pz1,pz2,pz3,pz4,pz5,pz6,pz7,pz8,pz9,bAB,bAC,bEv,bHC,bHD,bHE,bHF,bAD,i_v,gP,aF,aP,aS,cU,bE,cE,bC,bX,bU,aT,cR,fX,fM,eR,cZ,cT,fJ,dO,dI,cB,bW,List.getD_cons_zero,List.getD_cons_succ,decide_eq_true_eq,decide_eq_false_iff_not,Bool.and_eq_true,Bool.or_eq_true,Bool.not_eq_true',Bool.not_eq_false',Bool.and_eq_false_iff,Bool.or_eq_false_iff,Bool.not_not,cM,cL,cK,cJ,gJ,cD,cC] at t ⊢
    omega
 ·
   refine ⟨rfl,?_,?_⟩
   all_goals
    repeat' (first | exact rfl | exact trivial | exact fun _ _=>rfl | refine And.intro ?_ ?_ | refine Or.inr ?_)
   all_goals obtain ⟨he,hv⟩:=hinv
   all_goals have hc:¬ (g≤255):=of_decide_eq_false (show decide (g≤255)=false from t)
   all_goals obtain rfl:g=256:=by omega
   all_goals obtain rfl:l=512:=by omega
   all_goals first
    | rfl
    | (intro j hj
       have hj:j<512:=hj
       rw [show E.a (⟨[i0,i1,i2,i3,i4,i5,i6,i7,i8,i9,i10,i11,i12,i13,i14,i15],[],[c,n],vs,J⟩:Env) (.app 50 (.cons (.av 1) .nil))=iW n from bCc hIa _]
       simp only [Nat.zero_add]
       exact hv j (by omega))
theorem pzat (xs:Nat→Nat→Ext):fI Try.prog (Iv xs) 49 16 0 2 (iY pzH pzL pzM pzN pzR (some pzO)):=by
 refine rE (u:=0) (bLD xs) (by kernel_rfl) pzst (by decide) rfl (fun ρ j ρ'=>∃(i0 i1 i2 i3 i4 i5 i6 i7 i8 i9 i10 i11 i12 i13 i14 i15:Int) (c n:Nat→Int),∃ vs J,ρ=(⟨[i0,i1,i2,i3,i4,i5,i6,i7,i8,i9,i10,i11,i12,i13,i14,i15],[],[c,n],vs,J⟩:Env)∧(fun j ρ'=>∃ (l g:Int) (w:Nat→Int),ρ'=(pzV i0 i1 i2 i3 i4 i5 i6 i7 i8 i9 i10 i11 i12 i13 i14 i15 l g c n w vs J)∧pzJ i0 i1 i2 i3 i4 i5 i6 i7 i8 i9 i10 i11 i12 i13 i14 i15 l g c n w j) j ρ') bHG ?_
 intro ρ hI hz hH hn
 obtain ⟨ys,zs,Ys,vs,J⟩:=ρ
 obtain ⟨z1,z2,X⟩:=hz
 simp only at z1 z2 X hI
 obtain ⟨i0,ys0,rfl,I⟩:=aL z1
 obtain ⟨i1,ys1,rfl,z1_1⟩:=aL I
 obtain ⟨i2,ys2,rfl,z1_2⟩:=aL z1_1
 obtain ⟨i3,ys3,rfl,z1_3⟩:=aL z1_2
 obtain ⟨i4,ys4,rfl,z1_4⟩:=aL z1_3
 obtain ⟨i5,ys5,rfl,z1_5⟩:=aL z1_4
 obtain ⟨i6,ys6,rfl,z1_6⟩:=aL z1_5
 obtain ⟨i7,ys7,rfl,z1_7⟩:=aL z1_6
 obtain ⟨i8,ys8,rfl,z1_8⟩:=aL z1_7
 obtain ⟨i9,ys9,rfl,z1_9⟩:=aL z1_8
 obtain ⟨i10,ys10,rfl,z1_10⟩:=aL z1_9
 obtain ⟨i11,ys11,rfl,z1_11⟩:=aL z1_10
 obtain ⟨i12,ys12,rfl,z1_12⟩:=aL z1_11
 obtain ⟨i13,ys13,rfl,z1_13⟩:=aL z1_12
 obtain ⟨i14,ys14,rfl,z1_14⟩:=aL z1_13
 obtain ⟨i15,ys15,rfl,z1_15⟩:=aL z1_14
 obtain rfl:=List.eq_nil_of_length_eq_zero z1_15
 obtain rfl:=List.eq_nil_of_length_eq_zero z2
 obtain ⟨c,Ys0,rfl,K⟩:=aL X
 obtain ⟨n,Ys1,rfl,z3_1⟩:=aL K
 obtain rfl:=List.eq_nil_of_length_eq_zero z3_1
 have r:0≤i0∧i0≤2047:=hH.e (.v 0,(0,2047)) (by simp [pzH])
 have O:0≤i1∧i1≤65535:=hH.e (.v 1,(0,65535)) (by simp [pzH])
 have P:0≤i2∧i2≤65535:=hH.e (.v 2,(0,65535)) (by simp [pzH])
 have Q:0≤i3∧i3≤65535:=hH.e (.v 3,(0,65535)) (by simp [pzH])
 have R:0≤i4∧i4≤65535:=hH.e (.v 4,(0,65535)) (by simp [pzH])
 have S:0≤i5∧i5≤255:=hH.e (.v 5,(0,255)) (by simp [pzH])
 have T:0≤i6∧i6≤1023:=hH.e (.v 6,(0,1023)) (by simp [pzH])
 have U:0≤i7∧i7≤65535:=hH.e (.v 7,(0,65535)) (by simp [pzH])
 have V:0≤i8∧i8≤65535:=hH.e (.v 8,(0,65535)) (by simp [pzH])
 have W:0≤i9∧i9≤65535:=hH.e (.v 9,(0,65535)) (by simp [pzH])
 have A:0≤i10∧i10≤65535:=hH.e (.v 10,(0,65535)) (by simp [pzH])
 have B:0≤i11∧i11≤65535:=hH.e (.v 11,(0,65535)) (by simp [pzH])
 have C:0≤i12∧i12≤65535:=hH.e (.v 12,(0,65535)) (by simp [pzH])
 have D:0≤i13∧i13≤63:=hH.e (.v 13,(0,63)) (by simp [pzH])
 have F:0≤i14∧i14≤63:=hH.e (.v 14,(0,63)) (by simp [pzH])
 have G:0≤i15∧i15≤3:=hH.e (.v 15,(0,3)) (by simp [pzH])
 have o:∀ j,0≤c j∧c j≤2047:=fun j=>hH.a (0,(0,2047)) (by simp [pzH]) j
 have N:∀ j,0≤n j∧n j≤65535:=fun j=>hH.a (1,(0,65535)) (by simp [pzH]) j
 have hfi:∀ p ∈ pzH.fi,∀ is bs xs,inR p.2 (J.fi p.1 is bs xs):=hH.fi
 have hfa:∀ p ∈ pzH.fa,∀ is bs xs j,inR p.2 (J.fa p.1 is bs xs j):=hH.fa
 have hIi:J.fi=Ifi:=by rw [hI];rfl
 have hIb:J.fb=Ifb:=by rw [hI];rfl
 have hIa:J.fa=Ifa:=by rw [hI];rfl
 refine ⟨(pzV i0 i1 i2 i3 i4 i5 i6 i7 i8 i9 i10 i11 i12 i13 i14 i15 0 0 c n (fun _=>0) vs J),rfl,⟨rfl,rfl,rfl⟩,?_,fun ι=>rfl,?_,?_,?_⟩
 ·
   refine ⟨by simp [pzH],?_,?_,?_,?_,by simp [pzH]⟩
   ·intro p hp
    simp only [pzH,List.mem_cons,List.not_mem_nil,or_false] at hp
    rcases hp with rfl | rfl | rfl | rfl | rfl | rfl | rfl | rfl | rfl | rfl | rfl | rfl | rfl | rfl | rfl | rfl
    ·exact r
    ·exact O
    ·exact P
    ·exact Q
    ·exact R
    ·exact S
    ·exact T
    ·exact U
    ·exact V
    ·exact W
    ·exact A
    ·exact B
    ·exact C
    ·exact D
    ·exact F
    ·exact G
   ·intro p hp
    simp only [pzH,List.mem_cons,List.not_mem_nil,or_false] at hp
    rcases hp with rfl | rfl
    ·exact o
    ·exact N
   ·exact hfi
   ·exact hfa
 ·repeat' (first | exact rfl | exact trivial | exact fun _ _=>rfl | refine And.intro ?_ ?_ | refine Or.inr ?_)
 ·refine LT.cI (fun v' m' h=>h) (fun j todo ρ' h=>⟨h.1,i0,i1,i2,i3,i4,i5,i6,i7,i8,i9,i10,i11,i12,i13,i14,i15,c,n,vs,J,rfl,h.2⟩) (pzvcS i0 i1 i2 i3 i4 i5 i6 i7 i8 i9 i10 i11 i12 i13 i14 i15 c n vs J r O P Q R S T U V W A B C D F G o N hfi hfa hIi hIb hIa)
 ·intro j h ρ' hj hI' hz' hInv
  obtain ⟨i0',i1',i2',i3',i4',i5',i6',i7',i8',i9',i10',i11',i12',i13',i14',i15',A0',A1',vs',J',he,l,g,w,hρ,hJ⟩:=hInv
  cases he
  subst hρ
  rcases j with _ | j
  ·simp only [bAE,List.getElem?_cons_zero,List.getElem?_cons_succ,Option.some.injEq] at hj;subst hj
   refine ⟨aSG.H,pzok0 i0 i1 i2 i3 i4 i5 i6 i7 i8 i9 i10 i11 i12 i13 i14 i15 l g c n w vs J r O P Q R S T U V W A B C D F G o N hfi hfa hIi hIb hIa hJ,_,pzsg0,?_⟩
   exact LT.cI (fun v' m' h=>h) (fun j todo ρ' h=>⟨h.1,⟨i0,i1,i2,i3,i4,i5,i6,i7,i8,i9,i10,i11,i12,i13,i14,i15,c,n,vs,J,rfl,h.2.1⟩,h.2.2⟩) (pzvc0 i0 i1 i2 i3 i4 i5 i6 i7 i8 i9 i10 i11 i12 i13 i14 i15 l g c n w vs J r O P Q R S T U V W A B C D F G o N hfi hfa hIi hIb hIa hJ)
  ·simp [bAE] at hj
def pzS:Go.Sx.Spec:=fC (fK 16 0 2 pzL pzM) pzH pzL pzM pzN (pzR) (some pzO)
theorem pzok (xs:Nat→Nat→Ext):aX Try.prog (Iv xs) 49 pzS:=fB (pzat xs) (dT _ _ _ _ _ _)
theorem aHy (xs:Nat→Nat→Ext):∀ p ∈ [((20:Nat),((0:Int),(255:Int))),(50,(0,255)),(51,(0,65535)),(90,(0,2047)),(91,(0,65535))],∀ is bs ys j,inR p.2 ((Iv xs).fa p.1 is bs ys j):=by
 intro p hp is bs ys j
 simp only [List.mem_cons,List.not_mem_nil,or_false] at hp
 rcases hp with rfl | rfl | rfl | rfl | rfl
 ·exact dZ (m:=256) (by decide) (by decide) _
 ·exact aSU _ j
 ·exact aDo _ _ j
 ·exact dZ (m:=2048) (by decide) (by decide) _
 ·exact dZ (m:=65536) (by decide) (by decide) _
end Go.Proofs.Ytcckecfjjccffaa
