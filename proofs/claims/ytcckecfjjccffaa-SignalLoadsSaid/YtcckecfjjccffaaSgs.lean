/- Contracts of the signal chip: half, what is saved. No condition. -/
import Derived.Test.YtcckecfjjccffaaSgx
import Derived.Test.YtcckecfjjccffaaMm
namespace Go.Proofs.Ytcckecfjjccffaa
open Go.Sx Go.ChangeShapes Go.WideShapes Go.ChangeAt Go.RowKit
set_option linter.unusedVariables false
set_option linter.unusedSimpArgs false
set_option maxRecDepth 100000
def hf0:E:=.div (.v 12) (.lit 1024)
def hf1:E:=.mod hf0 (.lit 2)
def hf2:E:=.eq hf1 (.lit 0)
def hf3:E:=.div (.v 12) (.lit 4096)
def hf4:E:=.mod hf3 (.lit 2)
def hf5:E:=.eq hf4 (.lit 0)
def hf6:E:=.ite hf5 (.lit 0) (.lit 8)
def hf7:E:=.ite hf2 hf6 (.lit 0)
def hf8:E:=.add (.v 12) (.lit 4096)
def hf9:E:=.div (.v 12) (.lit 8192)
def hf10:E:=.mod hf9 (.lit 4)
def hf11:E:=.mul hf10 (.lit 8192)
def hf12:E:=.mod (.v 12) (.lit 4096)
def hf13:E:=.add hf11 hf12
def hf14:E:=.ite hf5 hf8 hf13
def hf15:E:=.mod (.v 12) (.lit 32768)
def bHf:E:=.ite hf2 hf14 hf15
def hfW:E:=.mod bHf (.lit 65536)
def hfH:Hyp:=⟨[(.v 0,(0,65535)),(.v 1,(0,65535)),(.v 2,(0,65535)),(.v 3,(0,65535)),(.v 4,(0,65535)),(.v 5,(0,65535)),(.v 6,(0,65535)),(.v 7,(0,65535)),(.v 8,(0,65535)),(.v 9,(0,65535)),(.v 10,(0,65535)),(.v 11,(0,65535)),(.v 12,(0,65535)),(.v 13,(0,255)),(.v 14,(0,255)),(.v 15,(0,255))],[(0,(0,255)),(1,(0,65535)),(2,(0,65535))],[],[],[],[]⟩
def hfL:List SV:=[.s (.ptr 1 (.lit 0))]
def hfM:Mem:=[⟨5,[.run .u8 (.lit 8192) (.av 0) 0],true,some 1,false⟩,⟨81,[.one (.int .u16 (.v 0)),.one (.int .u16 (.v 1)),.one (.int .u16 (.v 2)),.one (.int .u16 (.v 3)),.one (.int .u16 (.v 4)),.one (.int .u16 (.v 5)),.one (.int .u16 (.v 6)),.one (.int .u16 (.v 7)),.one (.int .u16 (.v 8)),.one (.int .u16 (.v 9)),.one (.int .u16 (.v 10)),.one (.int .u16 (.v 11)),.one (.int .u16 (.v 12)),.one (.int .u8 (.v 13)),.one (.int .u8 (.v 14)),.one (.int .u8 (.v 15)),.run .u16 (.lit 4) (.av 1) 0,.run .u16 (.lit 256) (.av 2) 0,.one (.slc 0 (.lit 0) (.lit 8192) (.op (.lit 0)))],true,none,false⟩]
def hfO:Mem:=[⟨5,[.run .u8 (.lit 8192) (.av 0) 0],true,some 1,false⟩,⟨81,[.one (.int .u16 (.v 0)),.one (.int .u16 (.v 1)),.one (.int .u16 (.v 2)),.one (.int .u16 (.v 3)),.one (.int .u16 (.v 4)),.one (.int .u16 (.v 5)),.one (.int .u16 (.v 6)),.one (.int .u16 (.v 7)),.one (.int .u16 (.v 8)),.one (.int .u16 (.v 9)),.one (.int .u16 (.v 10)),.one (.int .u16 (.v 11)),.one (.int .u16 hfW),.one (.int .u8 (.v 13)),.one (.int .u8 (.v 14)),.one (.int .u8 (.v 15)),.run .u16 (.lit 4) (.av 1) 0,.run .u16 (.lit 256) (.av 2) 0,.one (.slc 0 (.lit 0) (.lit 8192) (.op (.lit 0)))],true,none,false⟩]
def hfS:Go.Sx.Spec:=fC (fK 16 0 3 hfL hfM) hfH hfL hfM [] (.s (.int .i64 hf7)) (some hfO)
def hfX:Mem:=[⟨5,[.run .u8 (.lit 8192) (.av 0) 0],true,some 1,false⟩,⟨81,[.one (.int .u16 (.v 0)),.one (.int .u16 (.v 1)),.one (.int .u16 (.v 2)),.one (.int .u16 (.v 3)),.one (.int .u16 (.v 4)),.one (.int .u16 (.v 5)),.one (.int .u16 (.v 6)),.one (.int .u16 (.v 7)),.one (.int .u16 (.v 8)),.one (.int .u16 (.v 9)),.one (.int .u16 (.v 10)),.one (.int .u16 (.v 11)),.one (.int .u16 bHf),.one (.int .u8 (.v 13)),.one (.int .u8 (.v 14)),.one (.int .u8 (.v 15)),.run .u16 (.lit 4) (.av 1) 0,.run .u16 (.lit 256) (.av 2) 0,.one (.slc 0 (.lit 0) (.lit 8192) (.op (.lit 0)))],true,none,false⟩]
theorem hfrun:enter Try.prog SG SGh 3000 40 38 hfH hfL hfM=some ([],.s (.int .i64 hf7),some hfX):=by kernel_rfl
set_option maxHeartbeats 4000000 in
theorem hfeq (xs:Nat→Nat→Ext) (ρ:Env) (hI:ρ.I=Iv xs) (hz:eF ρ 16 0 3) (hH:hfH.ok ρ) (hn:bD ρ []):bD ρ []∧VEq ρ ρ (.s (.int .i64 hf7)) (.s (.int .i64 hf7))∧aEc ρ (some hfX) (some hfO):=by
 have C:=hH.e (.v 0,(0,65535)) (by simp [hfH])
 have D:=hH.e (.v 1,(0,65535)) (by simp [hfH])
 have F:=hH.e (.v 2,(0,65535)) (by simp [hfH])
 have G:=hH.e (.v 3,(0,65535)) (by simp [hfH])
 have K:=hH.e (.v 4,(0,65535)) (by simp [hfH])
 have L:=hH.e (.v 5,(0,65535)) (by simp [hfH])
 have M:=hH.e (.v 6,(0,65535)) (by simp [hfH])
 have N:=hH.e (.v 7,(0,65535)) (by simp [hfH])
 have O:=hH.e (.v 8,(0,65535)) (by simp [hfH])
 have P:=hH.e (.v 9,(0,65535)) (by simp [hfH])
 have n:=hH.e (.v 10,(0,65535)) (by simp [hfH])
 have o:=hH.e (.v 11,(0,65535)) (by simp [hfH])
 have r:=hH.e (.v 12,(0,65535)) (by simp [hfH])
 have t:=hH.e (.v 13,(0,255)) (by simp [hfH])
 have w:=hH.e (.v 14,(0,255)) (by simp [hfH])
 have x:=hH.e (.v 15,(0,255)) (by simp [hfH])
 have A:=fun j=>hH.a (0,(0,255)) (by simp [hfH]) j
 have B:=fun j=>hH.a (1,(0,65535)) (by simp [hfH]) j
 have z:=fun j=>hH.a (2,(0,65535)) (by simp [hfH]) j
 simp only [inR,i_v] at C D F G K L M N O P n o r t w x A B z
 refine ⟨hn,?_⟩
 have hw:E.i ρ bHf=E.i ρ hfW:=by
  simp only [hf0,hf1,hf2,hf3,hf4,hf5,hf6,hf7,hf8,hf9,hf10,hf11,hf12,hf13,hf14,hf15,bHf,hfW,sgm,sgn]
  generalize ρ.i.getD 12 0=s at *
  repeat' split
  all_goals omega
 refine ⟨?_,?_⟩
 all_goals repeat' (first | with_reducible exact hw | with_reducible rfl | exact trivial | exact fun _ _=>rfl | refine And.intro ?_ ?_ | refine Or.inr ?_ | exact rfl)
theorem hfok (xs:Nat→Nat→Ext):aX Try.prog (Iv xs) 38 hfS:=fB (qT (fI.of (bS (vL xs) (by kernel_rfl) 3000 40)) hfrun rfl rfl (hfeq xs)) (dT _ _ _ _ _ _)
noncomputable def SW:Ctx:=aHE Try.prog [] (ctx [(44,cQ),(46,cQ),(27,fG 5),(33,dV 5),(20,eV)]) 3000 40 12
noncomputable def SWh:aV:=aCv Try.prog [] (ctx [(44,cQ),(46,cQ),(27,fG 5),(33,dV 5),(20,eV)]) 3000 40 12
theorem tR (xs:Nat→Nat→Ext):cA Try.prog (Iv xs) SW:=nC (kP (fun p hp=>by
 simp only [List.mem_cons,List.not_mem_nil,or_false] at hp
 rcases hp with rfl | rfl | rfl | rfl | rfl
 ·exact eI bCx rfl
 ·exact eI bCw rfl
 ·exact iT bAa
 ·exact iD bAc
 ·exact jH bCp
 )) (by kernel_rfl) 3000 40 12
def wbH:Hyp:=⟨[(.v 0,(1,4000000)),(.v 3,(0,0)),(.v 1,(0,255))],[(0,(0,255)),(1,(-9223372036854775808,9223372036854775807))],[(10,(0,4294967295))],[],[],[]⟩
def wbL:List SV:=[.s (.ptr 0 (.lit 0)),.s (.int .u8 (.v 1))]
def wbM:Mem:=[⟨119,[.one (.slc 1 (.lit 0) (.v 0) (.op (.lit 0))),.run .i64 (.lit 16) (.av 1) 0,.one (.int .i64 (.v 2)),.one (.int .i64 (.v 3))],true,none,false⟩,⟨5,[.run .u8 (.v 0) (.av 0) 0],true,some 1,false⟩]
def wb0:E:=.add (.v 0) (.lit 1)
def wb1:E:=.upd (.av 0) (.v 0) (.v 1)
def wbO:Mem:=[⟨119,[.one (.slc 2 (.lit 0) wb0 (.op (.lit 0))),.run .i64 (.lit 16) (.av 1) 0,.one (.int .i64 (.v 2)),.one (.int .i64 (.v 3))],true,none,false⟩,⟨5,[.run .u8 (.v 0) (.av 0) 0],true,some 1,true⟩,⟨5,[.run .u8 wb0 wb1 0],true,some 1,false⟩]
def wbS:Go.Sx.Spec:=fC (fK 4 0 2 wbL wbM) wbH wbL wbM [] (.tup []) (some wbO)
set_option maxHeartbeats 4000000 in
theorem wbrun:enter Try.prog SW SWh 3000 40 58 wbH wbL wbM=some ([],.tup [],some wbO):=by kernel_rfl
theorem wbok (xs:Nat→Nat→Ext):aX Try.prog (Iv xs) 58 wbS:=gG (bS (tR xs) (by kernel_rfl) 3000 40) wbrun
def wwH:Hyp:=⟨[(.v 0,(1,4000000)),(.v 3,(0,0)),(.v 1,(0,65535))],[(0,(0,255)),(1,(-9223372036854775808,9223372036854775807))],[(10,(0,4294967295))],[],[],[]⟩
def wwL:List SV:=[.s (.ptr 0 (.lit 0)),.s (.int .u16 (.v 1))]
def wwM:Mem:=[⟨119,[.one (.slc 1 (.lit 0) (.v 0) (.op (.lit 0))),.run .i64 (.lit 16) (.av 1) 0,.one (.int .i64 (.v 2)),.one (.int .i64 (.v 3))],true,none,false⟩,⟨5,[.run .u8 (.v 0) (.av 0) 0],true,some 1,false⟩]
def ww0:E:=.add (.v 0) (.lit 2)
def ww1:E:=.mod (.v 1) (.lit 256)
def ww2:E:=.upd (.av 0) (.v 0) ww1
def ww3:E:=.add (.v 0) (.lit 1)
def ww4:E:=.div (.v 1) (.lit 256)
def ww5:E:=.upd ww2 ww3 ww4
def wwO:Mem:=[⟨119,[.one (.slc 2 (.lit 0) ww0 (.op (.lit 0))),.run .i64 (.lit 16) (.av 1) 0,.one (.int .i64 (.v 2)),.one (.int .i64 (.v 3))],true,none,false⟩,⟨5,[.run .u8 (.v 0) (.av 0) 0],true,some 1,true⟩,⟨5,[.run .u8 ww0 ww5 0],true,some 1,false⟩]
def wwS:Go.Sx.Spec:=fC (fK 4 0 2 wwL wwM) wwH wwL wwM [] (.tup []) (some wwO)
set_option maxHeartbeats 4000000 in
theorem wwrun:enter Try.prog SW SWh 3000 40 57 wwH wwL wwM=some ([],.tup [],some wwO):=by kernel_rfl
theorem wwok (xs:Nat→Nat→Ext):aX Try.prog (Iv xs) 57 wwS:=gG (bS (tR xs) (by kernel_rfl) 3000 40) wwrun
def wyH:Hyp:=⟨[(.v 0,(1,4000000)),(.v 3,(0,0)),(.v 2,(0,1048575))],[(0,(0,255)),(1,(-9223372036854775808,9223372036854775807)),(2,(0,255))],[(10,(0,4294967295))],[],[],[]⟩
def wyL:List SV:=[.s (.ptr 0 (.lit 0)),.s (.slc 2 (.lit 0) (.v 2) (.kn (.v 2)))]
def wyM:Mem:=[⟨119,[.one (.slc 1 (.lit 0) (.v 0) (.op (.lit 0))),.run .i64 (.lit 16) (.av 1) 0,.one (.int .i64 (.v 1)),.one (.int .i64 (.v 3))],true,none,false⟩,⟨5,[.run .u8 (.v 0) (.av 0) 0],true,some 1,false⟩,⟨5,[.run .u8 (.v 2) (.av 2) 0],true,none,false⟩]
def wy0:E:=.add (.v 0) (.v 2)
def wy1:E:=.add wy0 (.lit 4)
def wy2:E:=.add (.v 2) (.lit 4)
def wy3:E:=.mod (.v 2) (.lit 256)
def wy4:E:=.upd (.tab []) (.lit 0) wy3
def wy5:E:=.div (.v 2) (.lit 256)
def wy6:E:=.mod wy5 (.lit 256)
def wy7:E:=.upd wy4 (.lit 1) wy6
def wy8:E:=.div (.v 2) (.lit 65536)
def wy9:E:=.upd wy7 (.lit 2) wy8
def wy10:E:=.upd wy9 (.lit 3) (.lit 0)
def wy11:E:=.blt wy10 (.lit 4) (.v 2) (.av 2) (.lit 0)
def wy12:E:=.blt (.av 0) (.v 0) wy2 wy11 (.lit 0)
def wyO:Mem:=[⟨119,[.one (.slc 3 (.lit 0) wy1 (.op (.lit 0))),.run .i64 (.lit 16) (.av 1) 0,.one (.int .i64 (.v 1)),.one (.int .i64 (.v 3))],true,none,false⟩,⟨5,[.run .u8 (.v 0) (.av 0) 0],true,some 1,true⟩,⟨5,[.run .u8 (.v 2) (.av 2) 0],true,none,false⟩,⟨5,[.run .u8 wy1 wy12 0],true,some 1,false⟩]
def wyS:Go.Sx.Spec:=fC (fK 4 0 3 wyL wyM) wyH wyL wyM [] (.tup []) (some wyO)
set_option maxHeartbeats 4000000 in
theorem wyrun:enter Try.prog SW SWh 3000 40 59 wyH wyL wyM=some ([],.tup [],some wyO):=by kernel_rfl
theorem wyok (xs:Nat→Nat→Ext):aX Try.prog (Iv xs) 59 wyS:=gG (bS (tR xs) (by kernel_rfl) 3000 40) wyrun
def wgH:Hyp:=⟨[(.v 0,(1,4000000)),(.v 3,(0,0)),(.v 2,(0,1048575))],[(0,(0,255)),(1,(-9223372036854775808,9223372036854775807)),(2,(0,255))],[(10,(0,4294967295))],[],[],[]⟩
def wgL:List SV:=[.s (.ptr 0 (.lit 0)),.s (.slc 2 (.lit 0) (.v 2) (.op (.lit 0)))]
def wgM:Mem:=[⟨119,[.one (.slc 1 (.lit 0) (.v 0) (.op (.lit 0))),.run .i64 (.lit 16) (.av 1) 0,.one (.int .i64 (.v 1)),.one (.int .i64 (.v 3))],true,none,false⟩,⟨5,[.run .u8 (.v 0) (.av 0) 0],true,some 1,false⟩,⟨5,[.run .u8 (.v 2) (.av 2) 0],true,some 1,false⟩]
def wg0:E:=.add (.v 0) (.v 2)
def wg1:E:=.add wg0 (.lit 4)
def wg2:E:=.add (.v 2) (.lit 4)
def wg3:E:=.mod (.v 2) (.lit 256)
def wg4:E:=.upd (.tab []) (.lit 0) wg3
def wg5:E:=.div (.v 2) (.lit 256)
def wg6:E:=.mod wg5 (.lit 256)
def wg7:E:=.upd wg4 (.lit 1) wg6
def wg8:E:=.div (.v 2) (.lit 65536)
def wg9:E:=.upd wg7 (.lit 2) wg8
def wg10:E:=.upd wg9 (.lit 3) (.lit 0)
def wg11:E:=.blt wg10 (.lit 4) (.v 2) (.av 2) (.lit 0)
def wg12:E:=.blt (.av 0) (.v 0) wg2 wg11 (.lit 0)
def wgO:Mem:=[⟨119,[.one (.slc 3 (.lit 0) wg1 (.op (.lit 0))),.run .i64 (.lit 16) (.av 1) 0,.one (.int .i64 (.v 1)),.one (.int .i64 (.v 3))],true,none,false⟩,⟨5,[.run .u8 (.v 0) (.av 0) 0],true,some 1,true⟩,⟨5,[.run .u8 (.v 2) (.av 2) 0],true,some 1,false⟩,⟨5,[.run .u8 wg1 wg12 0],true,some 1,false⟩]
def wgS:Go.Sx.Spec:=fC (fK 4 0 3 wgL wgM) wgH wgL wgM [] (.tup []) (some wgO)
set_option maxHeartbeats 4000000 in
theorem wgrun:enter Try.prog SW SWh 3000 40 59 wgH wgL wgM=some ([],.tup [],some wgO):=by kernel_rfl
theorem wgok (xs:Nat→Nat→Ext):aX Try.prog (Iv xs) 59 wgS:=gG (bS (tR xs) (by kernel_rfl) 3000 40) wgrun
def woH:Hyp:=⟨[(.v 0,(1,4000000)),(.v 3,(0,0)),(.v 1,(0,255)),(.v 2,(0,15))],[(0,(0,255)),(1,(-9223372036854775808,9223372036854775807))],[(10,(0,4294967295))],[],[],[]⟩
def woL:List SV:=[.s (.ptr 0 (.lit 0)),.s (.int .u8 (.v 1))]
def woM:Mem:=[⟨119,[.one (.slc 1 (.lit 0) (.v 0) (.op (.lit 0))),.run .i64 (.lit 16) (.av 1) 0,.one (.int .i64 (.v 2)),.one (.int .i64 (.v 3))],true,none,false⟩,⟨5,[.run .u8 (.v 0) (.av 0) 0],true,some 1,false⟩]
def wo0:E:=.add (.v 0) (.lit 5)
def wo1:E:=.upd (.av 1) (.v 2) wo0
def wo2:E:=.add (.v 2) (.lit 1)
def wo3:E:=.upd (.av 0) (.v 0) (.v 1)
def wo4:E:=.add (.v 0) (.lit 1)
def wo5:E:=.upd wo3 wo4 (.lit 0)
def wo6:E:=.add (.v 0) (.lit 2)
def wo7:E:=.upd wo5 wo6 (.lit 0)
def wo8:E:=.add (.v 0) (.lit 3)
def wo9:E:=.upd wo7 wo8 (.lit 0)
def wo10:E:=.add (.v 0) (.lit 4)
def wo11:E:=.upd wo9 wo10 (.lit 0)
def woO:Mem:=[⟨119,[.one (.slc 2 (.lit 0) wo0 (.op (.lit 0))),.run .i64 (.lit 16) wo1 0,.one (.int .i64 wo2),.one (.int .i64 (.v 3))],true,none,false⟩,⟨5,[.run .u8 (.v 0) (.av 0) 0],true,some 1,true⟩,⟨5,[.run .u8 wo0 wo11 0],true,some 1,false⟩]
def woS:Go.Sx.Spec:=fC (fK 4 0 2 woL woM) woH woL woM [] (.tup []) (some woO)
set_option maxHeartbeats 4000000 in
theorem worun:enter Try.prog SW SWh 3000 40 55 woH woL woM=some ([],.tup [],some woO):=by kernel_rfl
theorem wook (xs:Nat→Nat→Ext):aX Try.prog (Iv xs) 55 woS:=gG (bS (tR xs) (by kernel_rfl) 3000 40) worun
def zbH:Hyp:=⟨[(.v 1,(0,0)),(.v 0,(0,255))],[(0,(-9223372036854775808,9223372036854775807))],[(10,(0,4294967295))],[],[],[]⟩
def zbL:List SV:=[.s (.ptr 0 (.lit 0)),.s (.int .u8 (.v 0))]
def zbM:Mem:=[⟨119,[.one .nilSlc,.run .i64 (.lit 16) (.av 0) 0,.one (.int .i64 (.lit 0)),.one (.int .i64 (.v 1))],true,none,false⟩]
def zbO:Mem:=[⟨119,[.one (.slc 1 (.lit 0) (.lit 1) (.op (.lit 0))),.run .i64 (.lit 16) (.av 0) 0,.one (.int .i64 (.lit 0)),.one (.int .i64 (.v 1))],true,none,false⟩,⟨5,[.one (.int .u8 (.v 0))],true,some 1,false⟩]
def zbS:Go.Sx.Spec:=fC (fK 2 0 1 zbL zbM) zbH zbL zbM [] (.tup []) (some zbO)
set_option maxHeartbeats 4000000 in
theorem zbrun:enter Try.prog SW SWh 3000 40 58 zbH zbL zbM=some ([],.tup [],some zbO):=by kernel_rfl
theorem zbok (xs:Nat→Nat→Ext):aX Try.prog (Iv xs) 58 zbS:=gG (bS (tR xs) (by kernel_rfl) 3000 40) zbrun
def zwH:Hyp:=⟨[(.v 1,(0,0)),(.v 0,(0,65535))],[(0,(-9223372036854775808,9223372036854775807))],[(10,(0,4294967295))],[],[],[]⟩
def zwL:List SV:=[.s (.ptr 0 (.lit 0)),.s (.int .u16 (.v 0))]
def zwM:Mem:=[⟨119,[.one .nilSlc,.run .i64 (.lit 16) (.av 0) 0,.one (.int .i64 (.lit 0)),.one (.int .i64 (.v 1))],true,none,false⟩]
def zw0:E:=.mod (.v 0) (.lit 256)
def zw1:E:=.div (.v 0) (.lit 256)
def zwO:Mem:=[⟨119,[.one (.slc 1 (.lit 0) (.lit 2) (.op (.lit 0))),.run .i64 (.lit 16) (.av 0) 0,.one (.int .i64 (.lit 0)),.one (.int .i64 (.v 1))],true,none,false⟩,⟨5,[.one (.int .u8 zw0),.one (.int .u8 zw1)],true,some 1,false⟩]
def zwS:Go.Sx.Spec:=fC (fK 2 0 1 zwL zwM) zwH zwL zwM [] (.tup []) (some zwO)
set_option maxHeartbeats 4000000 in
theorem zwrun:enter Try.prog SW SWh 3000 40 57 zwH zwL zwM=some ([],.tup [],some zwO):=by kernel_rfl
theorem zwok (xs:Nat→Nat→Ext):aX Try.prog (Iv xs) 57 zwS:=gG (bS (tR xs) (by kernel_rfl) 3000 40) zwrun
def zyH:Hyp:=⟨[(.v 1,(0,0)),(.v 0,(0,1048575))],[(0,(-9223372036854775808,9223372036854775807)),(1,(0,255))],[(10,(0,4294967295))],[],[],[]⟩
def zyL:List SV:=[.s (.ptr 0 (.lit 0)),.s (.slc 1 (.lit 0) (.v 0) (.kn (.v 0)))]
def zyM:Mem:=[⟨119,[.one .nilSlc,.run .i64 (.lit 16) (.av 0) 0,.one (.int .i64 (.lit 0)),.one (.int .i64 (.v 1))],true,none,false⟩,⟨5,[.run .u8 (.v 0) (.av 1) 0],true,none,false⟩]
def zy0:E:=.add (.v 0) (.lit 4)
def zy1:E:=.mod (.v 0) (.lit 256)
def zy2:E:=.upd (.tab []) (.lit 0) zy1
def zy3:E:=.div (.v 0) (.lit 256)
def zy4:E:=.mod zy3 (.lit 256)
def zy5:E:=.upd zy2 (.lit 1) zy4
def zy6:E:=.div (.v 0) (.lit 65536)
def zy7:E:=.upd zy5 (.lit 2) zy6
def zy8:E:=.upd zy7 (.lit 3) (.lit 0)
def zy9:E:=.blt zy8 (.lit 4) (.v 0) (.av 1) (.lit 0)
def zyO:Mem:=[⟨119,[.one (.slc 2 (.lit 0) zy0 (.op (.lit 0))),.run .i64 (.lit 16) (.av 0) 0,.one (.int .i64 (.lit 0)),.one (.int .i64 (.v 1))],true,none,false⟩,⟨5,[.run .u8 (.v 0) (.av 1) 0],true,none,false⟩,⟨5,[.run .u8 zy0 zy9 0],true,some 1,false⟩]
def zyS:Go.Sx.Spec:=fC (fK 2 0 2 zyL zyM) zyH zyL zyM [] (.tup []) (some zyO)
set_option maxHeartbeats 4000000 in
theorem zyrun:enter Try.prog SW SWh 3000 40 59 zyH zyL zyM=some ([],.tup [],some zyO):=by kernel_rfl
theorem zyok (xs:Nat→Nat→Ext):aX Try.prog (Iv xs) 59 zyS:=gG (bS (tR xs) (by kernel_rfl) 3000 40) zyrun
def zoH:Hyp:=⟨[(.v 1,(0,0)),(.v 0,(0,255))],[(0,(-9223372036854775808,9223372036854775807))],[(10,(0,4294967295))],[],[],[]⟩
def zoL:List SV:=[.s (.ptr 0 (.lit 0)),.s (.int .u8 (.v 0))]
def zoM:Mem:=[⟨119,[.one .nilSlc,.run .i64 (.lit 16) (.av 0) 0,.one (.int .i64 (.lit 0)),.one (.int .i64 (.v 1))],true,none,false⟩]
def zo0:E:=.upd (.av 0) (.lit 0) (.lit 5)
def zoO:Mem:=[⟨119,[.one (.slc 1 (.lit 0) (.lit 5) (.op (.lit 0))),.run .i64 (.lit 16) zo0 0,.one (.int .i64 (.lit 1)),.one (.int .i64 (.v 1))],true,none,false⟩,⟨5,[.one (.int .u8 (.v 0)),.one (.int .u8 (.lit 0)),.one (.int .u8 (.lit 0)),.one (.int .u8 (.lit 0)),.one (.int .u8 (.lit 0))],true,some 1,false⟩]
def zoS:Go.Sx.Spec:=fC (fK 2 0 1 zoL zoM) zoH zoL zoM [] (.tup []) (some zoO)
set_option maxHeartbeats 4000000 in
theorem zorun:enter Try.prog SW SWh 3000 40 55 zoH zoL zoM=some ([],.tup [],some zoO):=by kernel_rfl
theorem zook (xs:Nat→Nat→Ext):aX Try.prog (Iv xs) 55 zoS:=gG (bS (tR xs) (by kernel_rfl) 3000 40) zorun
def dnH:Hyp:=⟨[(.v 0,(1,4000000)),(.v 1,(0,0)),(.v 2,(0,0))],[(0,(0,255)),(1,(-9223372036854775808,9223372036854775807))],[(10,(0,4294967295))],[],[],[]⟩
def dnL:List SV:=[.s (.ptr 0 (.lit 0))]
def dnM:Mem:=[⟨119,[.one (.slc 1 (.lit 0) (.v 0) (.op (.lit 0))),.run .i64 (.lit 16) (.av 1) 0,.one (.int .i64 (.v 1)),.one (.int .i64 (.v 2))],true,none,false⟩,⟨5,[.run .u8 (.v 0) (.av 0) 0],true,some 1,false⟩]
def dn0:E:=.add (.v 0) (.lit 13)
def dn1:E:=.upd (.tab []) (.lit 0) (.lit 76)
def dn2:E:=.upd dn1 (.lit 1) (.lit 65)
def dn3:E:=.upd dn2 (.lit 2) (.lit 78)
def dn4:E:=.upd dn3 (.lit 3) (.lit 84)
def dn5:E:=.upd dn4 (.lit 4) (.lit 1)
def dn6:E:=.mod (.v 0) (.lit 256)
def dn7:E:=.upd dn5 (.lit 5) dn6
def dn8:E:=.div (.v 0) (.lit 256)
def dn9:E:=.mod dn8 (.lit 256)
def dn10:E:=.upd dn7 (.lit 6) dn9
def dn11:E:=.div (.v 0) (.lit 65536)
def dn12:E:=.upd dn10 (.lit 7) dn11
def dn13:E:=.upd dn12 (.lit 8) (.lit 0)
def bGR:E:=.app 10 (.cons (.v 0) (.cons (.av 0) .nil))
def dn15:E:=.mod bGR (.lit 256)
def dn16:E:=.upd dn13 (.lit 9) dn15
def dn17:E:=.div bGR (.lit 256)
def dn18:E:=.mod dn17 (.lit 256)
def dn19:E:=.upd dn16 (.lit 10) dn18
def dn20:E:=.div bGR (.lit 65536)
def dn21:E:=.mod dn20 (.lit 256)
def dn22:E:=.upd dn19 (.lit 11) dn21
def dn23:E:=.div bGR (.lit 16777216)
def dn24:E:=.upd dn22 (.lit 12) dn23
def dn25:E:=.blt dn24 (.lit 13) (.v 0) (.av 0) (.lit 0)
def dnO:Mem:=[⟨119,[.one (.slc 1 (.lit 0) (.v 0) (.op (.lit 0))),.run .i64 (.lit 16) (.av 1) 0,.one (.int .i64 (.v 1)),.one (.int .i64 (.v 2))],true,none,false⟩,⟨5,[.run .u8 (.v 0) (.av 0) 0],true,some 1,false⟩,⟨5,[.run .u8 dn0 dn25 0],true,some 1,false⟩]
def dnS:Go.Sx.Spec:=fC (fK 3 0 2 dnL dnM) dnH dnL dnM [] (.tup [(false,[.one (.slc 2 (.lit 0) dn0 (.op (.lit 0)))]),(false,[.one (.int .i64 (.lit 0))])]) (some dnO)
set_option maxHeartbeats 4000000 in
theorem dnrun:enter Try.prog SW SWh 3000 40 41 dnH dnL dnM=some ([],.tup [(false,[.one (.slc 2 (.lit 0) dn0 (.op (.lit 0)))]),(false,[.one (.int .i64 (.lit 0))])],some dnO):=by kernel_rfl
theorem dnok (xs:Nat→Nat→Ext):aX Try.prog (Iv xs) 41 dnS:=gG (bS (tR xs) (by kernel_rfl) 3000 40) dnrun
noncomputable def SQ:Ctx:=inl Try.prog (ctx [(44,cQ),(46,cQ),(27,fG 5),(33,dV 5),(20,eV),(58,orS wbS (zbS)),(57,orS wwS (zwS)),(59,orS wyS (orS wgS (zyS))),(55,orS woS (zoS)),(41,dnS)]) 3000 60 14
noncomputable def SQh:aV:=bCV Try.prog (ctx [(44,cQ),(46,cQ),(27,fG 5),(33,dV 5),(20,eV),(58,orS wbS (zbS)),(57,orS wwS (zwS)),(59,orS wyS (orS wgS (zyS))),(55,orS woS (zoS)),(41,dnS)]) 3000 60 14
theorem SQ_ok (xs:Nat→Nat→Ext):cA Try.prog (Iv xs) SQ:=yA (kP (fun p hp=>by
 simp only [List.mem_cons,List.not_mem_nil,or_false] at hp
 rcases hp with rfl | rfl | rfl | rfl | rfl | rfl | rfl | rfl | rfl | rfl
 ·exact eI bCx rfl
 ·exact eI bCw rfl
 ·exact iT bAa
 ·exact iD bAc
 ·exact jH bCp
 ·exact jE (wbok xs) (zbok xs)
 ·exact jE (wwok xs) (zwok xs)
 ·exact jE (wyok xs) (jE (wgok xs) (zyok xs))
 ·exact jE (wook xs) (zook xs)
 ·exact dnok xs
 )) (by kernel_rfl) 3000 60 14
def tv0:E:=.upd (.av 3) (.lit 0) (.lit 5)
def tv1:E:=.upd (.tab []) (.lit 0) (.lit 28)
def tv2:E:=.upd tv1 (.lit 1) (.lit 0)
def tv3:E:=.upd tv2 (.lit 2) (.lit 0)
def tv4:E:=.upd tv3 (.lit 3) (.lit 0)
def tv5:E:=.upd tv4 (.lit 4) (.lit 0)
def tv6:E:=.mod (.v 0) (.lit 256)
def tv7:E:=.upd tv5 (.lit 5) tv6
def tv8:E:=.div (.v 0) (.lit 256)
def tv9:E:=.upd tv7 (.lit 6) tv8
def tv10:E:=.mod (.v 1) (.lit 256)
def tv11:E:=.upd tv9 (.lit 7) tv10
def tv12:E:=.div (.v 1) (.lit 256)
def tv13:E:=.upd tv11 (.lit 8) tv12
def tv14:E:=.mod (.v 2) (.lit 256)
def tv15:E:=.upd tv13 (.lit 9) tv14
def tv16:E:=.div (.v 2) (.lit 256)
def tv17:E:=.upd tv15 (.lit 10) tv16
def tv18:E:=.mod (.v 3) (.lit 256)
def tv19:E:=.upd tv17 (.lit 11) tv18
def tv20:E:=.div (.v 3) (.lit 256)
def tv21:E:=.upd tv19 (.lit 12) tv20
def tv22:E:=.mod (.v 4) (.lit 256)
def tv23:E:=.upd tv21 (.lit 13) tv22
def tv24:E:=.div (.v 4) (.lit 256)
def tv25:E:=.upd tv23 (.lit 14) tv24
def tv26:E:=.upd tv25 (.lit 15) (.v 5)
def tv27:E:=.upd tv26 (.lit 16) (.lit 0)
def tv28:E:=.mod (.v 6) (.lit 256)
def tv29:E:=.upd tv27 (.lit 17) tv28
def tv30:E:=.div (.v 6) (.lit 256)
def tv31:E:=.upd tv29 (.lit 18) tv30
def tv32:E:=.mod (.v 7) (.lit 256)
def tv33:E:=.upd tv31 (.lit 19) tv32
def tv34:E:=.div (.v 7) (.lit 256)
def tv35:E:=.upd tv33 (.lit 20) tv34
def tv36:E:=.mod (.v 8) (.lit 256)
def tv37:E:=.upd tv35 (.lit 21) tv36
def tv38:E:=.div (.v 8) (.lit 256)
def tv39:E:=.upd tv37 (.lit 22) tv38
def tv40:E:=.mod (.v 11) (.lit 256)
def tv41:E:=.upd tv39 (.lit 23) tv40
def tv42:E:=.div (.v 11) (.lit 256)
def tv43:E:=.upd tv41 (.lit 24) tv42
def tv44:E:=.mod (.v 12) (.lit 256)
def tv45:E:=.upd tv43 (.lit 25) tv44
def tv46:E:=.div (.v 12) (.lit 256)
def tv47:E:=.upd tv45 (.lit 26) tv46
def tv48:E:=.upd tv47 (.lit 27) (.v 13)
def tv49:E:=.upd tv48 (.lit 28) (.v 14)
def tv50:E:=.upd tv49 (.lit 29) (.v 15)
def tv51:E:=.sel (.av 1) (.lit 0)
def tv52:E:=.mod tv51 (.lit 256)
def tv53:E:=.upd tv50 (.lit 30) tv52
def tv54:E:=.div tv51 (.lit 256)
def tv55:E:=.upd tv53 (.lit 31) tv54
def tv56:E:=.sel (.av 1) (.lit 1)
def tv57:E:=.mod tv56 (.lit 256)
def tv58:E:=.upd tv55 (.lit 32) tv57
def tv59:E:=.div tv56 (.lit 256)
def tv60:E:=.upd tv58 (.lit 33) tv59
def tv61:E:=.sel (.av 1) (.lit 2)
def tv62:E:=.mod tv61 (.lit 256)
def tv63:E:=.upd tv60 (.lit 34) tv62
def tv64:E:=.div tv61 (.lit 256)
def tv65:E:=.upd tv63 (.lit 35) tv64
def tv66:E:=.sel (.av 1) (.lit 3)
def tv67:E:=.mod tv66 (.lit 256)
def tv68:E:=.upd tv65 (.lit 36) tv67
def tv69:E:=.div tv66 (.lit 256)
def bQz:E:=.upd tv68 (.lit 37) tv69
def tv86:E:=.blt (.tab []) (.lit 0) (.lit 38) bQz (.lit 0)
def tv89:E:=.upd (.tab []) (.lit 0) (.lit 0)
def tv91:E:=.upd tv89 (.lit 1) (.lit 2)
def tv92:E:=.upd tv91 (.lit 2) (.lit 0)
def tv93:E:=.upd tv92 (.lit 3) (.lit 0)
def tv94:E:=.blt tv93 (.lit 4) (.lit 512) (.app 50 (.cons (.av 2) .nil)) (.lit 0)
def tv95:E:=.blt tv86 (.lit 38) (.lit 516) tv94 (.lit 0)
def tv98:E:=.upd tv95 (.lit 1) (.lit 37)
def bLy:E:=.upd tv98 (.lit 2) (.lit 2)
def bLz:E:=.upd bLy (.lit 3) (.lit 0)
def bLA:E:=.upd bLz (.lit 4) (.lit 0)
def svH:Hyp:=⟨[(.v 0,(0,2047)),(.v 1,(0,65535)),(.v 2,(0,65535)),(.v 3,(0,65535)),(.v 4,(0,65535)),(.v 5,(0,255)),(.v 6,(0,1023)),(.v 7,(0,65535)),(.v 8,(0,65535)),(.v 9,(0,65535)),(.v 10,(0,65535)),(.v 11,(0,65535)),(.v 12,(0,65535)),(.v 13,(0,63)),(.v 14,(0,63)),(.v 15,(0,3)),(.v 16,(0,0))],[(0,(0,255)),(1,(0,2047)),(2,(0,65535)),(3,(-9223372036854775808,9223372036854775807))],[(10,(0,4294967295)),(40,(0,65535)),(41,(0,63))],[(50,(0,255))],[],[]⟩
def svL:List SV:=[.s (.ptr 1 (.lit 0)),.s (.ptr 2 (.lit 0))]
def svM:Mem:=[⟨5,[.run .u8 (.lit 8192) (.av 0) 0],true,some 1,false⟩,⟨81,[.one (.int .u16 (.v 0)),.one (.int .u16 (.v 1)),.one (.int .u16 (.v 2)),.one (.int .u16 (.v 3)),.one (.int .u16 (.v 4)),.one (.int .u16 (.v 5)),.one (.int .u16 (.v 6)),.one (.int .u16 (.v 7)),.one (.int .u16 (.v 8)),.one (.int .u16 (.v 9)),.one (.int .u16 (.v 10)),.one (.int .u16 (.v 11)),.one (.int .u16 (.v 12)),.one (.int .u8 (.v 13)),.one (.int .u8 (.v 14)),.one (.int .u8 (.v 15)),.run .u16 (.lit 4) (.av 1) 0,.run .u16 (.lit 256) (.av 2) 0,.one (.slc 0 (.lit 0) (.lit 8192) (.op (.lit 0)))],true,none,false⟩,⟨119,[.one .nilSlc,.run .i64 (.lit 16) (.av 3) 0,.one (.int .i64 (.lit 0)),.one (.int .i64 (.v 16))],true,none,false⟩]
def svO:Mem:=[⟨5,[.run .u8 (.lit 8192) (.av 0) 0],true,some 1,false⟩,⟨81,[.one (.int .u16 (.v 0)),.one (.int .u16 (.v 1)),.one (.int .u16 (.v 2)),.one (.int .u16 (.v 3)),.one (.int .u16 (.v 4)),.one (.int .u16 (.v 5)),.one (.int .u16 (.v 6)),.one (.int .u16 (.v 7)),.one (.int .u16 (.v 8)),.one (.int .u16 (.v 9)),.one (.int .u16 (.v 10)),.one (.int .u16 (.v 11)),.one (.int .u16 (.v 12)),.one (.int .u8 (.v 13)),.one (.int .u8 (.v 14)),.one (.int .u8 (.v 15)),.run .u16 (.lit 4) (.av 1) 0,.run .u16 (.lit 256) (.av 2) 0,.one (.slc 0 (.lit 0) (.lit 8192) (.op (.lit 0)))],true,none,false⟩,⟨119,[.one (.slc 5 (.lit 0) (.lit 554) (.op (.lit 0))),.run .i64 (.lit 16) tv0 0,.one (.int .i64 (.lit 0)),.one (.int .i64 (.v 16))],true,none,false⟩,⟨5,[.run .u8 (.lit 38) bQz 0],true,some 1,true⟩,⟨5,[.run .u8 (.lit 512) (.app 50 (.cons (.av 2) .nil)) 0],true,some 1,false⟩,⟨5,[.run .u8 (.lit 554) bLA 0],true,some 1,false⟩]
def svN:List E:=[]
def svR:SV:=.tup []
--SKEND
def sv0:E:=.upd (.av 3) (.lit 0) (.lit 5)
def sv1:E:=.upd (.tab []) (.lit 0) (.lit 28)
def sv2:E:=.upd sv1 (.lit 1) (.lit 0)
def sv3:E:=.upd sv2 (.lit 2) (.lit 0)
def sv4:E:=.upd sv3 (.lit 3) (.lit 0)
def sv5:E:=.upd sv4 (.lit 4) (.lit 0)
def sv6:E:=.mod (.v 0) (.lit 256)
def sv7:E:=.upd sv5 (.lit 5) sv6
def sv8:E:=.div (.v 0) (.lit 256)
def sv9:E:=.upd sv7 (.lit 6) sv8
def bPs:E:=.mod (.v 1) (.lit 256)
def bPt:E:=.upd sv9 (.lit 7) bPs
def bPu:E:=.div (.v 1) (.lit 256)
def bPv:E:=.upd bPt (.lit 8) bPu
def bPw:E:=.mod (.v 2) (.lit 256)
def bPx:E:=.upd bPv (.lit 9) bPw
def bPy:E:=.div (.v 2) (.lit 256)
def bPz:E:=.upd bPx (.lit 10) bPy
def bPA:E:=.mod (.v 3) (.lit 256)
def bPB:E:=.upd bPz (.lit 11) bPA
def bPC:E:=.div (.v 3) (.lit 256)
def bPD:E:=.upd bPB (.lit 12) bPC
def bPE:E:=.mod (.v 4) (.lit 256)
def bPF:E:=.upd bPD (.lit 13) bPE
def bPG:E:=.div (.v 4) (.lit 256)
def bPH:E:=.upd bPF (.lit 14) bPG
def bPI:E:=.upd bPH (.lit 15) (.v 5)
def bPJ:E:=.upd bPI (.lit 16) (.lit 0)
def bPK:E:=.mod (.v 6) (.lit 256)
def bPL:E:=.upd bPJ (.lit 17) bPK
def bPM:E:=.div (.v 6) (.lit 256)
def bPN:E:=.upd bPL (.lit 18) bPM
def bPO:E:=.mod (.v 7) (.lit 256)
def bPP:E:=.upd bPN (.lit 19) bPO
def bPQ:E:=.div (.v 7) (.lit 256)
def bPR:E:=.upd bPP (.lit 20) bPQ
def bPS:E:=.mod (.v 8) (.lit 256)
def bPT:E:=.upd bPR (.lit 21) bPS
def bPU:E:=.div (.v 8) (.lit 256)
def bPV:E:=.upd bPT (.lit 22) bPU
def bPW:E:=.mod (.v 11) (.lit 256)
def bPX:E:=.upd bPV (.lit 23) bPW
def bPY:E:=.div (.v 11) (.lit 256)
def bPZ:E:=.upd bPX (.lit 24) bPY
def bQa:E:=.mod (.v 12) (.lit 256)
def bQb:E:=.upd bPZ (.lit 25) bQa
def bQc:E:=.div (.v 12) (.lit 256)
def bQd:E:=.upd bQb (.lit 26) bQc
def bQe:E:=.upd bQd (.lit 27) (.v 13)
def bQf:E:=.upd bQe (.lit 28) (.v 14)
def bQg:E:=.upd bQf (.lit 29) (.v 15)
def bIN:E:=.sel (.av 1) (.lit 0)
def bQh:E:=.mod bIN (.lit 256)
def bQi:E:=.upd bQg (.lit 30) bQh
def bQj:E:=.div bIN (.lit 256)
def bQk:E:=.upd bQi (.lit 31) bQj
def bIO:E:=.sel (.av 1) (.lit 1)
def bQl:E:=.mod bIO (.lit 256)
def bQm:E:=.upd bQk (.lit 32) bQl
def bQn:E:=.div bIO (.lit 256)
def bQo:E:=.upd bQm (.lit 33) bQn
def bIP:E:=.sel (.av 1) (.lit 2)
def bQp:E:=.mod bIP (.lit 256)
def bQq:E:=.upd bQo (.lit 34) bQp
def bQr:E:=.div bIP (.lit 256)
def bQs:E:=.upd bQq (.lit 35) bQr
def bIQ:E:=.sel (.av 1) (.lit 3)
def bQt:E:=.mod bIQ (.lit 256)
def bQu:E:=.upd bQs (.lit 36) bQt
def bQv:E:=.div bIQ (.lit 256)
def aVb:E:=.upd bQu (.lit 37) bQv
def bIR:E:=.sel (.av 2) (.lit 0)
def bQw:E:=.mod bIR (.lit 256)
def bQx:E:=.upd (.tab []) (.lit 0) bQw
def bQy:E:=.div bIR (.lit 256)
def bFO:E:=.upd bQx (.lit 1) bQy
def bBm:E:=.le (.v 18) (.lit 255)
def aVc:E:=.add (.v 17) (.lit 2)
def aVd:E:=.add (.v 18) (.lit 1)
def bBn:E:=.sel (.av 2) (.v 18)
def bFP:E:=.mod bBn (.lit 256)
def bFQ:E:=.upd (.av 4) (.v 17) bFP
def bFR:E:=.add (.v 17) (.lit 1)
def bFS:E:=.div bBn (.lit 256)
def aVe:E:=.upd bFQ bFR bFS
def aIn:E:=.add (.v 17) (.lit 42)
def bBo:E:=.blt (.tab []) (.lit 0) (.lit 38) aVb (.lit 0)
def bBp:E:=.add (.v 17) (.lit 4)
def bBq:E:=.mod (.v 17) (.lit 256)
def bBr:E:=.upd (.tab []) (.lit 0) bBq
def bBs:E:=.div (.v 17) (.lit 256)
def bBt:E:=.upd bBr (.lit 1) bBs
def bBu:E:=.upd bBt (.lit 2) (.lit 0)
def bBv:E:=.upd bBu (.lit 3) (.lit 0)
def bBw:E:=.blt bBv (.lit 4) (.v 17) (.av 4) (.lit 0)
def bBx:E:=.blt bBo (.lit 38) bBp bBw (.lit 0)
def aVf:E:=.add (.v 17) (.lit 37)
def bBy:E:=.mod aVf (.lit 256)
def bBz:E:=.upd bBx (.lit 1) bBy
def bBA:E:=.div aVf (.lit 256)
def aGF:E:=.upd bBz (.lit 2) bBA
def aGG:E:=.upd aGF (.lit 3) (.lit 0)
def aDy:E:=.upd aGG (.lit 4) (.lit 0)
noncomputable def bFT:List Item:=mL Try.prog 40 19
noncomputable def aTh:Head:=⟨19,bFT,⟨[((.v 0),(0,2047)),((.v 1),(0,65535)),((.v 2),(0,65535)),((.v 3),(0,65535)),((.v 4),(0,65535)),((.v 5),(0,255)),((.v 6),(0,1023)),((.v 7),(0,65535)),((.v 8),(0,65535)),((.v 9),(0,65535)),((.v 10),(0,65535)),((.v 11),(0,65535)),((.v 12),(0,65535)),((.v 13),(0,63)),((.v 14),(0,63)),((.v 15),(0,3)),((.v 16),(0,0)),((.v 17),(0,512)),((.v 18),(0,256))],[(0,(0,255)),(1,(0,2047)),(2,(0,65535)),(3,((-9223372036854775808),9223372036854775807)),(4,(0,255))],[(10,(0,4294967295)),(40,(0,65535)),(41,(0,63))],[(50,(0,255))],[],[]⟩,[⟨76,[],.s (.int .i64 (.v 18))⟩,⟨10,[],.s (.slc 4 (.lit 0) (.v 17) (.op (.lit 0)))⟩,⟨75,[],.agg [.run .u16 (.lit 256) (.av 2) 0]⟩,⟨1,[],.s (.ptr 2 (.lit 0))⟩],[⟨5,[.run .u8 (.lit 8192) (.av 0) 0],true,some 1,false⟩,⟨81,[.one (.int .u16 (.v 0)),.one (.int .u16 (.v 1)),.one (.int .u16 (.v 2)),.one (.int .u16 (.v 3)),.one (.int .u16 (.v 4)),.one (.int .u16 (.v 5)),.one (.int .u16 (.v 6)),.one (.int .u16 (.v 7)),.one (.int .u16 (.v 8)),.one (.int .u16 (.v 9)),.one (.int .u16 (.v 10)),.one (.int .u16 (.v 11)),.one (.int .u16 (.v 12)),.one (.int .u8 (.v 13)),.one (.int .u8 (.v 14)),.one (.int .u8 (.v 15)),.run .u16 (.lit 4) (.av 1) 0,.run .u16 (.lit 256) (.av 2) 0,.one (.slc 0 (.lit 0) (.lit 8192) (.op (.lit 0)))],true,none,false⟩,⟨119,[.one (.slc 3 (.lit 0) (.lit 38) (.op (.lit 0))),.run .i64 (.lit 16) sv0 0,.one (.int .i64 (.lit 1)),.one (.int .i64 (.v 16))],true,none,false⟩,⟨5,[.run .u8 (.lit 38) aVb 0],true,some 1,false⟩,⟨5,[.run .u8 (.v 17) (.av 4) 0],true,some 1,false⟩]⟩
noncomputable def bBB:List Head:=[aTh]
def svD:Dim:=⟨19,0,5,17,0,4,3⟩
theorem svst:gD Try.prog SQ SQh svD bBB [] 3000 18 40 svH svL svM=some (.jump 0 bFT ⟨[(17,(.lit 2)),(18,(.lit 1))],[],[(4,bFO)]⟩):=by kernel_rfl
theorem svsg0:mM Try.prog SQ SQh svD bBB [] 3000 0 40 aTh=some (.ite bBm (.jump 0 bFT ⟨[(17,aVc),(18,aVd)],[],[(4,aVe)]⟩) (.ret (.tup []) [⟨5,[.run .u8 (.lit 8192) (.av 0) 0],true,some 1,false⟩,⟨81,[.one (.int .u16 (.v 0)),.one (.int .u16 (.v 1)),.one (.int .u16 (.v 2)),.one (.int .u16 (.v 3)),.one (.int .u16 (.v 4)),.one (.int .u16 (.v 5)),.one (.int .u16 (.v 6)),.one (.int .u16 (.v 7)),.one (.int .u16 (.v 8)),.one (.int .u16 (.v 9)),.one (.int .u16 (.v 10)),.one (.int .u16 (.v 11)),.one (.int .u16 (.v 12)),.one (.int .u8 (.v 13)),.one (.int .u8 (.v 14)),.one (.int .u8 (.v 15)),.run .u16 (.lit 4) (.av 1) 0,.run .u16 (.lit 256) (.av 2) 0,.one (.slc 0 (.lit 0) (.lit 8192) (.op (.lit 0)))],true,none,false⟩,⟨119,[.one (.slc 5 (.lit 0) aIn (.op (.lit 0))),.run .i64 (.lit 16) sv0 0,.one (.int .i64 (.lit 0)),.one (.int .i64 (.v 16))],true,none,false⟩,⟨5,[.run .u8 (.lit 38) aVb 0],true,some 1,true⟩,⟨5,[.run .u8 (.v 17) (.av 4) 0],true,some 1,false⟩,⟨5,[.run .u8 aIn aDy 0],true,some 1,false⟩])):=by kernel_rfl
def svV (i0 i1 i2 i3 i4 i5 i6 i7 i8 i9 i10 i11 i12 i13 i14 i15 i16 d b:Int) (f g c l m:Nat→Int) (vs:List Value) (J:Interp):Env:=⟨[i0,i1,i2,i3,i4,i5,i6,i7,i8,i9,i10,i11,i12,i13,i14,i15,i16,d,b],[],[f,g,c,l,m],vs,J⟩
def svJ (i0 i1 i2 i3 i4 i5 i6 i7 i8 i9 i10 i11 i12 i13 i14 i15 i16 d b:Int) (f g c l m:Nat→Int):Nat→Prop
 | 0=>(0≤d∧d≤512)∧(0≤b∧b≤256)∧(∀ j,0≤m j∧m j≤255)∧d=2*b∧∀ j:Nat,(j:Int)<2*b→m j=iW c j
 | _=>False
def bIS:Nat→Env→Nat
 | 0,ρ=>(256-ρ.i.getD 18 0).toNat
 | _,_=>0
theorem svok0 (i0 i1 i2 i3 i4 i5 i6 i7 i8 i9 i10 i11 i12 i13 i14 i15 i16 d b:Int) (f g c l m:Nat→Int) (vs:List Value) (J:Interp) (C:0≤i0∧i0≤2047) (D:0≤i1∧i1≤65535) (F:0≤i2∧i2≤65535) (G:0≤i3∧i3≤65535) (K:0≤i4∧i4≤65535) (L:0≤i5∧i5≤255) (M:0≤i6∧i6≤1023) (N:0≤i7∧i7≤65535) (O:0≤i8∧i8≤65535) (P:0≤i9∧i9≤65535) (n:0≤i10∧i10≤65535) (o:0≤i11∧i11≤65535) (r:0≤i12∧i12≤65535) (t:0≤i13∧i13≤63) (w:0≤i14∧i14≤63) (x:0≤i15∧i15≤3) (y:0≤i16∧i16≤0) (A:∀ j,0≤f j∧f j≤255) (B:∀ j,0≤g j∧g j≤2047) (z:∀ j,0≤c j∧c j≤65535) (R:∀ j,-9223372036854775808≤l j∧l j≤9223372036854775807) (hfi:∀ p ∈ svH.fi,∀ is bs xs,inR p.2 (J.fi p.1 is bs xs)) (hfa:∀ p ∈ svH.fa,∀ is bs xs j,inR p.2 (J.fa p.1 is bs xs j)) (hIi:J.fi=Ifi) (hIb:J.fb=Ifb) (hIa:J.fa=Ifa) (hJ:svJ i0 i1 i2 i3 i4 i5 i6 i7 i8 i9 i10 i11 i12 i13 i14 i15 i16 d b f g c l m 0):Hyp.ok aTh.H (svV i0 i1 i2 i3 i4 i5 i6 i7 i8 i9 i10 i11 i12 i13 i14 i15 i16 d b f g c l m vs J):=by
 simp only [svJ] at hJ
 obtain ⟨l0,l1,m0,hinv⟩:=hJ
 refine ⟨by simp [aTh],?_,?_,?_,?_,by simp [aTh]⟩
 ·intro p hp
  simp only [aTh,List.mem_cons,List.not_mem_nil,or_false] at hp
  rcases hp with rfl | rfl | rfl | rfl | rfl | rfl | rfl | rfl | rfl | rfl | rfl | rfl | rfl | rfl | rfl | rfl | rfl | rfl | rfl
  ·exact C
  ·exact D
  ·exact F
  ·exact G
  ·exact K
  ·exact L
  ·exact M
  ·exact N
  ·exact O
  ·exact P
  ·exact n
  ·exact o
  ·exact r
  ·exact t
  ·exact w
  ·exact x
  ·exact y
  ·exact l0
  ·exact l1
 ·intro p hp
  simp only [aTh,List.mem_cons,List.not_mem_nil,or_false] at hp
  rcases hp with rfl | rfl | rfl | rfl | rfl
  ·exact A
  ·exact B
  ·exact z
  ·exact R
  ·exact m0
 ·exact hfi
 ·exact hfa
theorem svvcS (i0 i1 i2 i3 i4 i5 i6 i7 i8 i9 i10 i11 i12 i13 i14 i15 i16:Int) (f g c l:Nat→Int) (vs:List Value) (J:Interp) (C:0≤i0∧i0≤2047) (D:0≤i1∧i1≤65535) (F:0≤i2∧i2≤65535) (G:0≤i3∧i3≤65535) (K:0≤i4∧i4≤65535) (L:0≤i5∧i5≤255) (M:0≤i6∧i6≤1023) (N:0≤i7∧i7≤65535) (O:0≤i8∧i8≤65535) (P:0≤i9∧i9≤65535) (n:0≤i10∧i10≤65535) (o:0≤i11∧i11≤65535) (r:0≤i12∧i12≤65535) (t:0≤i13∧i13≤63) (w:0≤i14∧i14≤63) (x:0≤i15∧i15≤3) (y:0≤i16∧i16≤0) (A:∀ j,0≤f j∧f j≤255) (B:∀ j,0≤g j∧g j≤2047) (z:∀ j,0≤c j∧c j≤65535) (R:∀ j,-9223372036854775808≤l j∧l j≤9223372036854775807) (hfi:∀ p ∈ svH.fi,∀ is bs xs,inR p.2 (J.fi p.1 is bs xs)) (hfa:∀ p ∈ svH.fa,∀ is bs xs j,inR p.2 (J.fa p.1 is bs xs j)) (hIi:J.fi=Ifi) (hIb:J.fb=Ifb) (hIa:J.fa=Ifa) :
 LT.holds (svV i0 i1 i2 i3 i4 i5 i6 i7 i8 i9 i10 i11 i12 i13 i14 i15 i16 0 0 f g c l (fun _=>0) vs J) (fun v' m'=>mT (svV i0 i1 i2 i3 i4 i5 i6 i7 i8 i9 i10 i11 i12 i13 i14 i15 i16 0 0 f g c l (fun _=>0) vs J) (⟨[i0,i1,i2,i3,i4,i5,i6,i7,i8,i9,i10,i11,i12,i13,i14,i15,i16],[],[f,g,c,l],vs,J⟩:Env) svR svO v' m') (fun j todo ρ'=>(bBB[j]?.map (·.todo))=some todo∧(fun j ρ'=>∃ (d b:Int) (m:Nat→Int),ρ'=(svV i0 i1 i2 i3 i4 i5 i6 i7 i8 i9 i10 i11 i12 i13 i14 i15 i16 d b f g c l m vs J)∧svJ i0 i1 i2 i3 i4 i5 i6 i7 i8 i9 i10 i11 i12 i13 i14 i15 i16 d b f g c l m j) j ρ') (.jump 0 bFT ⟨[(17,(.lit 2)),(18,(.lit 1))],[],[(4,bFO)]⟩):=by
 simp only [LT.holds]
 refine ⟨rfl,(E.i (svV i0 i1 i2 i3 i4 i5 i6 i7 i8 i9 i10 i11 i12 i13 i14 i15 i16 0 0 f g c l (fun _=>0) vs J) ((.lit 2))),(E.i (svV i0 i1 i2 i3 i4 i5 i6 i7 i8 i9 i10 i11 i12 i13 i14 i15 i16 0 0 f g c l (fun _=>0) vs J) ((.lit 1))),(E.a (svV i0 i1 i2 i3 i4 i5 i6 i7 i8 i9 i10 i11 i12 i13 i14 i15 i16 0 0 f g c l (fun _=>0) vs J) bFO),rfl,?_⟩
 ·simp only [svJ]
  have q:=z 0
  have S:iW c 0=c 0%256:=aAI (k:=0)
  have T:iW c 1=c 0 / 256:=aAH (k:=0) (by omega)
  simp only [svV,sv0,sv1,sv2,sv3,sv4,sv5,sv6,sv7,sv8,sv9,bPs,bPt,bPu,bPv,bPw,bPx,bPy,bPz,bPA,bPB,bPC,bPD,bPE,bPF,bPG,bPH,bPI,bPJ,bPK,bPL,bPM,bPN,bPO,bPP,bPQ,bPR,bPS,bPT,bPU,bPV,bPW,bPX,bPY,bPZ,bQa,bQb,bQc,bQd,bQe,bQf,bQg,bIN,bQh,bQi,bQj,bQk,bIO,bQl,bQm,bQn,bQo,bIP,bQp,bQq,bQr,bQs,bIQ,bQt,bQu,bQv,aVb,bIR,bQw,bQx,bQy,bFO,bBm,aVc,aVd,bBn,bFP,bFQ,bFR,bFS,aVe,aIn,bBo,bBp,bBq,bBr,bBs,bBt,bBu,bBv,bBw,bBx,aVf,bBy,bBz,bBA,aGF,aGG,aDy,i_v,gP,aF,aP,aS,cU,bE,cE,bC,bX,bU,aT,cR,fX,fM,eR,cZ,cT,fJ,dO,dI,cB,bW,List.getD_cons_zero,List.getD_cons_succ,decide_eq_true_eq,decide_eq_false_iff_not,Bool.and_eq_true,Bool.or_eq_true,Bool.not_eq_true',Bool.not_eq_false',Bool.and_eq_false_iff,Bool.or_eq_false_iff,Bool.not_not,cM,cL,cK,cJ,gJ,cD,cC]
  refine ⟨by omega,by omega,fun j=>?_,by omega,fun j h=>?_⟩
  ·show 0≤(if j=1 then c 0 / 256 else if j=0 then c 0%256 else 0)∧(if j=1 then c 0 / 256 else if j=0 then c 0%256 else 0)≤255
   repeat' split
   all_goals omega
  ·show (if j=1 then c 0 / 256 else if j=0 then c 0%256 else 0)=iW c j
   rcases (show j=0∨j=1 by omega) with rfl | rfl
   ·exact S.symm
   ·exact T.symm
theorem svvc0 (i0 i1 i2 i3 i4 i5 i6 i7 i8 i9 i10 i11 i12 i13 i14 i15 i16 d b:Int) (f g c l m:Nat→Int) (vs:List Value) (J:Interp) (C:0≤i0∧i0≤2047) (D:0≤i1∧i1≤65535) (F:0≤i2∧i2≤65535) (G:0≤i3∧i3≤65535) (K:0≤i4∧i4≤65535) (L:0≤i5∧i5≤255) (M:0≤i6∧i6≤1023) (N:0≤i7∧i7≤65535) (O:0≤i8∧i8≤65535) (P:0≤i9∧i9≤65535) (n:0≤i10∧i10≤65535) (o:0≤i11∧i11≤65535) (r:0≤i12∧i12≤65535) (t:0≤i13∧i13≤63) (w:0≤i14∧i14≤63) (x:0≤i15∧i15≤3) (y:0≤i16∧i16≤0) (A:∀ j,0≤f j∧f j≤255) (B:∀ j,0≤g j∧g j≤2047) (z:∀ j,0≤c j∧c j≤65535) (R:∀ j,-9223372036854775808≤l j∧l j≤9223372036854775807) (hfi:∀ p ∈ svH.fi,∀ is bs xs,inR p.2 (J.fi p.1 is bs xs)) (hfa:∀ p ∈ svH.fa,∀ is bs xs j,inR p.2 (J.fa p.1 is bs xs j)) (hIi:J.fi=Ifi) (hIb:J.fb=Ifb) (hIa:J.fa=Ifa) (hJ:svJ i0 i1 i2 i3 i4 i5 i6 i7 i8 i9 i10 i11 i12 i13 i14 i15 i16 d b f g c l m 0) :
 LT.holds (svV i0 i1 i2 i3 i4 i5 i6 i7 i8 i9 i10 i11 i12 i13 i14 i15 i16 d b f g c l m vs J) (fun v' m'=>mT (svV i0 i1 i2 i3 i4 i5 i6 i7 i8 i9 i10 i11 i12 i13 i14 i15 i16 d b f g c l m vs J) (⟨[i0,i1,i2,i3,i4,i5,i6,i7,i8,i9,i10,i11,i12,i13,i14,i15,i16],[],[f,g,c,l],vs,J⟩:Env) svR svO v' m') (fun j' todo ρ'=>(bBB[j']?.map (·.todo))=some todo∧(fun j ρ'=>∃ (d b:Int) (m:Nat→Int),ρ'=(svV i0 i1 i2 i3 i4 i5 i6 i7 i8 i9 i10 i11 i12 i13 i14 i15 i16 d b f g c l m vs J)∧svJ i0 i1 i2 i3 i4 i5 i6 i7 i8 i9 i10 i11 i12 i13 i14 i15 i16 d b f g c l m j) j' ρ'∧bIS j' ρ'<bIS 0 (svV i0 i1 i2 i3 i4 i5 i6 i7 i8 i9 i10 i11 i12 i13 i14 i15 i16 d b f g c l m vs J)) (.ite bBm (.jump 0 bFT ⟨[(17,aVc),(18,aVd)],[],[(4,aVe)]⟩) (.ret (.tup []) [⟨5,[.run .u8 (.lit 8192) (.av 0) 0],true,some 1,false⟩,⟨81,[.one (.int .u16 (.v 0)),.one (.int .u16 (.v 1)),.one (.int .u16 (.v 2)),.one (.int .u16 (.v 3)),.one (.int .u16 (.v 4)),.one (.int .u16 (.v 5)),.one (.int .u16 (.v 6)),.one (.int .u16 (.v 7)),.one (.int .u16 (.v 8)),.one (.int .u16 (.v 9)),.one (.int .u16 (.v 10)),.one (.int .u16 (.v 11)),.one (.int .u16 (.v 12)),.one (.int .u8 (.v 13)),.one (.int .u8 (.v 14)),.one (.int .u8 (.v 15)),.run .u16 (.lit 4) (.av 1) 0,.run .u16 (.lit 256) (.av 2) 0,.one (.slc 0 (.lit 0) (.lit 8192) (.op (.lit 0)))],true,none,false⟩,⟨119,[.one (.slc 5 (.lit 0) aIn (.op (.lit 0))),.run .i64 (.lit 16) sv0 0,.one (.int .i64 (.lit 0)),.one (.int .i64 (.v 16))],true,none,false⟩,⟨5,[.run .u8 (.lit 38) aVb 0],true,some 1,true⟩,⟨5,[.run .u8 (.v 17) (.av 4) 0],true,some 1,false⟩,⟨5,[.run .u8 aIn aDy 0],true,some 1,false⟩])):=by
 simp only [LT.holds]
 simp only [svJ] at hJ
 obtain ⟨l0,l1,m0,hinv⟩:=hJ
 refine ⟨fun Q=>?_,fun Q=>?_⟩
 ·
   refine ⟨rfl,⟨(E.i (svV i0 i1 i2 i3 i4 i5 i6 i7 i8 i9 i10 i11 i12 i13 i14 i15 i16 d b f g c l m vs J) aVc),(E.i (svV i0 i1 i2 i3 i4 i5 i6 i7 i8 i9 i10 i11 i12 i13 i14 i15 i16 d b f g c l m vs J) aVd),(E.a (svV i0 i1 i2 i3 i4 i5 i6 i7 i8 i9 i10 i11 i12 i13 i14 i15 i16 d b f g c l m vs J) aVe),rfl,?_⟩,?_⟩
   ·simp only [svJ]
    simp only [svV,sv0,sv1,sv2,sv3,sv4,sv5,sv6,sv7,sv8,sv9,bPs,bPt,bPu,bPv,bPw,bPx,bPy,bPz,bPA,bPB,bPC,bPD,bPE,bPF,bPG,bPH,bPI,bPJ,bPK,bPL,bPM,bPN,bPO,bPP,bPQ,bPR,bPS,bPT,bPU,bPV,bPW,bPX,bPY,bPZ,bQa,bQb,bQc,bQd,bQe,bQf,bQg,bIN,bQh,bQi,bQj,bQk,bIO,bQl,bQm,bQn,bQo,bIP,bQp,bQq,bQr,bQs,bIQ,bQt,bQu,bQv,aVb,bIR,bQw,bQx,bQy,bFO,bBm,aVc,aVd,bBn,bFP,bFQ,bFR,bFS,aVe,aIn,bBo,bBp,bBq,bBr,bBs,bBt,bBu,bBv,bBw,bBx,aVf,bBy,bBz,bBA,aGF,aGG,aDy,i_v,gP,aF,aP,aS,cU,bE,cE,bC,bX,bU,aT,cR,fX,fM,eR,cZ,cT,fJ,dO,dI,cB,bW,List.getD_cons_zero,List.getD_cons_succ,decide_eq_true_eq,decide_eq_false_iff_not,Bool.and_eq_true,Bool.or_eq_true,Bool.not_eq_true',Bool.not_eq_false',Bool.and_eq_false_iff,Bool.or_eq_false_iff,Bool.not_not,cM,cL,cK,cJ,gJ,cD,cC] at Q ⊢
    obtain ⟨he,hv⟩:=hinv
    have e0:d.toNat=2*b.toNat:=by omega
    have e1:(d+1).toNat=2*b.toNat+1:=by omega
    have q:=z b.toNat
    have S:iW c (2*b.toNat)=c b.toNat%256:=aAI
    have T:iW c (2*b.toNat+1)=c b.toNat / 256:=aAH (by omega)
    simp only [e0,e1]
    refine ⟨by omega,by omega,fun j=>?_,by omega,fun j h=>?_⟩
    ·have:=m0 j;repeat' split
     all_goals omega
    ·by_cases f1:j=2*b.toNat+1
     ·rw [if_pos f1,f1,T]
     ·rw [if_neg f1]
      by_cases f0:j=2*b.toNat
      ·rw [if_pos f0,f0,S]
      ·rw [if_neg f0];exact hv j (by omega)
   ·simp only [bIS,Env.app,kV,List.map_cons,List.map_nil,List.set,svV,bBm,aVc,aVd,bBn,bFP,bFQ,bFR,bFS,aVe,aIn,bBo,bBp,bBq,bBr,bBs,bBt,bBu,bBv,bBw,bBx,aVf,bBy,bBz,bBA,aGF,aGG,aDy,i_v,gP,aF,aP,aS,cU,bE,cE,bC,bX,bU,aT,cR,fX,fM,eR,cZ,cT,fJ,dO,dI,cB,bW,List.getD_cons_zero,List.getD_cons_succ,decide_eq_true_eq,decide_eq_false_iff_not,Bool.and_eq_true,Bool.or_eq_true,Bool.not_eq_true',Bool.not_eq_false',Bool.and_eq_false_iff,Bool.or_eq_false_iff,Bool.not_not,cM,cL,cK,cJ,gJ,cD,cC] at Q ⊢
    omega
 ·
   refine ⟨rfl,?_,?_⟩
   all_goals
    repeat' (first | exact rfl | exact trivial | exact fun _ _=>rfl | refine And.intro ?_ ?_ | refine Or.inr ?_)
   all_goals obtain ⟨he,hv⟩:=hinv
   all_goals simp only [svV,bBm,aVc,aVd,bBn,bFP,bFQ,bFR,bFS,aVe,aIn,bBo,bBp,bBq,bBr,bBs,bBt,bBu,bBv,bBw,bBx,aVf,bBy,bBz,bBA,aGF,aGG,aDy,i_v,gP,aF,aP,aS,cU,bE,cE,bC,bX,bU,aT,cR,fX,fM,eR,cZ,cT,fJ,dO,dI,cB,bW,List.getD_cons_zero,List.getD_cons_succ,decide_eq_true_eq,decide_eq_false_iff_not,Bool.and_eq_true,Bool.or_eq_true,Bool.not_eq_true',Bool.not_eq_false',Bool.and_eq_false_iff,Bool.or_eq_false_iff,Bool.not_not,cM,cL,cK,cJ,gJ,cD,cC] at Q
   all_goals obtain rfl:b=256:=by omega
   all_goals obtain rfl:d=512:=by omega
   all_goals have e70:E.a (svV i0 i1 i2 i3 i4 i5 i6 i7 i8 i9 i10 i11 i12 i13 i14 i15 i16 512 256 f g c l m vs J) aVb=E.a (⟨[i0,i1,i2,i3,i4,i5,i6,i7,i8,i9,i10,i11,i12,i13,i14,i15,i16],[],[f,g,c,l],vs,J⟩:Env) bQz:=rfl
   all_goals have ha:E.a (⟨[i0,i1,i2,i3,i4,i5,i6,i7,i8,i9,i10,i11,i12,i13,i14,i15,i16],[],[f,g,c,l],vs,J⟩:Env) (.app 50 (.cons (.av 2) .nil))=iW c:=bCc hIa _
   all_goals have hz:∀ j:Nat,j<512→m j=iW c j:=fun j h=>hv j (by omega)
   all_goals clear hv hfi hfa hIi hIb hIa
   all_goals first
    | rfl
    | (intro j hj
       simp only [aF] at hj
       rw [ha]
       simp only [Nat.zero_add,Nat.add_zero]
       exact hz j (by omega))
    | (intro j hj
       simp only [Nat.zero_add,Nat.add_zero]
       simp only [aIn,bBo,bBp,bBq,bBr,bBs,bBt,bBu,bBv,bBw,bBx,aVf,bBy,bBz,bBA,aGF,aGG,aDy,tv86,tv89,tv91,tv92,tv93,tv94,tv95,tv98,bLy,bLz,bLA,cC,nP,e70,ha,aF,bC,cE,aS]
       simp only [show E.i (svV i0 i1 i2 i3 i4 i5 i6 i7 i8 i9 i10 i11 i12 i13 i14 i15 i16 512 256 f g c l m vs J) (.v 17)=512 from rfl,show ∀ j,E.a (svV i0 i1 i2 i3 i4 i5 i6 i7 i8 i9 i10 i11 i12 i13 i14 i15 i16 512 256 f g c l m vs J) (.av 4) j=m j from fun _=>rfl,Nat.zero_add,Nat.add_zero]
       have e:j-Int.toNat 38+Int.toNat 0-Int.toNat 4+Int.toNat 0=j-42:=by show j-38+0-4+0=j-42;omega
       have hj2:j<554:=hj
       rw [e,hz (j-42) (by omega)]
       rfl)
theorem svat (xs:Nat→Nat→Ext):fI Try.prog (Iv xs) 40 17 0 4 (iY svH svL svM svN svR (some svO)):=by
 refine rE (u:=0) (SQ_ok xs) (by kernel_rfl) svst (by decide) rfl (fun ρ j ρ'=>∃(i0 i1 i2 i3 i4 i5 i6 i7 i8 i9 i10 i11 i12 i13 i14 i15 i16:Int) (f g c l:Nat→Int),∃ vs J,ρ=(⟨[i0,i1,i2,i3,i4,i5,i6,i7,i8,i9,i10,i11,i12,i13,i14,i15,i16],[],[f,g,c,l],vs,J⟩:Env)∧(fun j ρ'=>∃ (d b:Int) (m:Nat→Int),ρ'=(svV i0 i1 i2 i3 i4 i5 i6 i7 i8 i9 i10 i11 i12 i13 i14 i15 i16 d b f g c l m vs J)∧svJ i0 i1 i2 i3 i4 i5 i6 i7 i8 i9 i10 i11 i12 i13 i14 i15 i16 d b f g c l m j) j ρ') bIS ?_
 intro ρ hI hz hH hn
 obtain ⟨ys,zs,Ys,vs,J⟩:=ρ
 obtain ⟨z1,z2,z3⟩:=hz
 simp only at z1 z2 z3 hI
 obtain ⟨i0,ys0,rfl,z1_0⟩:=aL z1
 obtain ⟨i1,ys1,rfl,z1_1⟩:=aL z1_0
 obtain ⟨i2,ys2,rfl,z1_2⟩:=aL z1_1
 obtain ⟨i3,ys3,rfl,z1_3⟩:=aL z1_2
 obtain ⟨i4,ys4,rfl,z1_4⟩:=aL z1_3
 obtain ⟨i5,ys5,rfl,z1_5⟩:=aL z1_4
 obtain ⟨i6,ys6,rfl,z1_6⟩:=aL z1_5
 obtain ⟨i7,ys7,rfl,z1_7⟩:=aL z1_6
 obtain ⟨i8,ys8,rfl,z1_8⟩:=aL z1_7
 obtain ⟨i9,ys9,rfl,z1_9⟩:=aL z1_8
 obtain ⟨i10,ys10,rfl,z1_10⟩:=aL z1_9
 obtain ⟨i11,ys11,rfl,z1_11⟩:=aL z1_10
 obtain ⟨i12,ys12,rfl,z1_12⟩:=aL z1_11
 obtain ⟨i13,ys13,rfl,z1_13⟩:=aL z1_12
 obtain ⟨i14,ys14,rfl,z1_14⟩:=aL z1_13
 obtain ⟨i15,ys15,rfl,z1_15⟩:=aL z1_14
 obtain ⟨i16,ys16,rfl,z1_16⟩:=aL z1_15
 obtain rfl:=List.eq_nil_of_length_eq_zero z1_16
 obtain rfl:=List.eq_nil_of_length_eq_zero z2
 obtain ⟨f,Ys0,rfl,z3_0⟩:=aL z3
 obtain ⟨g,Ys1,rfl,z3_1⟩:=aL z3_0
 obtain ⟨c,Ys2,rfl,z3_2⟩:=aL z3_1
 obtain ⟨l,Ys3,rfl,z3_3⟩:=aL z3_2
 obtain rfl:=List.eq_nil_of_length_eq_zero z3_3
 have C:0≤i0∧i0≤2047:=hH.e (.v 0,(0,2047)) (by simp [svH])
 have D:0≤i1∧i1≤65535:=hH.e (.v 1,(0,65535)) (by simp [svH])
 have F:0≤i2∧i2≤65535:=hH.e (.v 2,(0,65535)) (by simp [svH])
 have G:0≤i3∧i3≤65535:=hH.e (.v 3,(0,65535)) (by simp [svH])
 have K:0≤i4∧i4≤65535:=hH.e (.v 4,(0,65535)) (by simp [svH])
 have L:0≤i5∧i5≤255:=hH.e (.v 5,(0,255)) (by simp [svH])
 have M:0≤i6∧i6≤1023:=hH.e (.v 6,(0,1023)) (by simp [svH])
 have N:0≤i7∧i7≤65535:=hH.e (.v 7,(0,65535)) (by simp [svH])
 have O:0≤i8∧i8≤65535:=hH.e (.v 8,(0,65535)) (by simp [svH])
 have P:0≤i9∧i9≤65535:=hH.e (.v 9,(0,65535)) (by simp [svH])
 have n:0≤i10∧i10≤65535:=hH.e (.v 10,(0,65535)) (by simp [svH])
 have o:0≤i11∧i11≤65535:=hH.e (.v 11,(0,65535)) (by simp [svH])
 have r:0≤i12∧i12≤65535:=hH.e (.v 12,(0,65535)) (by simp [svH])
 have t:0≤i13∧i13≤63:=hH.e (.v 13,(0,63)) (by simp [svH])
 have w:0≤i14∧i14≤63:=hH.e (.v 14,(0,63)) (by simp [svH])
 have x:0≤i15∧i15≤3:=hH.e (.v 15,(0,3)) (by simp [svH])
 have y:0≤i16∧i16≤0:=hH.e (.v 16,(0,0)) (by simp [svH])
 have A:∀ j,0≤f j∧f j≤255:=fun j=>hH.a (0,(0,255)) (by simp [svH]) j
 have B:∀ j,0≤g j∧g j≤2047:=fun j=>hH.a (1,(0,2047)) (by simp [svH]) j
 have z:∀ j,0≤c j∧c j≤65535:=fun j=>hH.a (2,(0,65535)) (by simp [svH]) j
 have R:∀ j,-9223372036854775808≤l j∧l j≤9223372036854775807:=fun j=>hH.a (3,(-9223372036854775808,9223372036854775807)) (by simp [svH]) j
 have hfi:∀ p ∈ svH.fi,∀ is bs xs,inR p.2 (J.fi p.1 is bs xs):=hH.fi
 have hfa:∀ p ∈ svH.fa,∀ is bs xs j,inR p.2 (J.fa p.1 is bs xs j):=hH.fa
 have hIi:J.fi=Ifi:=by rw [hI];rfl
 have hIb:J.fb=Ifb:=by rw [hI];rfl
 have hIa:J.fa=Ifa:=by rw [hI];rfl
 refine ⟨(svV i0 i1 i2 i3 i4 i5 i6 i7 i8 i9 i10 i11 i12 i13 i14 i15 i16 0 0 f g c l (fun _=>0) vs J),rfl,⟨rfl,rfl,rfl⟩,?_,fun ι=>rfl,?_,?_,?_⟩
 ·
   refine ⟨by simp [svH],?_,?_,?_,?_,by simp [svH]⟩
   ·intro p hp
    simp only [svH,List.mem_cons,List.not_mem_nil,or_false] at hp
    rcases hp with rfl | rfl | rfl | rfl | rfl | rfl | rfl | rfl | rfl | rfl | rfl | rfl | rfl | rfl | rfl | rfl | rfl
    ·exact C
    ·exact D
    ·exact F
    ·exact G
    ·exact K
    ·exact L
    ·exact M
    ·exact N
    ·exact O
    ·exact P
    ·exact n
    ·exact o
    ·exact r
    ·exact t
    ·exact w
    ·exact x
    ·exact y
   ·intro p hp
    simp only [svH,List.mem_cons,List.not_mem_nil,or_false] at hp
    rcases hp with rfl | rfl | rfl | rfl
    ·exact A
    ·exact B
    ·exact z
    ·exact R
   ·exact hfi
   ·exact hfa
 ·repeat' (first | exact rfl | exact trivial | exact fun _ _=>rfl | refine And.intro ?_ ?_ | refine Or.inr ?_)
 ·refine LT.cI (fun v' m' h=>h) (fun j todo ρ' h=>⟨h.1,i0,i1,i2,i3,i4,i5,i6,i7,i8,i9,i10,i11,i12,i13,i14,i15,i16,f,g,c,l,vs,J,rfl,h.2⟩) (svvcS i0 i1 i2 i3 i4 i5 i6 i7 i8 i9 i10 i11 i12 i13 i14 i15 i16 f g c l vs J C D F G K L M N O P n o r t w x y A B z R hfi hfa hIi hIb hIa)
 ·intro j h ρ' hj hI' hz' hInv
  obtain ⟨i0',i1',i2',i3',i4',i5',i6',i7',i8',i9',i10',i11',i12',i13',i14',i15',i16',A0',A1',A2',A3',vs',J',he,d,b,m,hρ,hJ⟩:=hInv
  cases he
  subst hρ
  rcases j with _ | j
  ·simp only [bBB,List.getElem?_cons_zero,List.getElem?_cons_succ,Option.some.injEq] at hj;subst hj
   refine ⟨aTh.H,svok0 i0 i1 i2 i3 i4 i5 i6 i7 i8 i9 i10 i11 i12 i13 i14 i15 i16 d b f g c l m vs J C D F G K L M N O P n o r t w x y A B z R hfi hfa hIi hIb hIa hJ,_,svsg0,?_⟩
   exact LT.cI (fun v' m' h=>h) (fun j todo ρ' h=>⟨h.1,⟨i0,i1,i2,i3,i4,i5,i6,i7,i8,i9,i10,i11,i12,i13,i14,i15,i16,f,g,c,l,vs,J,rfl,h.2.1⟩,h.2.2⟩) (svvc0 i0 i1 i2 i3 i4 i5 i6 i7 i8 i9 i10 i11 i12 i13 i14 i15 i16 d b f g c l m vs J C D F G K L M N O P n o r t w x y A B z R hfi hfa hIi hIb hIa hJ)
  ·simp [bBB] at hj
def svS:Go.Sx.Spec:=fC (fK 17 0 4 svL svM) svH svL svM svN (svR) (some svO)
theorem svok (xs:Nat→Nat→Ext):aX Try.prog (Iv xs) 40 svS:=fB (svat xs) (dT _ _ _ _ _ _)
noncomputable def SY:Ctx:=aHE Try.prog [] (ctx [(44,cQ),(46,cQ),(27,fG 5),(33,dV 5),(20,eV),(58,orS wbS (zbS)),(57,orS wwS (zwS)),(59,orS wyS (orS wgS (zyS))),(55,orS woS (zoS)),(41,dnS),(40,svS)]) 3000 40 12
noncomputable def SYh:aV:=aCv Try.prog [] (ctx [(44,cQ),(46,cQ),(27,fG 5),(33,dV 5),(20,eV),(58,orS wbS (zbS)),(57,orS wwS (zwS)),(59,orS wyS (orS wgS (zyS))),(55,orS woS (zoS)),(41,dnS),(40,svS)]) 3000 40 12
theorem SY_ok (xs:Nat→Nat→Ext):cA Try.prog (Iv xs) SY:=nC (kP (fun p hp=>by
 simp only [List.mem_cons,List.not_mem_nil,or_false] at hp
 rcases hp with rfl | rfl | rfl | rfl | rfl | rfl | rfl | rfl | rfl | rfl | rfl
 ·exact eI bCx rfl
 ·exact eI bCw rfl
 ·exact iT bAa
 ·exact iD bAc
 ·exact jH bCp
 ·exact jE (wbok xs) (zbok xs)
 ·exact jE (wwok xs) (zwok xs)
 ·exact jE (wyok xs) (jE (wgok xs) (zyok xs))
 ·exact jE (wook xs) (zook xs)
 ·exact dnok xs
 ·exact svok xs
 )) (by kernel_rfl) 3000 40 12
def sdH:Hyp:=⟨[(.v 0,(0,2047)),(.v 1,(0,65535)),(.v 2,(0,65535)),(.v 3,(0,65535)),(.v 4,(0,65535)),(.v 5,(0,255)),(.v 6,(0,1023)),(.v 7,(0,65535)),(.v 8,(0,65535)),(.v 9,(0,65535)),(.v 10,(0,65535)),(.v 11,(0,65535)),(.v 12,(0,65535)),(.v 13,(0,63)),(.v 14,(0,63)),(.v 15,(0,3))],[(0,(0,255)),(1,(0,2047)),(2,(0,65535))],[(10,(0,4294967295)),(40,(0,65535)),(41,(0,63))],[(50,(0,255))],[],[]⟩
def sdL:List SV:=[.s (.ptr 1 (.lit 0))]
def sdM:Mem:=[⟨5,[.run .u8 (.lit 8192) (.av 0) 0],true,some 1,false⟩,⟨81,[.one (.int .u16 (.v 0)),.one (.int .u16 (.v 1)),.one (.int .u16 (.v 2)),.one (.int .u16 (.v 3)),.one (.int .u16 (.v 4)),.one (.int .u16 (.v 5)),.one (.int .u16 (.v 6)),.one (.int .u16 (.v 7)),.one (.int .u16 (.v 8)),.one (.int .u16 (.v 9)),.one (.int .u16 (.v 10)),.one (.int .u16 (.v 11)),.one (.int .u16 (.v 12)),.one (.int .u8 (.v 13)),.one (.int .u8 (.v 14)),.one (.int .u8 (.v 15)),.run .u16 (.lit 4) (.av 1) 0,.run .u16 (.lit 256) (.av 2) 0,.one (.slc 0 (.lit 0) (.lit 8192) (.op (.lit 0)))],true,none,false⟩]
def sd0:E:=.upd (.tab []) (.lit 0) (.lit 76)
def sd1:E:=.upd sd0 (.lit 1) (.lit 65)
def sd2:E:=.upd sd1 (.lit 2) (.lit 78)
def sd3:E:=.upd sd2 (.lit 3) (.lit 84)
def sd4:E:=.upd sd3 (.lit 4) (.lit 1)
def sd5:E:=.upd sd4 (.lit 5) (.lit 42)
def sd6:E:=.upd sd5 (.lit 6) (.lit 2)
def sd7:E:=.upd sd6 (.lit 7) (.lit 0)
def sd8:E:=.upd sd7 (.lit 8) (.lit 0)
def sd9:E:=.upd (.tab []) (.lit 0) (.lit 28)
def sd10:E:=.upd sd9 (.lit 1) (.lit 0)
def sd11:E:=.upd sd10 (.lit 2) (.lit 0)
def sd12:E:=.upd sd11 (.lit 3) (.lit 0)
def sd13:E:=.upd sd12 (.lit 4) (.lit 0)
def sd14:E:=.mod (.v 0) (.lit 256)
def sd15:E:=.upd sd13 (.lit 5) sd14
def sd16:E:=.div (.v 0) (.lit 256)
def sd17:E:=.upd sd15 (.lit 6) sd16
def sd18:E:=.mod (.v 1) (.lit 256)
def sd19:E:=.upd sd17 (.lit 7) sd18
def sd20:E:=.div (.v 1) (.lit 256)
def sd21:E:=.upd sd19 (.lit 8) sd20
def sd22:E:=.mod (.v 2) (.lit 256)
def sd23:E:=.upd sd21 (.lit 9) sd22
def sd24:E:=.div (.v 2) (.lit 256)
def sd25:E:=.upd sd23 (.lit 10) sd24
def sd26:E:=.mod (.v 3) (.lit 256)
def sd27:E:=.upd sd25 (.lit 11) sd26
def sd28:E:=.div (.v 3) (.lit 256)
def sd29:E:=.upd sd27 (.lit 12) sd28
def sd30:E:=.mod (.v 4) (.lit 256)
def sd31:E:=.upd sd29 (.lit 13) sd30
def sd32:E:=.div (.v 4) (.lit 256)
def sd33:E:=.upd sd31 (.lit 14) sd32
def sd34:E:=.upd sd33 (.lit 15) (.v 5)
def sd35:E:=.upd sd34 (.lit 16) (.lit 0)
def sd36:E:=.mod (.v 6) (.lit 256)
def sd37:E:=.upd sd35 (.lit 17) sd36
def sd38:E:=.div (.v 6) (.lit 256)
def sd39:E:=.upd sd37 (.lit 18) sd38
def sd40:E:=.mod (.v 7) (.lit 256)
def sd41:E:=.upd sd39 (.lit 19) sd40
def sd42:E:=.div (.v 7) (.lit 256)
def sd43:E:=.upd sd41 (.lit 20) sd42
def sd44:E:=.mod (.v 8) (.lit 256)
def sd45:E:=.upd sd43 (.lit 21) sd44
def sd46:E:=.div (.v 8) (.lit 256)
def sd47:E:=.upd sd45 (.lit 22) sd46
def sd48:E:=.mod (.v 11) (.lit 256)
def sd49:E:=.upd sd47 (.lit 23) sd48
def sd50:E:=.div (.v 11) (.lit 256)
def sd51:E:=.upd sd49 (.lit 24) sd50
def sd52:E:=.mod (.v 12) (.lit 256)
def sd53:E:=.upd sd51 (.lit 25) sd52
def sd54:E:=.div (.v 12) (.lit 256)
def sd55:E:=.upd sd53 (.lit 26) sd54
def sd56:E:=.upd sd55 (.lit 27) (.v 13)
def sd57:E:=.upd sd56 (.lit 28) (.v 14)
def sd58:E:=.upd sd57 (.lit 29) (.v 15)
def sd59:E:=.sel (.av 1) (.lit 0)
def sd60:E:=.mod sd59 (.lit 256)
def sd61:E:=.upd sd58 (.lit 30) sd60
def sd62:E:=.div sd59 (.lit 256)
def sd63:E:=.upd sd61 (.lit 31) sd62
def sd64:E:=.sel (.av 1) (.lit 1)
def sd65:E:=.mod sd64 (.lit 256)
def sd66:E:=.upd sd63 (.lit 32) sd65
def sd67:E:=.div sd64 (.lit 256)
def sd68:E:=.upd sd66 (.lit 33) sd67
def sd69:E:=.sel (.av 1) (.lit 2)
def sd70:E:=.mod sd69 (.lit 256)
def sd71:E:=.upd sd68 (.lit 34) sd70
def sd72:E:=.div sd69 (.lit 256)
def sd73:E:=.upd sd71 (.lit 35) sd72
def sd74:E:=.sel (.av 1) (.lit 3)
def sd75:E:=.mod sd74 (.lit 256)
def sd76:E:=.upd sd73 (.lit 36) sd75
def sd77:E:=.div sd74 (.lit 256)
def sd78:E:=.upd sd76 (.lit 37) sd77
def sd79:E:=.blt (.tab []) (.lit 0) (.lit 38) sd78 (.lit 0)
def sd80:E:=.upd (.tab []) (.lit 0) (.lit 0)
def sd81:E:=.upd sd80 (.lit 1) (.lit 2)
def sd82:E:=.upd sd81 (.lit 2) (.lit 0)
def sd83:E:=.upd sd82 (.lit 3) (.lit 0)
def sd84:E:=.app 50 (.cons (.av 2) .nil)
def sd85:E:=.blt sd83 (.lit 4) (.lit 512) sd84 (.lit 0)
def sd86:E:=.blt sd79 (.lit 38) (.lit 516) sd85 (.lit 0)
def sd87:E:=.upd sd86 (.lit 1) (.lit 37)
def sd88:E:=.upd sd87 (.lit 2) (.lit 2)
def sd89:E:=.upd sd88 (.lit 3) (.lit 0)
def sd90:E:=.upd sd89 (.lit 4) (.lit 0)
def bID:E:=.app 10 (.cons (.lit 554) (.cons sd90 .nil))
def sd92:E:=.mod bID (.lit 256)
def sd93:E:=.upd sd8 (.lit 9) sd92
def sd94:E:=.div bID (.lit 256)
def sd95:E:=.mod sd94 (.lit 256)
def sd96:E:=.upd sd93 (.lit 10) sd95
def sd97:E:=.div bID (.lit 65536)
def sd98:E:=.mod sd97 (.lit 256)
def sd99:E:=.upd sd96 (.lit 11) sd98
def sd100:E:=.div bID (.lit 16777216)
def sd101:E:=.upd sd99 (.lit 12) sd100
def sd102:E:=.blt sd101 (.lit 13) (.lit 554) sd90 (.lit 0)
def sdO:Mem:=[⟨5,[.run .u8 (.lit 8192) (.av 0) 0],true,some 1,false⟩,⟨81,[.one (.int .u16 (.v 0)),.one (.int .u16 (.v 1)),.one (.int .u16 (.v 2)),.one (.int .u16 (.v 3)),.one (.int .u16 (.v 4)),.one (.int .u16 (.v 5)),.one (.int .u16 (.v 6)),.one (.int .u16 (.v 7)),.one (.int .u16 (.v 8)),.one (.int .u16 (.v 9)),.one (.int .u16 (.v 10)),.one (.int .u16 (.v 11)),.one (.int .u16 (.v 12)),.one (.int .u8 (.v 13)),.one (.int .u8 (.v 14)),.one (.int .u8 (.v 15)),.run .u16 (.lit 4) (.av 1) 0,.run .u16 (.lit 256) (.av 2) 0,.one (.slc 0 (.lit 0) (.lit 8192) (.op (.lit 0)))],true,none,false⟩,⟨5,[.run .u8 (.lit 567) sd102 0],true,some 1,false⟩]
def sdS:Go.Sx.Spec:=fC (fK 16 0 3 sdL sdM) sdH sdL sdM [] (.s (.slc 2 (.lit 0) (.lit 567) (.op (.lit 0)))) (some sdO)
set_option maxHeartbeats 4000000 in
theorem sdrun:enter Try.prog SY SYh 3000 60 21 sdH sdL sdM=some ([],.s (.slc 2 (.lit 0) (.lit 567) (.op (.lit 0))),some sdO):=by kernel_rfl
theorem sdok (xs:Nat→Nat→Ext):aX Try.prog (Iv xs) 21 sdS:=gG (bS (SY_ok xs) (by kernel_rfl) 3000 60) sdrun
noncomputable def SR:Ctx:=aHE Try.prog [] (ctx [(32,bAq 5),(27,fG 5),(33,dV 5)]) 3000 60 14
noncomputable def SRh:aV:=aCv Try.prog [] (ctx [(32,bAq 5),(27,fG 5),(33,dV 5)]) 3000 60 14
theorem SR_ok (I:Interp):cA Try.prog I SR:=nC (kP (fun p hp=>by
 simp only [List.mem_cons,List.not_mem_nil,or_false] at hp
 rcases hp with rfl | rfl | rfl
 ·exact aYS bOh
 ·exact iT bAa
 ·exact iD bAc)) (by kernel_rfl) 3000 60 14
set_option maxHeartbeats 4000000 in
theorem wrrun:enter Try.prog SR SRh 3000 60 15 ⟨[],[],[],[],[],[]⟩ [] []=some ([],.s (.bool (.blit true)),none):=by kernel_rfl
theorem wrok (I:Interp):aX Try.prog I 15 aDA:=aTl (fun I=>SR_ok I) (by kernel_rfl) wrrun
end Go.Proofs.Ytcckecfjjccffaa
