/- Contracts of the signal chip: half, what is saved. No condition. -/
import Derived.Test.YtcckecfjjccffaaSgx
import Derived.Test.YtcckecfjjccffaaMm
namespace Go.Proofs.Ytcckecfjjccffaa
open Go.Sx Go.ChangeShapes Go.WideShapes Go.ChangeAt Go.RowKit
set_option linter.unusedVariables false
set_option linter.unusedSimpArgs false
set_option maxRecDepth 100000
def hf0:E:=.div (.v 12) (.lit 1024)
def hf1:E:=.mod hf0 (.lit 2)
def hf2:E:=.eq hf1 (.lit 0)
def hf3:E:=.div (.v 12) (.lit 4096)
def hf4:E:=.mod hf3 (.lit 2)
def hf5:E:=.eq hf4 (.lit 0)
def hf6:E:=.ite hf5 (.lit 0) (.lit 8)
def hf7:E:=.ite hf2 hf6 (.lit 0)
def hf8:E:=.add (.v 12) (.lit 4096)
def hf9:E:=.div (.v 12) (.lit 8192)
def hf10:E:=.mod hf9 (.lit 4)
def hf11:E:=.mul hf10 (.lit 8192)
def hf12:E:=.mod (.v 12) (.lit 4096)
def hf13:E:=.add hf11 hf12
def hf14:E:=.ite hf5 hf8 hf13
def hf15:E:=.mod (.v 12) (.lit 32768)
def bMf:E:=.ite hf2 hf14 hf15
def hfW:E:=.mod bMf (.lit 65536)
def hfH:Hyp:=⟨[(.v 0,(0,65535)),(.v 1,(0,65535)),(.v 2,(0,65535)),(.v 3,(0,65535)),(.v 4,(0,65535)),(.v 5,(0,65535)),(.v 6,(0,65535)),(.v 7,(0,65535)),(.v 8,(0,65535)),(.v 9,(0,65535)),(.v 10,(0,65535)),(.v 11,(0,65535)),(.v 12,(0,65535)),(.v 13,(0,255)),(.v 14,(0,255)),(.v 15,(0,255))],[(0,(0,255)),(1,(0,65535)),(2,(0,65535))],[],[],[],[]⟩
def hfL:List SV:=[.s (.ptr 1 (.lit 0))]
def hfM:Mem:=[⟨5,[.run .u8 (.lit 8192) (.av 0) 0],true,some 1,false⟩,⟨81,[.one (.int .u16 (.v 0)),.one (.int .u16 (.v 1)),.one (.int .u16 (.v 2)),.one (.int .u16 (.v 3)),.one (.int .u16 (.v 4)),.one (.int .u16 (.v 5)),.one (.int .u16 (.v 6)),.one (.int .u16 (.v 7)),.one (.int .u16 (.v 8)),.one (.int .u16 (.v 9)),.one (.int .u16 (.v 10)),.one (.int .u16 (.v 11)),.one (.int .u16 (.v 12)),.one (.int .u8 (.v 13)),.one (.int .u8 (.v 14)),.one (.int .u8 (.v 15)),.run .u16 (.lit 4) (.av 1) 0,.run .u16 (.lit 256) (.av 2) 0,.one (.slc 0 (.lit 0) (.lit 8192) (.op (.lit 0)))],true,none,false⟩]
def hfO:Mem:=[⟨5,[.run .u8 (.lit 8192) (.av 0) 0],true,some 1,false⟩,⟨81,[.one (.int .u16 (.v 0)),.one (.int .u16 (.v 1)),.one (.int .u16 (.v 2)),.one (.int .u16 (.v 3)),.one (.int .u16 (.v 4)),.one (.int .u16 (.v 5)),.one (.int .u16 (.v 6)),.one (.int .u16 (.v 7)),.one (.int .u16 (.v 8)),.one (.int .u16 (.v 9)),.one (.int .u16 (.v 10)),.one (.int .u16 (.v 11)),.one (.int .u16 hfW),.one (.int .u8 (.v 13)),.one (.int .u8 (.v 14)),.one (.int .u8 (.v 15)),.run .u16 (.lit 4) (.av 1) 0,.run .u16 (.lit 256) (.av 2) 0,.one (.slc 0 (.lit 0) (.lit 8192) (.op (.lit 0)))],true,none,false⟩]
def hfS:Go.Sx.Spec:=gM (gV 16 0 3 hfL hfM) hfH hfL hfM [] (.s (.int .i64 hf7)) (some hfO)
def hfX:Mem:=[⟨5,[.run .u8 (.lit 8192) (.av 0) 0],true,some 1,false⟩,⟨81,[.one (.int .u16 (.v 0)),.one (.int .u16 (.v 1)),.one (.int .u16 (.v 2)),.one (.int .u16 (.v 3)),.one (.int .u16 (.v 4)),.one (.int .u16 (.v 5)),.one (.int .u16 (.v 6)),.one (.int .u16 (.v 7)),.one (.int .u16 (.v 8)),.one (.int .u16 (.v 9)),.one (.int .u16 (.v 10)),.one (.int .u16 (.v 11)),.one (.int .u16 bMf),.one (.int .u8 (.v 13)),.one (.int .u8 (.v 14)),.one (.int .u8 (.v 15)),.run .u16 (.lit 4) (.av 1) 0,.run .u16 (.lit 256) (.av 2) 0,.one (.slc 0 (.lit 0) (.lit 8192) (.op (.lit 0)))],true,none,false⟩]
theorem hfrun:enter Try.prog SG SGh 3000 40 38 hfH hfL hfM=some ([],.s (.int .i64 hf7),some hfX):=by kernel_rfl
set_option maxHeartbeats 4000000 in
theorem hfeq (xs:Nat→Nat→Ext) (ρ:Env) (hI:ρ.I=Iv xs) (hz:dY ρ 16 0 3) (hH:hfH.ok ρ) (hn:bG ρ []):bG ρ []∧VEq ρ ρ (.s (.int .i64 hf7)) (.s (.int .i64 hf7))∧aKy ρ (some hfX) (some hfO):=by
 have r0:=hH.e (.v 0,(0,65535)) (by simp [hfH])
 have r1:=hH.e (.v 1,(0,65535)) (by simp [hfH])
 have r2:=hH.e (.v 2,(0,65535)) (by simp [hfH])
 have r3:=hH.e (.v 3,(0,65535)) (by simp [hfH])
 have r4:=hH.e (.v 4,(0,65535)) (by simp [hfH])
 have r5:=hH.e (.v 5,(0,65535)) (by simp [hfH])
 have r6:=hH.e (.v 6,(0,65535)) (by simp [hfH])
 have r7:=hH.e (.v 7,(0,65535)) (by simp [hfH])
 have r8:=hH.e (.v 8,(0,65535)) (by simp [hfH])
 have r9:=hH.e (.v 9,(0,65535)) (by simp [hfH])
 have r10:=hH.e (.v 10,(0,65535)) (by simp [hfH])
 have r11:=hH.e (.v 11,(0,65535)) (by simp [hfH])
 have r12:=hH.e (.v 12,(0,65535)) (by simp [hfH])
 have r13:=hH.e (.v 13,(0,255)) (by simp [hfH])
 have r14:=hH.e (.v 14,(0,255)) (by simp [hfH])
 have r15:=hH.e (.v 15,(0,255)) (by simp [hfH])
 have R0:=fun j=>hH.a (0,(0,255)) (by simp [hfH]) j
 have R1:=fun j=>hH.a (1,(0,65535)) (by simp [hfH]) j
 have R2:=fun j=>hH.a (2,(0,65535)) (by simp [hfH]) j
 simp only [inR,i_v] at r0 r1 r2 r3 r4 r5 r6 r7 r8 r9 r10 r11 r12 r13 r14 r15 R0 R1 R2
 refine ⟨hn,?_⟩
 have hw:E.i ρ bMf=E.i ρ hfW:=by
  simp only [hf0,hf1,hf2,hf3,hf4,hf5,hf6,hf7,hf8,hf9,hf10,hf11,hf12,hf13,hf14,hf15,bMf,hfW,sgm,sgn]
  generalize ρ.i.getD 12 0=s at *
  repeat' split
  all_goals omega
 refine ⟨?_,?_⟩
 all_goals repeat' (first | with_reducible exact hw | with_reducible rfl | exact trivial | exact fun _ _=>rfl | refine And.intro ?_ ?_ | refine Or.inr ?_ | exact rfl)
theorem hfok (xs:Nat→Nat→Ext):bD Try.prog (Iv xs) 38 hfS:=jJ (xI (iL.of (bW (yP xs) (by kernel_rfl) 3000 40)) hfrun rfl rfl (hfeq xs)) (iD _ _ _ _ _ _)
noncomputable def SW:Ctx:=aKn Try.prog [] (ctx [(44,dK),(46,dK),(27,gD 5),(33,eR 5),(20,gH)]) 3000 40 12
noncomputable def SWh:aZ:=aFg Try.prog [] (ctx [(44,dK),(46,dK),(27,gD 5),(33,eR 5),(20,gH)]) 3000 40 12
theorem tW (xs:Nat→Nat→Ext):cF Try.prog (Iv xs) SW:=nK (pI (fun p hp=>by
 simp only [List.mem_cons,List.not_mem_nil,or_false] at hp
 rcases hp with rfl | rfl | rfl | rfl | rfl
 ·exact fR bLn rfl
 ·exact fR bLm rfl
 ·exact kV bHa
 ·exact jO bHh
 ·exact lV bLh
 )) (by kernel_rfl) 3000 40 12
def wbH:Hyp:=⟨[(.v 0,(1,4000000)),(.v 3,(0,0)),(.v 1,(0,255))],[(0,(0,255)),(1,(-9223372036854775808,9223372036854775807))],[(10,(0,4294967295))],[],[],[]⟩
def wbL:List SV:=[.s (.ptr 0 (.lit 0)),.s (.int .u8 (.v 1))]
def wbM:Mem:=[⟨119,[.one (.slc 1 (.lit 0) (.v 0) (.op (.lit 0))),.run .i64 (.lit 16) (.av 1) 0,.one (.int .i64 (.v 2)),.one (.int .i64 (.v 3))],true,none,false⟩,⟨5,[.run .u8 (.v 0) (.av 0) 0],true,some 1,false⟩]
def wb0:E:=.add (.v 0) (.lit 1)
def wb1:E:=.upd (.av 0) (.v 0) (.v 1)
def wbO:Mem:=[⟨119,[.one (.slc 2 (.lit 0) wb0 (.op (.lit 0))),.run .i64 (.lit 16) (.av 1) 0,.one (.int .i64 (.v 2)),.one (.int .i64 (.v 3))],true,none,false⟩,⟨5,[.run .u8 (.v 0) (.av 0) 0],true,some 1,true⟩,⟨5,[.run .u8 wb0 wb1 0],true,some 1,false⟩]
def wbS:Go.Sx.Spec:=gM (gV 4 0 2 wbL wbM) wbH wbL wbM [] (.tup []) (some wbO)
set_option maxHeartbeats 4000000 in
theorem wbrun:enter Try.prog SW SWh 3000 40 58 wbH wbL wbM=some ([],.tup [],some wbO):=by kernel_rfl
theorem wbok (xs:Nat→Nat→Ext):bD Try.prog (Iv xs) 58 wbS:=gC (bW (tW xs) (by kernel_rfl) 3000 40) wbrun
def wwH:Hyp:=⟨[(.v 0,(1,4000000)),(.v 3,(0,0)),(.v 1,(0,65535))],[(0,(0,255)),(1,(-9223372036854775808,9223372036854775807))],[(10,(0,4294967295))],[],[],[]⟩
def wwL:List SV:=[.s (.ptr 0 (.lit 0)),.s (.int .u16 (.v 1))]
def wwM:Mem:=[⟨119,[.one (.slc 1 (.lit 0) (.v 0) (.op (.lit 0))),.run .i64 (.lit 16) (.av 1) 0,.one (.int .i64 (.v 2)),.one (.int .i64 (.v 3))],true,none,false⟩,⟨5,[.run .u8 (.v 0) (.av 0) 0],true,some 1,false⟩]
def ww0:E:=.add (.v 0) (.lit 2)
def ww1:E:=.mod (.v 1) (.lit 256)
def ww2:E:=.upd (.av 0) (.v 0) ww1
def ww3:E:=.add (.v 0) (.lit 1)
def ww4:E:=.div (.v 1) (.lit 256)
def ww5:E:=.upd ww2 ww3 ww4
def wwO:Mem:=[⟨119,[.one (.slc 2 (.lit 0) ww0 (.op (.lit 0))),.run .i64 (.lit 16) (.av 1) 0,.one (.int .i64 (.v 2)),.one (.int .i64 (.v 3))],true,none,false⟩,⟨5,[.run .u8 (.v 0) (.av 0) 0],true,some 1,true⟩,⟨5,[.run .u8 ww0 ww5 0],true,some 1,false⟩]
def wwS:Go.Sx.Spec:=gM (gV 4 0 2 wwL wwM) wwH wwL wwM [] (.tup []) (some wwO)
set_option maxHeartbeats 4000000 in
theorem wwrun:enter Try.prog SW SWh 3000 40 57 wwH wwL wwM=some ([],.tup [],some wwO):=by kernel_rfl
theorem wwok (xs:Nat→Nat→Ext):bD Try.prog (Iv xs) 57 wwS:=gC (bW (tW xs) (by kernel_rfl) 3000 40) wwrun
def wyH:Hyp:=⟨[(.v 0,(1,4000000)),(.v 3,(0,0)),(.v 2,(0,1048575))],[(0,(0,255)),(1,(-9223372036854775808,9223372036854775807)),(2,(0,255))],[(10,(0,4294967295))],[],[],[]⟩
def wyL:List SV:=[.s (.ptr 0 (.lit 0)),.s (.slc 2 (.lit 0) (.v 2) (.kn (.v 2)))]
def wyM:Mem:=[⟨119,[.one (.slc 1 (.lit 0) (.v 0) (.op (.lit 0))),.run .i64 (.lit 16) (.av 1) 0,.one (.int .i64 (.v 1)),.one (.int .i64 (.v 3))],true,none,false⟩,⟨5,[.run .u8 (.v 0) (.av 0) 0],true,some 1,false⟩,⟨5,[.run .u8 (.v 2) (.av 2) 0],true,none,false⟩]
def wy0:E:=.add (.v 0) (.v 2)
def wy1:E:=.add wy0 (.lit 4)
def wy2:E:=.add (.v 2) (.lit 4)
def wy3:E:=.mod (.v 2) (.lit 256)
def wy4:E:=.upd (.tab []) (.lit 0) wy3
def wy5:E:=.div (.v 2) (.lit 256)
def wy6:E:=.mod wy5 (.lit 256)
def wy7:E:=.upd wy4 (.lit 1) wy6
def wy8:E:=.div (.v 2) (.lit 65536)
def wy9:E:=.upd wy7 (.lit 2) wy8
def wy10:E:=.upd wy9 (.lit 3) (.lit 0)
def wy11:E:=.blt wy10 (.lit 4) (.v 2) (.av 2) (.lit 0)
def wy12:E:=.blt (.av 0) (.v 0) wy2 wy11 (.lit 0)
def wyO:Mem:=[⟨119,[.one (.slc 3 (.lit 0) wy1 (.op (.lit 0))),.run .i64 (.lit 16) (.av 1) 0,.one (.int .i64 (.v 1)),.one (.int .i64 (.v 3))],true,none,false⟩,⟨5,[.run .u8 (.v 0) (.av 0) 0],true,some 1,true⟩,⟨5,[.run .u8 (.v 2) (.av 2) 0],true,none,false⟩,⟨5,[.run .u8 wy1 wy12 0],true,some 1,false⟩]
def wyS:Go.Sx.Spec:=gM (gV 4 0 3 wyL wyM) wyH wyL wyM [] (.tup []) (some wyO)
set_option maxHeartbeats 4000000 in
theorem wyrun:enter Try.prog SW SWh 3000 40 59 wyH wyL wyM=some ([],.tup [],some wyO):=by kernel_rfl
theorem wyok (xs:Nat→Nat→Ext):bD Try.prog (Iv xs) 59 wyS:=gC (bW (tW xs) (by kernel_rfl) 3000 40) wyrun
def wgH:Hyp:=⟨[(.v 0,(1,4000000)),(.v 3,(0,0)),(.v 2,(0,1048575))],[(0,(0,255)),(1,(-9223372036854775808,9223372036854775807)),(2,(0,255))],[(10,(0,4294967295))],[],[],[]⟩
def wgL:List SV:=[.s (.ptr 0 (.lit 0)),.s (.slc 2 (.lit 0) (.v 2) (.op (.lit 0)))]
def wgM:Mem:=[⟨119,[.one (.slc 1 (.lit 0) (.v 0) (.op (.lit 0))),.run .i64 (.lit 16) (.av 1) 0,.one (.int .i64 (.v 1)),.one (.int .i64 (.v 3))],true,none,false⟩,⟨5,[.run .u8 (.v 0) (.av 0) 0],true,some 1,false⟩,⟨5,[.run .u8 (.v 2) (.av 2) 0],true,some 1,false⟩]
def wg0:E:=.add (.v 0) (.v 2)
def wg1:E:=.add wg0 (.lit 4)
def wg2:E:=.add (.v 2) (.lit 4)
def wg3:E:=.mod (.v 2) (.lit 256)
def wg4:E:=.upd (.tab []) (.lit 0) wg3
def wg5:E:=.div (.v 2) (.lit 256)
def wg6:E:=.mod wg5 (.lit 256)
def wg7:E:=.upd wg4 (.lit 1) wg6
def wg8:E:=.div (.v 2) (.lit 65536)
def wg9:E:=.upd wg7 (.lit 2) wg8
def wg10:E:=.upd wg9 (.lit 3) (.lit 0)
def wg11:E:=.blt wg10 (.lit 4) (.v 2) (.av 2) (.lit 0)
def wg12:E:=.blt (.av 0) (.v 0) wg2 wg11 (.lit 0)
def wgO:Mem:=[⟨119,[.one (.slc 3 (.lit 0) wg1 (.op (.lit 0))),.run .i64 (.lit 16) (.av 1) 0,.one (.int .i64 (.v 1)),.one (.int .i64 (.v 3))],true,none,false⟩,⟨5,[.run .u8 (.v 0) (.av 0) 0],true,some 1,true⟩,⟨5,[.run .u8 (.v 2) (.av 2) 0],true,some 1,false⟩,⟨5,[.run .u8 wg1 wg12 0],true,some 1,false⟩]
def wgS:Go.Sx.Spec:=gM (gV 4 0 3 wgL wgM) wgH wgL wgM [] (.tup []) (some wgO)
set_option maxHeartbeats 4000000 in
theorem wgrun:enter Try.prog SW SWh 3000 40 59 wgH wgL wgM=some ([],.tup [],some wgO):=by kernel_rfl
theorem wgok (xs:Nat→Nat→Ext):bD Try.prog (Iv xs) 59 wgS:=gC (bW (tW xs) (by kernel_rfl) 3000 40) wgrun
def woH:Hyp:=⟨[(.v 0,(1,4000000)),(.v 3,(0,0)),(.v 1,(0,255)),(.v 2,(0,15))],[(0,(0,255)),(1,(-9223372036854775808,9223372036854775807))],[(10,(0,4294967295))],[],[],[]⟩
def woL:List SV:=[.s (.ptr 0 (.lit 0)),.s (.int .u8 (.v 1))]
def woM:Mem:=[⟨119,[.one (.slc 1 (.lit 0) (.v 0) (.op (.lit 0))),.run .i64 (.lit 16) (.av 1) 0,.one (.int .i64 (.v 2)),.one (.int .i64 (.v 3))],true,none,false⟩,⟨5,[.run .u8 (.v 0) (.av 0) 0],true,some 1,false⟩]
def wo0:E:=.add (.v 0) (.lit 5)
def wo1:E:=.upd (.av 1) (.v 2) wo0
def wo2:E:=.add (.v 2) (.lit 1)
def wo3:E:=.upd (.av 0) (.v 0) (.v 1)
def wo4:E:=.add (.v 0) (.lit 1)
def wo5:E:=.upd wo3 wo4 (.lit 0)
def wo6:E:=.add (.v 0) (.lit 2)
def wo7:E:=.upd wo5 wo6 (.lit 0)
def wo8:E:=.add (.v 0) (.lit 3)
def wo9:E:=.upd wo7 wo8 (.lit 0)
def wo10:E:=.add (.v 0) (.lit 4)
def wo11:E:=.upd wo9 wo10 (.lit 0)
def woO:Mem:=[⟨119,[.one (.slc 2 (.lit 0) wo0 (.op (.lit 0))),.run .i64 (.lit 16) wo1 0,.one (.int .i64 wo2),.one (.int .i64 (.v 3))],true,none,false⟩,⟨5,[.run .u8 (.v 0) (.av 0) 0],true,some 1,true⟩,⟨5,[.run .u8 wo0 wo11 0],true,some 1,false⟩]
def woS:Go.Sx.Spec:=gM (gV 4 0 2 woL woM) woH woL woM [] (.tup []) (some woO)
set_option maxHeartbeats 4000000 in
theorem worun:enter Try.prog SW SWh 3000 40 55 woH woL woM=some ([],.tup [],some woO):=by kernel_rfl
theorem wook (xs:Nat→Nat→Ext):bD Try.prog (Iv xs) 55 woS:=gC (bW (tW xs) (by kernel_rfl) 3000 40) worun
def zbH:Hyp:=⟨[(.v 1,(0,0)),(.v 0,(0,255))],[(0,(-9223372036854775808,9223372036854775807))],[(10,(0,4294967295))],[],[],[]⟩
def zbL:List SV:=[.s (.ptr 0 (.lit 0)),.s (.int .u8 (.v 0))]
def zbM:Mem:=[⟨119,[.one .nilSlc,.run .i64 (.lit 16) (.av 0) 0,.one (.int .i64 (.lit 0)),.one (.int .i64 (.v 1))],true,none,false⟩]
def zbO:Mem:=[⟨119,[.one (.slc 1 (.lit 0) (.lit 1) (.op (.lit 0))),.run .i64 (.lit 16) (.av 0) 0,.one (.int .i64 (.lit 0)),.one (.int .i64 (.v 1))],true,none,false⟩,⟨5,[.one (.int .u8 (.v 0))],true,some 1,false⟩]
def zbS:Go.Sx.Spec:=gM (gV 2 0 1 zbL zbM) zbH zbL zbM [] (.tup []) (some zbO)
set_option maxHeartbeats 4000000 in
theorem zbrun:enter Try.prog SW SWh 3000 40 58 zbH zbL zbM=some ([],.tup [],some zbO):=by kernel_rfl
theorem zbok (xs:Nat→Nat→Ext):bD Try.prog (Iv xs) 58 zbS:=gC (bW (tW xs) (by kernel_rfl) 3000 40) zbrun
def zwH:Hyp:=⟨[(.v 1,(0,0)),(.v 0,(0,65535))],[(0,(-9223372036854775808,9223372036854775807))],[(10,(0,4294967295))],[],[],[]⟩
def zwL:List SV:=[.s (.ptr 0 (.lit 0)),.s (.int .u16 (.v 0))]
def zwM:Mem:=[⟨119,[.one .nilSlc,.run .i64 (.lit 16) (.av 0) 0,.one (.int .i64 (.lit 0)),.one (.int .i64 (.v 1))],true,none,false⟩]
def zw0:E:=.mod (.v 0) (.lit 256)
def zw1:E:=.div (.v 0) (.lit 256)
def zwO:Mem:=[⟨119,[.one (.slc 1 (.lit 0) (.lit 2) (.op (.lit 0))),.run .i64 (.lit 16) (.av 0) 0,.one (.int .i64 (.lit 0)),.one (.int .i64 (.v 1))],true,none,false⟩,⟨5,[.one (.int .u8 zw0),.one (.int .u8 zw1)],true,some 1,false⟩]
def zwS:Go.Sx.Spec:=gM (gV 2 0 1 zwL zwM) zwH zwL zwM [] (.tup []) (some zwO)
set_option maxHeartbeats 4000000 in
theorem zwrun:enter Try.prog SW SWh 3000 40 57 zwH zwL zwM=some ([],.tup [],some zwO):=by kernel_rfl
theorem zwok (xs:Nat→Nat→Ext):bD Try.prog (Iv xs) 57 zwS:=gC (bW (tW xs) (by kernel_rfl) 3000 40) zwrun
def zyH:Hyp:=⟨[(.v 1,(0,0)),(.v 0,(0,1048575))],[(0,(-9223372036854775808,9223372036854775807)),(1,(0,255))],[(10,(0,4294967295))],[],[],[]⟩
def zyL:List SV:=[.s (.ptr 0 (.lit 0)),.s (.slc 1 (.lit 0) (.v 0) (.kn (.v 0)))]
def zyM:Mem:=[⟨119,[.one .nilSlc,.run .i64 (.lit 16) (.av 0) 0,.one (.int .i64 (.lit 0)),.one (.int .i64 (.v 1))],true,none,false⟩,⟨5,[.run .u8 (.v 0) (.av 1) 0],true,none,false⟩]
def zy0:E:=.add (.v 0) (.lit 4)
def zy1:E:=.mod (.v 0) (.lit 256)
def zy2:E:=.upd (.tab []) (.lit 0) zy1
def zy3:E:=.div (.v 0) (.lit 256)
def zy4:E:=.mod zy3 (.lit 256)
def zy5:E:=.upd zy2 (.lit 1) zy4
def zy6:E:=.div (.v 0) (.lit 65536)
def zy7:E:=.upd zy5 (.lit 2) zy6
def zy8:E:=.upd zy7 (.lit 3) (.lit 0)
def zy9:E:=.blt zy8 (.lit 4) (.v 0) (.av 1) (.lit 0)
def zyO:Mem:=[⟨119,[.one (.slc 2 (.lit 0) zy0 (.op (.lit 0))),.run .i64 (.lit 16) (.av 0) 0,.one (.int .i64 (.lit 0)),.one (.int .i64 (.v 1))],true,none,false⟩,⟨5,[.run .u8 (.v 0) (.av 1) 0],true,none,false⟩,⟨5,[.run .u8 zy0 zy9 0],true,some 1,false⟩]
def zyS:Go.Sx.Spec:=gM (gV 2 0 2 zyL zyM) zyH zyL zyM [] (.tup []) (some zyO)
set_option maxHeartbeats 4000000 in
theorem zyrun:enter Try.prog SW SWh 3000 40 59 zyH zyL zyM=some ([],.tup [],some zyO):=by kernel_rfl
theorem zyok (xs:Nat→Nat→Ext):bD Try.prog (Iv xs) 59 zyS:=gC (bW (tW xs) (by kernel_rfl) 3000 40) zyrun
def zoH:Hyp:=⟨[(.v 1,(0,0)),(.v 0,(0,255))],[(0,(-9223372036854775808,9223372036854775807))],[(10,(0,4294967295))],[],[],[]⟩
def zoL:List SV:=[.s (.ptr 0 (.lit 0)),.s (.int .u8 (.v 0))]
def zoM:Mem:=[⟨119,[.one .nilSlc,.run .i64 (.lit 16) (.av 0) 0,.one (.int .i64 (.lit 0)),.one (.int .i64 (.v 1))],true,none,false⟩]
def zo0:E:=.upd (.av 0) (.lit 0) (.lit 5)
def zoO:Mem:=[⟨119,[.one (.slc 1 (.lit 0) (.lit 5) (.op (.lit 0))),.run .i64 (.lit 16) zo0 0,.one (.int .i64 (.lit 1)),.one (.int .i64 (.v 1))],true,none,false⟩,⟨5,[.one (.int .u8 (.v 0)),.one (.int .u8 (.lit 0)),.one (.int .u8 (.lit 0)),.one (.int .u8 (.lit 0)),.one (.int .u8 (.lit 0))],true,some 1,false⟩]
def zoS:Go.Sx.Spec:=gM (gV 2 0 1 zoL zoM) zoH zoL zoM [] (.tup []) (some zoO)
set_option maxHeartbeats 4000000 in
theorem zorun:enter Try.prog SW SWh 3000 40 55 zoH zoL zoM=some ([],.tup [],some zoO):=by kernel_rfl
theorem zook (xs:Nat→Nat→Ext):bD Try.prog (Iv xs) 55 zoS:=gC (bW (tW xs) (by kernel_rfl) 3000 40) zorun
def dnH:Hyp:=⟨[(.v 0,(1,4000000)),(.v 1,(0,0)),(.v 2,(0,0))],[(0,(0,255)),(1,(-9223372036854775808,9223372036854775807))],[(10,(0,4294967295))],[],[],[]⟩
def dnL:List SV:=[.s (.ptr 0 (.lit 0))]
def dnM:Mem:=[⟨119,[.one (.slc 1 (.lit 0) (.v 0) (.op (.lit 0))),.run .i64 (.lit 16) (.av 1) 0,.one (.int .i64 (.v 1)),.one (.int .i64 (.v 2))],true,none,false⟩,⟨5,[.run .u8 (.v 0) (.av 0) 0],true,some 1,false⟩]
def dn0:E:=.add (.v 0) (.lit 13)
def dn1:E:=.upd (.tab []) (.lit 0) (.lit 76)
def dn2:E:=.upd dn1 (.lit 1) (.lit 65)
def dn3:E:=.upd dn2 (.lit 2) (.lit 78)
def dn4:E:=.upd dn3 (.lit 3) (.lit 84)
def dn5:E:=.upd dn4 (.lit 4) (.lit 1)
def dn6:E:=.mod (.v 0) (.lit 256)
def dn7:E:=.upd dn5 (.lit 5) dn6
def dn8:E:=.div (.v 0) (.lit 256)
def dn9:E:=.mod dn8 (.lit 256)
def dn10:E:=.upd dn7 (.lit 6) dn9
def dn11:E:=.div (.v 0) (.lit 65536)
def dn12:E:=.upd dn10 (.lit 7) dn11
def dn13:E:=.upd dn12 (.lit 8) (.lit 0)
def bLM:E:=.app 10 (.cons (.v 0) (.cons (.av 0) .nil))
def dn15:E:=.mod bLM (.lit 256)
def dn16:E:=.upd dn13 (.lit 9) dn15
def dn17:E:=.div bLM (.lit 256)
def dn18:E:=.mod dn17 (.lit 256)
def dn19:E:=.upd dn16 (.lit 10) dn18
def dn20:E:=.div bLM (.lit 65536)
def dn21:E:=.mod dn20 (.lit 256)
def dn22:E:=.upd dn19 (.lit 11) dn21
def dn23:E:=.div bLM (.lit 16777216)
def dn24:E:=.upd dn22 (.lit 12) dn23
def dn25:E:=.blt dn24 (.lit 13) (.v 0) (.av 0) (.lit 0)
def dnO:Mem:=[⟨119,[.one (.slc 1 (.lit 0) (.v 0) (.op (.lit 0))),.run .i64 (.lit 16) (.av 1) 0,.one (.int .i64 (.v 1)),.one (.int .i64 (.v 2))],true,none,false⟩,⟨5,[.run .u8 (.v 0) (.av 0) 0],true,some 1,false⟩,⟨5,[.run .u8 dn0 dn25 0],true,some 1,false⟩]
def dnS:Go.Sx.Spec:=gM (gV 3 0 2 dnL dnM) dnH dnL dnM [] (.tup [(false,[.one (.slc 2 (.lit 0) dn0 (.op (.lit 0)))]),(false,[.one (.int .i64 (.lit 0))])]) (some dnO)
set_option maxHeartbeats 4000000 in
theorem dnrun:enter Try.prog SW SWh 3000 40 41 dnH dnL dnM=some ([],.tup [(false,[.one (.slc 2 (.lit 0) dn0 (.op (.lit 0)))]),(false,[.one (.int .i64 (.lit 0))])],some dnO):=by kernel_rfl
theorem dnok (xs:Nat→Nat→Ext):bD Try.prog (Iv xs) 41 dnS:=gC (bW (tW xs) (by kernel_rfl) 3000 40) dnrun
noncomputable def SQ:Ctx:=inl Try.prog (ctx [(44,dK),(46,dK),(27,gD 5),(33,eR 5),(20,gH),(58,orS wbS (zbS)),(57,orS wwS (zwS)),(59,orS wyS (orS wgS (zyS))),(55,orS woS (zoS)),(41,dnS)]) 3000 60 14
noncomputable def SQh:aZ:=inlH Try.prog (ctx [(44,dK),(46,dK),(27,gD 5),(33,eR 5),(20,gH),(58,orS wbS (zbS)),(57,orS wwS (zwS)),(59,orS wyS (orS wgS (zyS))),(55,orS woS (zoS)),(41,dnS)]) 3000 60 14
theorem SQ_ok (xs:Nat→Nat→Ext):cF Try.prog (Iv xs) SQ:=aYG (pI (fun p hp=>by
 simp only [List.mem_cons,List.not_mem_nil,or_false] at hp
 rcases hp with rfl | rfl | rfl | rfl | rfl | rfl | rfl | rfl | rfl | rfl
 ·exact fR bLn rfl
 ·exact fR bLm rfl
 ·exact kV bHa
 ·exact jO bHh
 ·exact lV bLh
 ·exact kF (wbok xs) (zbok xs)
 ·exact kF (wwok xs) (zwok xs)
 ·exact kF (wyok xs) (kF (wgok xs) (zyok xs))
 ·exact kF (wook xs) (zook xs)
 ·exact dnok xs
 )) (by kernel_rfl) 3000 60 14
def tv0:E:=.upd (.av 3) (.lit 0) (.lit 5)
def tv1:E:=.upd (.tab []) (.lit 0) (.lit 28)
def tv2:E:=.upd tv1 (.lit 1) (.lit 0)
def tv3:E:=.upd tv2 (.lit 2) (.lit 0)
def tv4:E:=.upd tv3 (.lit 3) (.lit 0)
def tv5:E:=.upd tv4 (.lit 4) (.lit 0)
def tv6:E:=.mod (.v 0) (.lit 256)
def tv7:E:=.upd tv5 (.lit 5) tv6
def tv8:E:=.div (.v 0) (.lit 256)
def tv9:E:=.upd tv7 (.lit 6) tv8
def tv10:E:=.mod (.v 1) (.lit 256)
def tv11:E:=.upd tv9 (.lit 7) tv10
def tv12:E:=.div (.v 1) (.lit 256)
def tv13:E:=.upd tv11 (.lit 8) tv12
def tv14:E:=.mod (.v 2) (.lit 256)
def tv15:E:=.upd tv13 (.lit 9) tv14
def tv16:E:=.div (.v 2) (.lit 256)
def tv17:E:=.upd tv15 (.lit 10) tv16
def tv18:E:=.mod (.v 3) (.lit 256)
def tv19:E:=.upd tv17 (.lit 11) tv18
def tv20:E:=.div (.v 3) (.lit 256)
def tv21:E:=.upd tv19 (.lit 12) tv20
def tv22:E:=.mod (.v 4) (.lit 256)
def tv23:E:=.upd tv21 (.lit 13) tv22
def tv24:E:=.div (.v 4) (.lit 256)
def tv25:E:=.upd tv23 (.lit 14) tv24
def tv26:E:=.upd tv25 (.lit 15) (.v 5)
def tv27:E:=.upd tv26 (.lit 16) (.lit 0)
def tv28:E:=.mod (.v 6) (.lit 256)
def tv29:E:=.upd tv27 (.lit 17) tv28
def tv30:E:=.div (.v 6) (.lit 256)
def tv31:E:=.upd tv29 (.lit 18) tv30
def tv32:E:=.mod (.v 7) (.lit 256)
def tv33:E:=.upd tv31 (.lit 19) tv32
def tv34:E:=.div (.v 7) (.lit 256)
def tv35:E:=.upd tv33 (.lit 20) tv34
def tv36:E:=.mod (.v 8) (.lit 256)
def tv37:E:=.upd tv35 (.lit 21) tv36
def tv38:E:=.div (.v 8) (.lit 256)
def tv39:E:=.upd tv37 (.lit 22) tv38
def tv40:E:=.mod (.v 11) (.lit 256)
def tv41:E:=.upd tv39 (.lit 23) tv40
def tv42:E:=.div (.v 11) (.lit 256)
def tv43:E:=.upd tv41 (.lit 24) tv42
def tv44:E:=.mod (.v 12) (.lit 256)
def tv45:E:=.upd tv43 (.lit 25) tv44
def tv46:E:=.div (.v 12) (.lit 256)
def tv47:E:=.upd tv45 (.lit 26) tv46
def tv48:E:=.upd tv47 (.lit 27) (.v 13)
def tv49:E:=.upd tv48 (.lit 28) (.v 14)
def tv50:E:=.upd tv49 (.lit 29) (.v 15)
def tv51:E:=.sel (.av 1) (.lit 0)
def tv52:E:=.mod tv51 (.lit 256)
def tv53:E:=.upd tv50 (.lit 30) tv52
def tv54:E:=.div tv51 (.lit 256)
def tv55:E:=.upd tv53 (.lit 31) tv54
def tv56:E:=.sel (.av 1) (.lit 1)
def tv57:E:=.mod tv56 (.lit 256)
def tv58:E:=.upd tv55 (.lit 32) tv57
def tv59:E:=.div tv56 (.lit 256)
def tv60:E:=.upd tv58 (.lit 33) tv59
def tv61:E:=.sel (.av 1) (.lit 2)
def tv62:E:=.mod tv61 (.lit 256)
def tv63:E:=.upd tv60 (.lit 34) tv62
def tv64:E:=.div tv61 (.lit 256)
def tv65:E:=.upd tv63 (.lit 35) tv64
def tv66:E:=.sel (.av 1) (.lit 3)
def tv67:E:=.mod tv66 (.lit 256)
def tv68:E:=.upd tv65 (.lit 36) tv67
def tv69:E:=.div tv66 (.lit 256)
def bUJ:E:=.upd tv68 (.lit 37) tv69
def tv86:E:=.blt (.tab []) (.lit 0) (.lit 38) bUJ (.lit 0)
def tv89:E:=.upd (.tab []) (.lit 0) (.lit 0)
def tv91:E:=.upd tv89 (.lit 1) (.lit 2)
def tv92:E:=.upd tv91 (.lit 2) (.lit 0)
def tv93:E:=.upd tv92 (.lit 3) (.lit 0)
def tv94:E:=.blt tv93 (.lit 4) (.lit 512) (.app 50 (.cons (.av 2) .nil)) (.lit 0)
def tv95:E:=.blt tv86 (.lit 38) (.lit 516) tv94 (.lit 0)
def tv98:E:=.upd tv95 (.lit 1) (.lit 37)
def bPz:E:=.upd tv98 (.lit 2) (.lit 2)
def bPA:E:=.upd bPz (.lit 3) (.lit 0)
def bPB:E:=.upd bPA (.lit 4) (.lit 0)
def svH:Hyp:=⟨[(.v 0,(0,2047)),(.v 1,(0,65535)),(.v 2,(0,65535)),(.v 3,(0,65535)),(.v 4,(0,65535)),(.v 5,(0,255)),(.v 6,(0,1023)),(.v 7,(0,65535)),(.v 8,(0,65535)),(.v 9,(0,65535)),(.v 10,(0,65535)),(.v 11,(0,65535)),(.v 12,(0,65535)),(.v 13,(0,63)),(.v 14,(0,63)),(.v 15,(0,3)),(.v 16,(0,0))],[(0,(0,255)),(1,(0,2047)),(2,(0,65535)),(3,(-9223372036854775808,9223372036854775807))],[(10,(0,4294967295)),(40,(0,65535)),(41,(0,63))],[(50,(0,255))],[],[]⟩
def svL:List SV:=[.s (.ptr 1 (.lit 0)),.s (.ptr 2 (.lit 0))]
def svM:Mem:=[⟨5,[.run .u8 (.lit 8192) (.av 0) 0],true,some 1,false⟩,⟨81,[.one (.int .u16 (.v 0)),.one (.int .u16 (.v 1)),.one (.int .u16 (.v 2)),.one (.int .u16 (.v 3)),.one (.int .u16 (.v 4)),.one (.int .u16 (.v 5)),.one (.int .u16 (.v 6)),.one (.int .u16 (.v 7)),.one (.int .u16 (.v 8)),.one (.int .u16 (.v 9)),.one (.int .u16 (.v 10)),.one (.int .u16 (.v 11)),.one (.int .u16 (.v 12)),.one (.int .u8 (.v 13)),.one (.int .u8 (.v 14)),.one (.int .u8 (.v 15)),.run .u16 (.lit 4) (.av 1) 0,.run .u16 (.lit 256) (.av 2) 0,.one (.slc 0 (.lit 0) (.lit 8192) (.op (.lit 0)))],true,none,false⟩,⟨119,[.one .nilSlc,.run .i64 (.lit 16) (.av 3) 0,.one (.int .i64 (.lit 0)),.one (.int .i64 (.v 16))],true,none,false⟩]
def svO:Mem:=[⟨5,[.run .u8 (.lit 8192) (.av 0) 0],true,some 1,false⟩,⟨81,[.one (.int .u16 (.v 0)),.one (.int .u16 (.v 1)),.one (.int .u16 (.v 2)),.one (.int .u16 (.v 3)),.one (.int .u16 (.v 4)),.one (.int .u16 (.v 5)),.one (.int .u16 (.v 6)),.one (.int .u16 (.v 7)),.one (.int .u16 (.v 8)),.one (.int .u16 (.v 9)),.one (.int .u16 (.v 10)),.one (.int .u16 (.v 11)),.one (.int .u16 (.v 12)),.one (.int .u8 (.v 13)),.one (.int .u8 (.v 14)),.one (.int .u8 (.v 15)),.run .u16 (.lit 4) (.av 1) 0,.run .u16 (.lit 256) (.av 2) 0,.one (.slc 0 (.lit 0) (.lit 8192) (.op (.lit 0)))],true,none,false⟩,⟨119,[.one (.slc 5 (.lit 0) (.lit 554) (.op (.lit 0))),.run .i64 (.lit 16) tv0 0,.one (.int .i64 (.lit 0)),.one (.int .i64 (.v 16))],true,none,false⟩,⟨5,[.run .u8 (.lit 38) bUJ 0],true,some 1,true⟩,⟨5,[.run .u8 (.lit 512) (.app 50 (.cons (.av 2) .nil)) 0],true,some 1,false⟩,⟨5,[.run .u8 (.lit 554) bPB 0],true,some 1,false⟩]
def svN:List E:=[]
def svR:SV:=.tup []
--SKEND
def sv0:E:=.upd (.av 3) (.lit 0) (.lit 5)
def sv1:E:=.upd (.tab []) (.lit 0) (.lit 28)
def sv2:E:=.upd sv1 (.lit 1) (.lit 0)
def sv3:E:=.upd sv2 (.lit 2) (.lit 0)
def sv4:E:=.upd sv3 (.lit 3) (.lit 0)
def sv5:E:=.upd sv4 (.lit 4) (.lit 0)
def sv6:E:=.mod (.v 0) (.lit 256)
def sv7:E:=.upd sv5 (.lit 5) sv6
def sv8:E:=.div (.v 0) (.lit 256)
def sv9:E:=.upd sv7 (.lit 6) sv8
def bTt:E:=.mod (.v 1) (.lit 256)
def bTu:E:=.upd sv9 (.lit 7) bTt
def bTv:E:=.div (.v 1) (.lit 256)
def bTw:E:=.upd bTu (.lit 8) bTv
def bTx:E:=.mod (.v 2) (.lit 256)
def bTy:E:=.upd bTw (.lit 9) bTx
def bTz:E:=.div (.v 2) (.lit 256)
def bTA:E:=.upd bTy (.lit 10) bTz
def bTB:E:=.mod (.v 3) (.lit 256)
def bTC:E:=.upd bTA (.lit 11) bTB
def bTD:E:=.div (.v 3) (.lit 256)
def bTE:E:=.upd bTC (.lit 12) bTD
def bTF:E:=.mod (.v 4) (.lit 256)
def bTG:E:=.upd bTE (.lit 13) bTF
def bTH:E:=.div (.v 4) (.lit 256)
def bTI:E:=.upd bTG (.lit 14) bTH
def bTJ:E:=.upd bTI (.lit 15) (.v 5)
def bTK:E:=.upd bTJ (.lit 16) (.lit 0)
def bTL:E:=.mod (.v 6) (.lit 256)
def bTM:E:=.upd bTK (.lit 17) bTL
def bTN:E:=.div (.v 6) (.lit 256)
def bTO:E:=.upd bTM (.lit 18) bTN
def bTP:E:=.mod (.v 7) (.lit 256)
def bTQ:E:=.upd bTO (.lit 19) bTP
def bTR:E:=.div (.v 7) (.lit 256)
def bTS:E:=.upd bTQ (.lit 20) bTR
def bTT:E:=.mod (.v 8) (.lit 256)
def bTU:E:=.upd bTS (.lit 21) bTT
def bTV:E:=.div (.v 8) (.lit 256)
def bTW:E:=.upd bTU (.lit 22) bTV
def bTX:E:=.mod (.v 11) (.lit 256)
def bTY:E:=.upd bTW (.lit 23) bTX
def bTZ:E:=.div (.v 11) (.lit 256)
def bUa:E:=.upd bTY (.lit 24) bTZ
def bUb:E:=.mod (.v 12) (.lit 256)
def bUc:E:=.upd bUa (.lit 25) bUb
def bUd:E:=.div (.v 12) (.lit 256)
def bUe:E:=.upd bUc (.lit 26) bUd
def bUf:E:=.upd bUe (.lit 27) (.v 13)
def bUg:E:=.upd bUf (.lit 28) (.v 14)
def bUh:E:=.upd bUg (.lit 29) (.v 15)
def bMU:E:=.sel (.av 1) (.lit 0)
def bUi:E:=.mod bMU (.lit 256)
def bUj:E:=.upd bUh (.lit 30) bUi
def bUk:E:=.div bMU (.lit 256)
def bUl:E:=.upd bUj (.lit 31) bUk
def bMV:E:=.sel (.av 1) (.lit 1)
def bUm:E:=.mod bMV (.lit 256)
def bUn:E:=.upd bUl (.lit 32) bUm
def bUo:E:=.div bMV (.lit 256)
def bUp:E:=.upd bUn (.lit 33) bUo
def bMW:E:=.sel (.av 1) (.lit 2)
def bUq:E:=.mod bMW (.lit 256)
def bUr:E:=.upd bUp (.lit 34) bUq
def bUs:E:=.div bMW (.lit 256)
def bUt:E:=.upd bUr (.lit 35) bUs
def bMX:E:=.sel (.av 1) (.lit 3)
def bUu:E:=.mod bMX (.lit 256)
def bUv:E:=.upd bUt (.lit 36) bUu
def bUw:E:=.div bMX (.lit 256)
def aZP:E:=.upd bUv (.lit 37) bUw
def bMY:E:=.sel (.av 2) (.lit 0)
def bUx:E:=.mod bMY (.lit 256)
def bUy:E:=.upd (.tab []) (.lit 0) bUx
def bUz:E:=.div bMY (.lit 256)
def bKo:E:=.upd bUy (.lit 1) bUz
def bGb:E:=.le (.v 18) (.lit 255)
def aZQ:E:=.add (.v 17) (.lit 2)
def aZR:E:=.add (.v 18) (.lit 1)
def bGc:E:=.sel (.av 2) (.v 18)
def bKp:E:=.mod bGc (.lit 256)
def bKq:E:=.upd (.av 4) (.v 17) bKp
def bKr:E:=.add (.v 17) (.lit 1)
def bKs:E:=.div bGc (.lit 256)
def aZS:E:=.upd bKq bKr bKs
def aKT:E:=.add (.v 17) (.lit 42)
def bGd:E:=.blt (.tab []) (.lit 0) (.lit 38) aZP (.lit 0)
def bGe:E:=.add (.v 17) (.lit 4)
def bGf:E:=.mod (.v 17) (.lit 256)
def bGg:E:=.upd (.tab []) (.lit 0) bGf
def bGh:E:=.div (.v 17) (.lit 256)
def bGi:E:=.upd bGg (.lit 1) bGh
def bGj:E:=.upd bGi (.lit 2) (.lit 0)
def bGk:E:=.upd bGj (.lit 3) (.lit 0)
def bGl:E:=.blt bGk (.lit 4) (.v 17) (.av 4) (.lit 0)
def bGm:E:=.blt bGd (.lit 38) bGe bGl (.lit 0)
def aZT:E:=.add (.v 17) (.lit 37)
def bGn:E:=.mod aZT (.lit 256)
def bGo:E:=.upd bGm (.lit 1) bGn
def bGp:E:=.div aZT (.lit 256)
def aJk:E:=.upd bGo (.lit 2) bGp
def aJl:E:=.upd aJk (.lit 3) (.lit 0)
def aGf:E:=.upd aJl (.lit 4) (.lit 0)
noncomputable def bKt:List Item:=uC Try.prog 40 19
noncomputable def aWU:Head:=⟨19,bKt,⟨[((.v 0),(0,2047)),((.v 1),(0,65535)),((.v 2),(0,65535)),((.v 3),(0,65535)),((.v 4),(0,65535)),((.v 5),(0,255)),((.v 6),(0,1023)),((.v 7),(0,65535)),((.v 8),(0,65535)),((.v 9),(0,65535)),((.v 10),(0,65535)),((.v 11),(0,65535)),((.v 12),(0,65535)),((.v 13),(0,63)),((.v 14),(0,63)),((.v 15),(0,3)),((.v 16),(0,0)),((.v 17),(0,512)),((.v 18),(0,256))],[(0,(0,255)),(1,(0,2047)),(2,(0,65535)),(3,((-9223372036854775808),9223372036854775807)),(4,(0,255))],[(10,(0,4294967295)),(40,(0,65535)),(41,(0,63))],[(50,(0,255))],[],[]⟩,[⟨76,[],.s (.int .i64 (.v 18))⟩,⟨10,[],.s (.slc 4 (.lit 0) (.v 17) (.op (.lit 0)))⟩,⟨75,[],.agg [.run .u16 (.lit 256) (.av 2) 0]⟩,⟨1,[],.s (.ptr 2 (.lit 0))⟩],[⟨5,[.run .u8 (.lit 8192) (.av 0) 0],true,some 1,false⟩,⟨81,[.one (.int .u16 (.v 0)),.one (.int .u16 (.v 1)),.one (.int .u16 (.v 2)),.one (.int .u16 (.v 3)),.one (.int .u16 (.v 4)),.one (.int .u16 (.v 5)),.one (.int .u16 (.v 6)),.one (.int .u16 (.v 7)),.one (.int .u16 (.v 8)),.one (.int .u16 (.v 9)),.one (.int .u16 (.v 10)),.one (.int .u16 (.v 11)),.one (.int .u16 (.v 12)),.one (.int .u8 (.v 13)),.one (.int .u8 (.v 14)),.one (.int .u8 (.v 15)),.run .u16 (.lit 4) (.av 1) 0,.run .u16 (.lit 256) (.av 2) 0,.one (.slc 0 (.lit 0) (.lit 8192) (.op (.lit 0)))],true,none,false⟩,⟨119,[.one (.slc 3 (.lit 0) (.lit 38) (.op (.lit 0))),.run .i64 (.lit 16) sv0 0,.one (.int .i64 (.lit 1)),.one (.int .i64 (.v 16))],true,none,false⟩,⟨5,[.run .u8 (.lit 38) aZP 0],true,some 1,false⟩,⟨5,[.run .u8 (.v 17) (.av 4) 0],true,some 1,false⟩]⟩
noncomputable def bGq:List Head:=[aWU]
def svD:Dim:=⟨19,0,5,17,0,4,3⟩
theorem svst:hZ Try.prog SQ SQh svD bGq [] 3000 18 40 svH svL svM=some (.jump 0 bKt ⟨[(17,(.lit 2)),(18,(.lit 1))],[],[(4,bKo)]⟩):=by kernel_rfl
theorem svsg0:cE Try.prog SQ SQh svD bGq [] 3000 0 40 aWU=some (.ite bGb (.jump 0 bKt ⟨[(17,aZQ),(18,aZR)],[],[(4,aZS)]⟩) (.ret (.tup []) [⟨5,[.run .u8 (.lit 8192) (.av 0) 0],true,some 1,false⟩,⟨81,[.one (.int .u16 (.v 0)),.one (.int .u16 (.v 1)),.one (.int .u16 (.v 2)),.one (.int .u16 (.v 3)),.one (.int .u16 (.v 4)),.one (.int .u16 (.v 5)),.one (.int .u16 (.v 6)),.one (.int .u16 (.v 7)),.one (.int .u16 (.v 8)),.one (.int .u16 (.v 9)),.one (.int .u16 (.v 10)),.one (.int .u16 (.v 11)),.one (.int .u16 (.v 12)),.one (.int .u8 (.v 13)),.one (.int .u8 (.v 14)),.one (.int .u8 (.v 15)),.run .u16 (.lit 4) (.av 1) 0,.run .u16 (.lit 256) (.av 2) 0,.one (.slc 0 (.lit 0) (.lit 8192) (.op (.lit 0)))],true,none,false⟩,⟨119,[.one (.slc 5 (.lit 0) aKT (.op (.lit 0))),.run .i64 (.lit 16) sv0 0,.one (.int .i64 (.lit 0)),.one (.int .i64 (.v 16))],true,none,false⟩,⟨5,[.run .u8 (.lit 38) aZP 0],true,some 1,true⟩,⟨5,[.run .u8 (.v 17) (.av 4) 0],true,some 1,false⟩,⟨5,[.run .u8 aKT aGf 0],true,some 1,false⟩])):=by kernel_rfl
def svV (i0 i1 i2 i3 i4 i5 i6 i7 i8 i9 i10 i11 i12 i13 i14 i15 i16 y17 y18:Int) (A0 A1 A2 A3 Z4:Nat→Int) (vs:List Value) (J:Interp):Env:=⟨[i0,i1,i2,i3,i4,i5,i6,i7,i8,i9,i10,i11,i12,i13,i14,i15,i16,y17,y18],[],[A0,A1,A2,A3,Z4],vs,J⟩
def svJ (i0 i1 i2 i3 i4 i5 i6 i7 i8 i9 i10 i11 i12 i13 i14 i15 i16 y17 y18:Int) (A0 A1 A2 A3 Z4:Nat→Int):Nat→Prop
 | 0=>(0≤y17∧y17≤512)∧(0≤y18∧y18≤256)∧(∀ j,0≤Z4 j∧Z4 j≤255)∧y17=2*y18∧∀ j:Nat,(j:Int)<2*y18→Z4 j=oS A2 j
 | _=>False
def bMZ:Nat→Env→Nat
 | 0,ρ=>(256-ρ.i.getD 18 0).toNat
 | _,_=>0
theorem svok0 (i0 i1 i2 i3 i4 i5 i6 i7 i8 i9 i10 i11 i12 i13 i14 i15 i16 y17 y18:Int) (A0 A1 A2 A3 Z4:Nat→Int) (vs:List Value) (J:Interp) (r0:0≤i0∧i0≤2047) (r1:0≤i1∧i1≤65535) (r2:0≤i2∧i2≤65535) (r3:0≤i3∧i3≤65535) (r4:0≤i4∧i4≤65535) (r5:0≤i5∧i5≤255) (r6:0≤i6∧i6≤1023) (r7:0≤i7∧i7≤65535) (r8:0≤i8∧i8≤65535) (r9:0≤i9∧i9≤65535) (r10:0≤i10∧i10≤65535) (r11:0≤i11∧i11≤65535) (r12:0≤i12∧i12≤65535) (r13:0≤i13∧i13≤63) (r14:0≤i14∧i14≤63) (r15:0≤i15∧i15≤3) (r16:0≤i16∧i16≤0) (R0:∀ j,0≤A0 j∧A0 j≤255) (R1:∀ j,0≤A1 j∧A1 j≤2047) (R2:∀ j,0≤A2 j∧A2 j≤65535) (R3:∀ j,-9223372036854775808≤A3 j∧A3 j≤9223372036854775807) (hfi:∀ p ∈ svH.fi,∀ is bs xs,inR p.2 (J.fi p.1 is bs xs)) (hfa:∀ p ∈ svH.fa,∀ is bs xs j,inR p.2 (J.fa p.1 is bs xs j)) (hIi:J.fi=Ifi) (hIb:J.fb=Ifb) (hIa:J.fa=Ifa) (hJ:svJ i0 i1 i2 i3 i4 i5 i6 i7 i8 i9 i10 i11 i12 i13 i14 i15 i16 y17 y18 A0 A1 A2 A3 Z4 0):Hyp.ok aWU.H (svV i0 i1 i2 i3 i4 i5 i6 i7 i8 i9 i10 i11 i12 i13 i14 i15 i16 y17 y18 A0 A1 A2 A3 Z4 vs J):=by
 simp only [svJ] at hJ
 obtain ⟨l0,l1,m0,hinv⟩:=hJ
 refine ⟨by simp [aWU],?_,?_,?_,?_,by simp [aWU]⟩
 ·intro p hp
  simp only [aWU,List.mem_cons,List.not_mem_nil,or_false] at hp
  rcases hp with rfl | rfl | rfl | rfl | rfl | rfl | rfl | rfl | rfl | rfl | rfl | rfl | rfl | rfl | rfl | rfl | rfl | rfl | rfl
  ·exact r0
  ·exact r1
  ·exact r2
  ·exact r3
  ·exact r4
  ·exact r5
  ·exact r6
  ·exact r7
  ·exact r8
  ·exact r9
  ·exact r10
  ·exact r11
  ·exact r12
  ·exact r13
  ·exact r14
  ·exact r15
  ·exact r16
  ·exact l0
  ·exact l1
 ·intro p hp
  simp only [aWU,List.mem_cons,List.not_mem_nil,or_false] at hp
  rcases hp with rfl | rfl | rfl | rfl | rfl
  ·exact R0
  ·exact R1
  ·exact R2
  ·exact R3
  ·exact m0
 ·exact hfi
 ·exact hfa
theorem svvcS (i0 i1 i2 i3 i4 i5 i6 i7 i8 i9 i10 i11 i12 i13 i14 i15 i16:Int) (A0 A1 A2 A3:Nat→Int) (vs:List Value) (J:Interp) (r0:0≤i0∧i0≤2047) (r1:0≤i1∧i1≤65535) (r2:0≤i2∧i2≤65535) (r3:0≤i3∧i3≤65535) (r4:0≤i4∧i4≤65535) (r5:0≤i5∧i5≤255) (r6:0≤i6∧i6≤1023) (r7:0≤i7∧i7≤65535) (r8:0≤i8∧i8≤65535) (r9:0≤i9∧i9≤65535) (r10:0≤i10∧i10≤65535) (r11:0≤i11∧i11≤65535) (r12:0≤i12∧i12≤65535) (r13:0≤i13∧i13≤63) (r14:0≤i14∧i14≤63) (r15:0≤i15∧i15≤3) (r16:0≤i16∧i16≤0) (R0:∀ j,0≤A0 j∧A0 j≤255) (R1:∀ j,0≤A1 j∧A1 j≤2047) (R2:∀ j,0≤A2 j∧A2 j≤65535) (R3:∀ j,-9223372036854775808≤A3 j∧A3 j≤9223372036854775807) (hfi:∀ p ∈ svH.fi,∀ is bs xs,inR p.2 (J.fi p.1 is bs xs)) (hfa:∀ p ∈ svH.fa,∀ is bs xs j,inR p.2 (J.fa p.1 is bs xs j)) (hIi:J.fi=Ifi) (hIb:J.fb=Ifb) (hIa:J.fa=Ifa) :
 LT.holds (svV i0 i1 i2 i3 i4 i5 i6 i7 i8 i9 i10 i11 i12 i13 i14 i15 i16 0 0 A0 A1 A2 A3 (fun _=>0) vs J) (fun v' m'=>bAh (svV i0 i1 i2 i3 i4 i5 i6 i7 i8 i9 i10 i11 i12 i13 i14 i15 i16 0 0 A0 A1 A2 A3 (fun _=>0) vs J) (⟨[i0,i1,i2,i3,i4,i5,i6,i7,i8,i9,i10,i11,i12,i13,i14,i15,i16],[],[A0,A1,A2,A3],vs,J⟩:Env) svR svO v' m') (fun j todo ρ'=>(bGq[j]?.map (·.todo))=some todo∧(fun j ρ'=>∃ (y17 y18:Int) (Z4:Nat→Int),ρ'=(svV i0 i1 i2 i3 i4 i5 i6 i7 i8 i9 i10 i11 i12 i13 i14 i15 i16 y17 y18 A0 A1 A2 A3 Z4 vs J)∧svJ i0 i1 i2 i3 i4 i5 i6 i7 i8 i9 i10 i11 i12 i13 i14 i15 i16 y17 y18 A0 A1 A2 A3 Z4 j) j ρ') (.jump 0 bKt ⟨[(17,(.lit 2)),(18,(.lit 1))],[],[(4,bKo)]⟩):=by
 simp only [LT.holds]
 refine ⟨rfl,(E.i (svV i0 i1 i2 i3 i4 i5 i6 i7 i8 i9 i10 i11 i12 i13 i14 i15 i16 0 0 A0 A1 A2 A3 (fun _=>0) vs J) ((.lit 2))),(E.i (svV i0 i1 i2 i3 i4 i5 i6 i7 i8 i9 i10 i11 i12 i13 i14 i15 i16 0 0 A0 A1 A2 A3 (fun _=>0) vs J) ((.lit 1))),(E.a (svV i0 i1 i2 i3 i4 i5 i6 i7 i8 i9 i10 i11 i12 i13 i14 i15 i16 0 0 A0 A1 A2 A3 (fun _=>0) vs J) bKo),rfl,?_⟩
 ·simp only [svJ]
  have q:=R2 0
  have h0:oS A2 0=A2 0%256:=bEc (k:=0)
  have h1:oS A2 1=A2 0 / 256:=bEb (k:=0) (by omega)
  simp only [svV,sv0,sv1,sv2,sv3,sv4,sv5,sv6,sv7,sv8,sv9,bTt,bTu,bTv,bTw,bTx,bTy,bTz,bTA,bTB,bTC,bTD,bTE,bTF,bTG,bTH,bTI,bTJ,bTK,bTL,bTM,bTN,bTO,bTP,bTQ,bTR,bTS,bTT,bTU,bTV,bTW,bTX,bTY,bTZ,bUa,bUb,bUc,bUd,bUe,bUf,bUg,bUh,bMU,bUi,bUj,bUk,bUl,bMV,bUm,bUn,bUo,bUp,bMW,bUq,bUr,bUs,bUt,bMX,bUu,bUv,bUw,aZP,bMY,bUx,bUy,bUz,bKo,bGb,aZQ,aZR,bGc,bKp,bKq,bKr,bKs,aZS,aKT,bGd,bGe,bGf,bGg,bGh,bGi,bGj,bGk,bGl,bGm,aZT,bGn,bGo,bGp,aJk,aJl,aGf,i_v,iP,aD,aN,aT,dD,bL,cL,bE,cC,bY,aV,cZ,gN,fT,fF,dG,dC,fM,eF,dS,cI,cB,List.getD_cons_zero,List.getD_cons_succ,decide_eq_true_eq,decide_eq_false_iff_not,Bool.and_eq_true,Bool.or_eq_true,Bool.not_eq_true',Bool.not_eq_false',Bool.and_eq_false_iff,Bool.or_eq_false_iff,Bool.not_not,cX,cW,cV,cU,gO,cK,cS]
  refine ⟨by omega,by omega,fun j=>?_,by omega,fun j h=>?_⟩
  ·show 0≤(if j=1 then A2 0 / 256 else if j=0 then A2 0%256 else 0)∧(if j=1 then A2 0 / 256 else if j=0 then A2 0%256 else 0)≤255
   repeat' split
   all_goals omega
  ·show (if j=1 then A2 0 / 256 else if j=0 then A2 0%256 else 0)=oS A2 j
   rcases (show j=0∨j=1 by omega) with rfl | rfl
   ·exact h0.symm
   ·exact h1.symm
theorem svvc0 (i0 i1 i2 i3 i4 i5 i6 i7 i8 i9 i10 i11 i12 i13 i14 i15 i16 y17 y18:Int) (A0 A1 A2 A3 Z4:Nat→Int) (vs:List Value) (J:Interp) (r0:0≤i0∧i0≤2047) (r1:0≤i1∧i1≤65535) (r2:0≤i2∧i2≤65535) (r3:0≤i3∧i3≤65535) (r4:0≤i4∧i4≤65535) (r5:0≤i5∧i5≤255) (r6:0≤i6∧i6≤1023) (r7:0≤i7∧i7≤65535) (r8:0≤i8∧i8≤65535) (r9:0≤i9∧i9≤65535) (r10:0≤i10∧i10≤65535) (r11:0≤i11∧i11≤65535) (r12:0≤i12∧i12≤65535) (r13:0≤i13∧i13≤63) (r14:0≤i14∧i14≤63) (r15:0≤i15∧i15≤3) (r16:0≤i16∧i16≤0) (R0:∀ j,0≤A0 j∧A0 j≤255) (R1:∀ j,0≤A1 j∧A1 j≤2047) (R2:∀ j,0≤A2 j∧A2 j≤65535) (R3:∀ j,-9223372036854775808≤A3 j∧A3 j≤9223372036854775807) (hfi:∀ p ∈ svH.fi,∀ is bs xs,inR p.2 (J.fi p.1 is bs xs)) (hfa:∀ p ∈ svH.fa,∀ is bs xs j,inR p.2 (J.fa p.1 is bs xs j)) (hIi:J.fi=Ifi) (hIb:J.fb=Ifb) (hIa:J.fa=Ifa) (hJ:svJ i0 i1 i2 i3 i4 i5 i6 i7 i8 i9 i10 i11 i12 i13 i14 i15 i16 y17 y18 A0 A1 A2 A3 Z4 0) :
 LT.holds (svV i0 i1 i2 i3 i4 i5 i6 i7 i8 i9 i10 i11 i12 i13 i14 i15 i16 y17 y18 A0 A1 A2 A3 Z4 vs J) (fun v' m'=>bAh (svV i0 i1 i2 i3 i4 i5 i6 i7 i8 i9 i10 i11 i12 i13 i14 i15 i16 y17 y18 A0 A1 A2 A3 Z4 vs J) (⟨[i0,i1,i2,i3,i4,i5,i6,i7,i8,i9,i10,i11,i12,i13,i14,i15,i16],[],[A0,A1,A2,A3],vs,J⟩:Env) svR svO v' m') (fun j' todo ρ'=>(bGq[j']?.map (·.todo))=some todo∧(fun j ρ'=>∃ (y17 y18:Int) (Z4:Nat→Int),ρ'=(svV i0 i1 i2 i3 i4 i5 i6 i7 i8 i9 i10 i11 i12 i13 i14 i15 i16 y17 y18 A0 A1 A2 A3 Z4 vs J)∧svJ i0 i1 i2 i3 i4 i5 i6 i7 i8 i9 i10 i11 i12 i13 i14 i15 i16 y17 y18 A0 A1 A2 A3 Z4 j) j' ρ'∧bMZ j' ρ'<bMZ 0 (svV i0 i1 i2 i3 i4 i5 i6 i7 i8 i9 i10 i11 i12 i13 i14 i15 i16 y17 y18 A0 A1 A2 A3 Z4 vs J)) (.ite bGb (.jump 0 bKt ⟨[(17,aZQ),(18,aZR)],[],[(4,aZS)]⟩) (.ret (.tup []) [⟨5,[.run .u8 (.lit 8192) (.av 0) 0],true,some 1,false⟩,⟨81,[.one (.int .u16 (.v 0)),.one (.int .u16 (.v 1)),.one (.int .u16 (.v 2)),.one (.int .u16 (.v 3)),.one (.int .u16 (.v 4)),.one (.int .u16 (.v 5)),.one (.int .u16 (.v 6)),.one (.int .u16 (.v 7)),.one (.int .u16 (.v 8)),.one (.int .u16 (.v 9)),.one (.int .u16 (.v 10)),.one (.int .u16 (.v 11)),.one (.int .u16 (.v 12)),.one (.int .u8 (.v 13)),.one (.int .u8 (.v 14)),.one (.int .u8 (.v 15)),.run .u16 (.lit 4) (.av 1) 0,.run .u16 (.lit 256) (.av 2) 0,.one (.slc 0 (.lit 0) (.lit 8192) (.op (.lit 0)))],true,none,false⟩,⟨119,[.one (.slc 5 (.lit 0) aKT (.op (.lit 0))),.run .i64 (.lit 16) sv0 0,.one (.int .i64 (.lit 0)),.one (.int .i64 (.v 16))],true,none,false⟩,⟨5,[.run .u8 (.lit 38) aZP 0],true,some 1,true⟩,⟨5,[.run .u8 (.v 17) (.av 4) 0],true,some 1,false⟩,⟨5,[.run .u8 aKT aGf 0],true,some 1,false⟩])):=by
 simp only [LT.holds]
 simp only [svJ] at hJ
 obtain ⟨l0,l1,m0,hinv⟩:=hJ
 refine ⟨fun hc0=>?_,fun hc0=>?_⟩
 ·
   refine ⟨rfl,⟨(E.i (svV i0 i1 i2 i3 i4 i5 i6 i7 i8 i9 i10 i11 i12 i13 i14 i15 i16 y17 y18 A0 A1 A2 A3 Z4 vs J) aZQ),(E.i (svV i0 i1 i2 i3 i4 i5 i6 i7 i8 i9 i10 i11 i12 i13 i14 i15 i16 y17 y18 A0 A1 A2 A3 Z4 vs J) aZR),(E.a (svV i0 i1 i2 i3 i4 i5 i6 i7 i8 i9 i10 i11 i12 i13 i14 i15 i16 y17 y18 A0 A1 A2 A3 Z4 vs J) aZS),rfl,?_⟩,?_⟩
   ·simp only [svJ]
    simp only [svV,sv0,sv1,sv2,sv3,sv4,sv5,sv6,sv7,sv8,sv9,bTt,bTu,bTv,bTw,bTx,bTy,bTz,bTA,bTB,bTC,bTD,bTE,bTF,bTG,bTH,bTI,bTJ,bTK,bTL,bTM,bTN,bTO,bTP,bTQ,bTR,bTS,bTT,bTU,bTV,bTW,bTX,bTY,bTZ,bUa,bUb,bUc,bUd,bUe,bUf,bUg,bUh,bMU,bUi,bUj,bUk,bUl,bMV,bUm,bUn,bUo,bUp,bMW,bUq,bUr,bUs,bUt,bMX,bUu,bUv,bUw,aZP,bMY,bUx,bUy,bUz,bKo,bGb,aZQ,aZR,bGc,bKp,bKq,bKr,bKs,aZS,aKT,bGd,bGe,bGf,bGg,bGh,bGi,bGj,bGk,bGl,bGm,aZT,bGn,bGo,bGp,aJk,aJl,aGf,i_v,iP,aD,aN,aT,dD,bL,cL,bE,cC,bY,aV,cZ,gN,fT,fF,dG,dC,fM,eF,dS,cI,cB,List.getD_cons_zero,List.getD_cons_succ,decide_eq_true_eq,decide_eq_false_iff_not,Bool.and_eq_true,Bool.or_eq_true,Bool.not_eq_true',Bool.not_eq_false',Bool.and_eq_false_iff,Bool.or_eq_false_iff,Bool.not_not,cX,cW,cV,cU,gO,cK,cS] at hc0 ⊢
    obtain ⟨he,hv⟩:=hinv
    have e0:y17.toNat=2*y18.toNat:=by omega
    have e1:(y17+1).toNat=2*y18.toNat+1:=by omega
    have q:=R2 y18.toNat
    have h0:oS A2 (2*y18.toNat)=A2 y18.toNat%256:=bEc
    have h1:oS A2 (2*y18.toNat+1)=A2 y18.toNat / 256:=bEb (by omega)
    simp only [e0,e1]
    refine ⟨by omega,by omega,fun j=>?_,by omega,fun j h=>?_⟩
    ·have:=m0 j;repeat' split
     all_goals omega
    ·by_cases f1:j=2*y18.toNat+1
     ·rw [if_pos f1,f1,h1]
     ·rw [if_neg f1]
      by_cases f0:j=2*y18.toNat
      ·rw [if_pos f0,f0,h0]
      ·rw [if_neg f0];exact hv j (by omega)
   ·simp only [bMZ,Env.app,mZ,List.map_cons,List.map_nil,List.set,svV,bGb,aZQ,aZR,bGc,bKp,bKq,bKr,bKs,aZS,aKT,bGd,bGe,bGf,bGg,bGh,bGi,bGj,bGk,bGl,bGm,aZT,bGn,bGo,bGp,aJk,aJl,aGf,i_v,iP,aD,aN,aT,dD,bL,cL,bE,cC,bY,aV,cZ,gN,fT,fF,dG,dC,fM,eF,dS,cI,cB,List.getD_cons_zero,List.getD_cons_succ,decide_eq_true_eq,decide_eq_false_iff_not,Bool.and_eq_true,Bool.or_eq_true,Bool.not_eq_true',Bool.not_eq_false',Bool.and_eq_false_iff,Bool.or_eq_false_iff,Bool.not_not,cX,cW,cV,cU,gO,cK,cS] at hc0 ⊢
    omega
 ·
   refine ⟨rfl,?_,?_⟩
   all_goals
    repeat' (first | exact rfl | exact trivial | exact fun _ _=>rfl | refine And.intro ?_ ?_ | refine Or.inr ?_)
   all_goals obtain ⟨he,hv⟩:=hinv
   all_goals simp only [svV,bGb,aZQ,aZR,bGc,bKp,bKq,bKr,bKs,aZS,aKT,bGd,bGe,bGf,bGg,bGh,bGi,bGj,bGk,bGl,bGm,aZT,bGn,bGo,bGp,aJk,aJl,aGf,i_v,iP,aD,aN,aT,dD,bL,cL,bE,cC,bY,aV,cZ,gN,fT,fF,dG,dC,fM,eF,dS,cI,cB,List.getD_cons_zero,List.getD_cons_succ,decide_eq_true_eq,decide_eq_false_iff_not,Bool.and_eq_true,Bool.or_eq_true,Bool.not_eq_true',Bool.not_eq_false',Bool.and_eq_false_iff,Bool.or_eq_false_iff,Bool.not_not,cX,cW,cV,cU,gO,cK,cS] at hc0
   all_goals obtain rfl:y18=256:=by omega
   all_goals obtain rfl:y17=512:=by omega
   all_goals have e70:E.a (svV i0 i1 i2 i3 i4 i5 i6 i7 i8 i9 i10 i11 i12 i13 i14 i15 i16 512 256 A0 A1 A2 A3 Z4 vs J) aZP=E.a (⟨[i0,i1,i2,i3,i4,i5,i6,i7,i8,i9,i10,i11,i12,i13,i14,i15,i16],[],[A0,A1,A2,A3],vs,J⟩:Env) bUJ:=rfl
   all_goals have ha:E.a (⟨[i0,i1,i2,i3,i4,i5,i6,i7,i8,i9,i10,i11,i12,i13,i14,i15,i16],[],[A0,A1,A2,A3],vs,J⟩:Env) (.app 50 (.cons (.av 2) .nil))=oS A2:=app50 hIa _
   all_goals have hz:∀ j:Nat,j<512→Z4 j=oS A2 j:=fun j h=>hv j (by omega)
   all_goals clear hv hfi hfa hIi hIb hIa
   all_goals first
    | rfl
    | (intro j hj
       simp only [aD] at hj
       rw [ha]
       simp only [Nat.zero_add,Nat.add_zero]
       exact hz j (by omega))
    | (intro j hj
       simp only [Nat.zero_add,Nat.add_zero]
       simp only [aKT,bGd,bGe,bGf,bGg,bGh,bGi,bGj,bGk,bGl,bGm,aZT,bGn,bGo,bGp,aJk,aJl,aGf,tv86,tv89,tv91,tv92,tv93,tv94,tv95,tv98,bPz,bPA,bPB,cS,qH,e70,ha,aD,bE,cL,aT]
       simp only [show E.i (svV i0 i1 i2 i3 i4 i5 i6 i7 i8 i9 i10 i11 i12 i13 i14 i15 i16 512 256 A0 A1 A2 A3 Z4 vs J) (.v 17)=512 from rfl,show ∀ j,E.a (svV i0 i1 i2 i3 i4 i5 i6 i7 i8 i9 i10 i11 i12 i13 i14 i15 i16 512 256 A0 A1 A2 A3 Z4 vs J) (.av 4) j=Z4 j from fun _=>rfl,Nat.zero_add,Nat.add_zero]
       have e:j-Int.toNat 38+Int.toNat 0-Int.toNat 4+Int.toNat 0=j-42:=by show j-38+0-4+0=j-42;omega
       have hj2:j<554:=hj
       rw [e,hz (j-42) (by omega)]
       rfl)
theorem svat (xs:Nat→Nat→Ext):iL Try.prog (Iv xs) 40 17 0 4 (nR svH svL svM svN svR (some svO)):=by
 refine bJd (u:=0) (SQ_ok xs) (by kernel_rfl) svst (by decide) rfl (fun ρ j ρ'=>∃(i0 i1 i2 i3 i4 i5 i6 i7 i8 i9 i10 i11 i12 i13 i14 i15 i16:Int) (A0 A1 A2 A3:Nat→Int),∃ vs J,ρ=(⟨[i0,i1,i2,i3,i4,i5,i6,i7,i8,i9,i10,i11,i12,i13,i14,i15,i16],[],[A0,A1,A2,A3],vs,J⟩:Env)∧(fun j ρ'=>∃ (y17 y18:Int) (Z4:Nat→Int),ρ'=(svV i0 i1 i2 i3 i4 i5 i6 i7 i8 i9 i10 i11 i12 i13 i14 i15 i16 y17 y18 A0 A1 A2 A3 Z4 vs J)∧svJ i0 i1 i2 i3 i4 i5 i6 i7 i8 i9 i10 i11 i12 i13 i14 i15 i16 y17 y18 A0 A1 A2 A3 Z4 j) j ρ') bMZ ?_
 intro ρ hI hz hH hn
 obtain ⟨ys,zs,Ys,vs,J⟩:=ρ
 obtain ⟨z1,z2,z3⟩:=hz
 simp only at z1 z2 z3 hI
 obtain ⟨i0,ys0,rfl,z1_0⟩:=cN z1
 obtain ⟨i1,ys1,rfl,z1_1⟩:=cN z1_0
 obtain ⟨i2,ys2,rfl,z1_2⟩:=cN z1_1
 obtain ⟨i3,ys3,rfl,z1_3⟩:=cN z1_2
 obtain ⟨i4,ys4,rfl,z1_4⟩:=cN z1_3
 obtain ⟨i5,ys5,rfl,z1_5⟩:=cN z1_4
 obtain ⟨i6,ys6,rfl,z1_6⟩:=cN z1_5
 obtain ⟨i7,ys7,rfl,z1_7⟩:=cN z1_6
 obtain ⟨i8,ys8,rfl,z1_8⟩:=cN z1_7
 obtain ⟨i9,ys9,rfl,z1_9⟩:=cN z1_8
 obtain ⟨i10,ys10,rfl,z1_10⟩:=cN z1_9
 obtain ⟨i11,ys11,rfl,z1_11⟩:=cN z1_10
 obtain ⟨i12,ys12,rfl,z1_12⟩:=cN z1_11
 obtain ⟨i13,ys13,rfl,z1_13⟩:=cN z1_12
 obtain ⟨i14,ys14,rfl,z1_14⟩:=cN z1_13
 obtain ⟨i15,ys15,rfl,z1_15⟩:=cN z1_14
 obtain ⟨i16,ys16,rfl,z1_16⟩:=cN z1_15
 obtain rfl:=List.eq_nil_of_length_eq_zero z1_16
 obtain rfl:=List.eq_nil_of_length_eq_zero z2
 obtain ⟨A0,Ys0,rfl,z3_0⟩:=cN z3
 obtain ⟨A1,Ys1,rfl,z3_1⟩:=cN z3_0
 obtain ⟨A2,Ys2,rfl,z3_2⟩:=cN z3_1
 obtain ⟨A3,Ys3,rfl,z3_3⟩:=cN z3_2
 obtain rfl:=List.eq_nil_of_length_eq_zero z3_3
 have r0:0≤i0∧i0≤2047:=hH.e (.v 0,(0,2047)) (by simp [svH])
 have r1:0≤i1∧i1≤65535:=hH.e (.v 1,(0,65535)) (by simp [svH])
 have r2:0≤i2∧i2≤65535:=hH.e (.v 2,(0,65535)) (by simp [svH])
 have r3:0≤i3∧i3≤65535:=hH.e (.v 3,(0,65535)) (by simp [svH])
 have r4:0≤i4∧i4≤65535:=hH.e (.v 4,(0,65535)) (by simp [svH])
 have r5:0≤i5∧i5≤255:=hH.e (.v 5,(0,255)) (by simp [svH])
 have r6:0≤i6∧i6≤1023:=hH.e (.v 6,(0,1023)) (by simp [svH])
 have r7:0≤i7∧i7≤65535:=hH.e (.v 7,(0,65535)) (by simp [svH])
 have r8:0≤i8∧i8≤65535:=hH.e (.v 8,(0,65535)) (by simp [svH])
 have r9:0≤i9∧i9≤65535:=hH.e (.v 9,(0,65535)) (by simp [svH])
 have r10:0≤i10∧i10≤65535:=hH.e (.v 10,(0,65535)) (by simp [svH])
 have r11:0≤i11∧i11≤65535:=hH.e (.v 11,(0,65535)) (by simp [svH])
 have r12:0≤i12∧i12≤65535:=hH.e (.v 12,(0,65535)) (by simp [svH])
 have r13:0≤i13∧i13≤63:=hH.e (.v 13,(0,63)) (by simp [svH])
 have r14:0≤i14∧i14≤63:=hH.e (.v 14,(0,63)) (by simp [svH])
 have r15:0≤i15∧i15≤3:=hH.e (.v 15,(0,3)) (by simp [svH])
 have r16:0≤i16∧i16≤0:=hH.e (.v 16,(0,0)) (by simp [svH])
 have R0:∀ j,0≤A0 j∧A0 j≤255:=fun j=>hH.a (0,(0,255)) (by simp [svH]) j
 have R1:∀ j,0≤A1 j∧A1 j≤2047:=fun j=>hH.a (1,(0,2047)) (by simp [svH]) j
 have R2:∀ j,0≤A2 j∧A2 j≤65535:=fun j=>hH.a (2,(0,65535)) (by simp [svH]) j
 have R3:∀ j,-9223372036854775808≤A3 j∧A3 j≤9223372036854775807:=fun j=>hH.a (3,(-9223372036854775808,9223372036854775807)) (by simp [svH]) j
 have hfi:∀ p ∈ svH.fi,∀ is bs xs,inR p.2 (J.fi p.1 is bs xs):=hH.fi
 have hfa:∀ p ∈ svH.fa,∀ is bs xs j,inR p.2 (J.fa p.1 is bs xs j):=hH.fa
 have hIi:J.fi=Ifi:=by rw [hI];rfl
 have hIb:J.fb=Ifb:=by rw [hI];rfl
 have hIa:J.fa=Ifa:=by rw [hI];rfl
 refine ⟨(svV i0 i1 i2 i3 i4 i5 i6 i7 i8 i9 i10 i11 i12 i13 i14 i15 i16 0 0 A0 A1 A2 A3 (fun _=>0) vs J),rfl,⟨rfl,rfl,rfl⟩,?_,fun ι=>rfl,?_,?_,?_⟩
 ·
   refine ⟨by simp [svH],?_,?_,?_,?_,by simp [svH]⟩
   ·intro p hp
    simp only [svH,List.mem_cons,List.not_mem_nil,or_false] at hp
    rcases hp with rfl | rfl | rfl | rfl | rfl | rfl | rfl | rfl | rfl | rfl | rfl | rfl | rfl | rfl | rfl | rfl | rfl
    ·exact r0
    ·exact r1
    ·exact r2
    ·exact r3
    ·exact r4
    ·exact r5
    ·exact r6
    ·exact r7
    ·exact r8
    ·exact r9
    ·exact r10
    ·exact r11
    ·exact r12
    ·exact r13
    ·exact r14
    ·exact r15
    ·exact r16
   ·intro p hp
    simp only [svH,List.mem_cons,List.not_mem_nil,or_false] at hp
    rcases hp with rfl | rfl | rfl | rfl
    ·exact R0
    ·exact R1
    ·exact R2
    ·exact R3
   ·exact hfi
   ·exact hfa
 ·repeat' (first | exact rfl | exact trivial | exact fun _ _=>rfl | refine And.intro ?_ ?_ | refine Or.inr ?_)
 ·refine LT.iF (fun v' m' h=>h) (fun j todo ρ' h=>⟨h.1,i0,i1,i2,i3,i4,i5,i6,i7,i8,i9,i10,i11,i12,i13,i14,i15,i16,A0,A1,A2,A3,vs,J,rfl,h.2⟩) (svvcS i0 i1 i2 i3 i4 i5 i6 i7 i8 i9 i10 i11 i12 i13 i14 i15 i16 A0 A1 A2 A3 vs J r0 r1 r2 r3 r4 r5 r6 r7 r8 r9 r10 r11 r12 r13 r14 r15 r16 R0 R1 R2 R3 hfi hfa hIi hIb hIa)
 ·intro j h ρ' hj hI' hz' hInv
  obtain ⟨i0',i1',i2',i3',i4',i5',i6',i7',i8',i9',i10',i11',i12',i13',i14',i15',i16',A0',A1',A2',A3',vs',J',he,y17,y18,Z4,hρ,hJ⟩:=hInv
  cases he
  subst hρ
  rcases j with _ | j
  ·simp only [bGq,List.getElem?_cons_zero,List.getElem?_cons_succ,Option.some.injEq] at hj;subst hj
   refine ⟨aWU.H,svok0 i0 i1 i2 i3 i4 i5 i6 i7 i8 i9 i10 i11 i12 i13 i14 i15 i16 y17 y18 A0 A1 A2 A3 Z4 vs J r0 r1 r2 r3 r4 r5 r6 r7 r8 r9 r10 r11 r12 r13 r14 r15 r16 R0 R1 R2 R3 hfi hfa hIi hIb hIa hJ,_,svsg0,?_⟩
   exact LT.iF (fun v' m' h=>h) (fun j todo ρ' h=>⟨h.1,⟨i0,i1,i2,i3,i4,i5,i6,i7,i8,i9,i10,i11,i12,i13,i14,i15,i16,A0,A1,A2,A3,vs,J,rfl,h.2.1⟩,h.2.2⟩) (svvc0 i0 i1 i2 i3 i4 i5 i6 i7 i8 i9 i10 i11 i12 i13 i14 i15 i16 y17 y18 A0 A1 A2 A3 Z4 vs J r0 r1 r2 r3 r4 r5 r6 r7 r8 r9 r10 r11 r12 r13 r14 r15 r16 R0 R1 R2 R3 hfi hfa hIi hIb hIa hJ)
  ·simp [bGq] at hj
def svS:Go.Sx.Spec:=gM (gV 17 0 4 svL svM) svH svL svM svN (svR) (some svO)
theorem svok (xs:Nat→Nat→Ext):bD Try.prog (Iv xs) 40 svS:=jJ (svat xs) (iD _ _ _ _ _ _)
noncomputable def SY:Ctx:=aKn Try.prog [] (ctx [(44,dK),(46,dK),(27,gD 5),(33,eR 5),(20,gH),(58,orS wbS (zbS)),(57,orS wwS (zwS)),(59,orS wyS (orS wgS (zyS))),(55,orS woS (zoS)),(41,dnS),(40,svS)]) 3000 40 12
noncomputable def SYh:aZ:=aFg Try.prog [] (ctx [(44,dK),(46,dK),(27,gD 5),(33,eR 5),(20,gH),(58,orS wbS (zbS)),(57,orS wwS (zwS)),(59,orS wyS (orS wgS (zyS))),(55,orS woS (zoS)),(41,dnS),(40,svS)]) 3000 40 12
theorem SY_ok (xs:Nat→Nat→Ext):cF Try.prog (Iv xs) SY:=nK (pI (fun p hp=>by
 simp only [List.mem_cons,List.not_mem_nil,or_false] at hp
 rcases hp with rfl | rfl | rfl | rfl | rfl | rfl | rfl | rfl | rfl | rfl | rfl
 ·exact fR bLn rfl
 ·exact fR bLm rfl
 ·exact kV bHa
 ·exact jO bHh
 ·exact lV bLh
 ·exact kF (wbok xs) (zbok xs)
 ·exact kF (wwok xs) (zwok xs)
 ·exact kF (wyok xs) (kF (wgok xs) (zyok xs))
 ·exact kF (wook xs) (zook xs)
 ·exact dnok xs
 ·exact svok xs
 )) (by kernel_rfl) 3000 40 12
def sdH:Hyp:=⟨[(.v 0,(0,2047)),(.v 1,(0,65535)),(.v 2,(0,65535)),(.v 3,(0,65535)),(.v 4,(0,65535)),(.v 5,(0,255)),(.v 6,(0,1023)),(.v 7,(0,65535)),(.v 8,(0,65535)),(.v 9,(0,65535)),(.v 10,(0,65535)),(.v 11,(0,65535)),(.v 12,(0,65535)),(.v 13,(0,63)),(.v 14,(0,63)),(.v 15,(0,3))],[(0,(0,255)),(1,(0,2047)),(2,(0,65535))],[(10,(0,4294967295)),(40,(0,65535)),(41,(0,63))],[(50,(0,255))],[],[]⟩
def sdL:List SV:=[.s (.ptr 1 (.lit 0))]
def sdM:Mem:=[⟨5,[.run .u8 (.lit 8192) (.av 0) 0],true,some 1,false⟩,⟨81,[.one (.int .u16 (.v 0)),.one (.int .u16 (.v 1)),.one (.int .u16 (.v 2)),.one (.int .u16 (.v 3)),.one (.int .u16 (.v 4)),.one (.int .u16 (.v 5)),.one (.int .u16 (.v 6)),.one (.int .u16 (.v 7)),.one (.int .u16 (.v 8)),.one (.int .u16 (.v 9)),.one (.int .u16 (.v 10)),.one (.int .u16 (.v 11)),.one (.int .u16 (.v 12)),.one (.int .u8 (.v 13)),.one (.int .u8 (.v 14)),.one (.int .u8 (.v 15)),.run .u16 (.lit 4) (.av 1) 0,.run .u16 (.lit 256) (.av 2) 0,.one (.slc 0 (.lit 0) (.lit 8192) (.op (.lit 0)))],true,none,false⟩]
def sd0:E:=.upd (.tab []) (.lit 0) (.lit 76)
def sd1:E:=.upd sd0 (.lit 1) (.lit 65)
def sd2:E:=.upd sd1 (.lit 2) (.lit 78)
def sd3:E:=.upd sd2 (.lit 3) (.lit 84)
def sd4:E:=.upd sd3 (.lit 4) (.lit 1)
def sd5:E:=.upd sd4 (.lit 5) (.lit 42)
def sd6:E:=.upd sd5 (.lit 6) (.lit 2)
def sd7:E:=.upd sd6 (.lit 7) (.lit 0)
def sd8:E:=.upd sd7 (.lit 8) (.lit 0)
def sd9:E:=.upd (.tab []) (.lit 0) (.lit 28)
def sd10:E:=.upd sd9 (.lit 1) (.lit 0)
def sd11:E:=.upd sd10 (.lit 2) (.lit 0)
def sd12:E:=.upd sd11 (.lit 3) (.lit 0)
def sd13:E:=.upd sd12 (.lit 4) (.lit 0)
def sd14:E:=.mod (.v 0) (.lit 256)
def sd15:E:=.upd sd13 (.lit 5) sd14
def sd16:E:=.div (.v 0) (.lit 256)
def sd17:E:=.upd sd15 (.lit 6) sd16
def sd18:E:=.mod (.v 1) (.lit 256)
def sd19:E:=.upd sd17 (.lit 7) sd18
def sd20:E:=.div (.v 1) (.lit 256)
def sd21:E:=.upd sd19 (.lit 8) sd20
def sd22:E:=.mod (.v 2) (.lit 256)
def sd23:E:=.upd sd21 (.lit 9) sd22
def sd24:E:=.div (.v 2) (.lit 256)
def sd25:E:=.upd sd23 (.lit 10) sd24
def sd26:E:=.mod (.v 3) (.lit 256)
def sd27:E:=.upd sd25 (.lit 11) sd26
def sd28:E:=.div (.v 3) (.lit 256)
def sd29:E:=.upd sd27 (.lit 12) sd28
def sd30:E:=.mod (.v 4) (.lit 256)
def sd31:E:=.upd sd29 (.lit 13) sd30
def sd32:E:=.div (.v 4) (.lit 256)
def sd33:E:=.upd sd31 (.lit 14) sd32
def sd34:E:=.upd sd33 (.lit 15) (.v 5)
def sd35:E:=.upd sd34 (.lit 16) (.lit 0)
def sd36:E:=.mod (.v 6) (.lit 256)
def sd37:E:=.upd sd35 (.lit 17) sd36
def sd38:E:=.div (.v 6) (.lit 256)
def sd39:E:=.upd sd37 (.lit 18) sd38
def sd40:E:=.mod (.v 7) (.lit 256)
def sd41:E:=.upd sd39 (.lit 19) sd40
def sd42:E:=.div (.v 7) (.lit 256)
def sd43:E:=.upd sd41 (.lit 20) sd42
def sd44:E:=.mod (.v 8) (.lit 256)
def sd45:E:=.upd sd43 (.lit 21) sd44
def sd46:E:=.div (.v 8) (.lit 256)
def sd47:E:=.upd sd45 (.lit 22) sd46
def sd48:E:=.mod (.v 11) (.lit 256)
def sd49:E:=.upd sd47 (.lit 23) sd48
def sd50:E:=.div (.v 11) (.lit 256)
def sd51:E:=.upd sd49 (.lit 24) sd50
def sd52:E:=.mod (.v 12) (.lit 256)
def sd53:E:=.upd sd51 (.lit 25) sd52
def sd54:E:=.div (.v 12) (.lit 256)
def sd55:E:=.upd sd53 (.lit 26) sd54
def sd56:E:=.upd sd55 (.lit 27) (.v 13)
def sd57:E:=.upd sd56 (.lit 28) (.v 14)
def sd58:E:=.upd sd57 (.lit 29) (.v 15)
def sd59:E:=.sel (.av 1) (.lit 0)
def sd60:E:=.mod sd59 (.lit 256)
def sd61:E:=.upd sd58 (.lit 30) sd60
def sd62:E:=.div sd59 (.lit 256)
def sd63:E:=.upd sd61 (.lit 31) sd62
def sd64:E:=.sel (.av 1) (.lit 1)
def sd65:E:=.mod sd64 (.lit 256)
def sd66:E:=.upd sd63 (.lit 32) sd65
def sd67:E:=.div sd64 (.lit 256)
def sd68:E:=.upd sd66 (.lit 33) sd67
def sd69:E:=.sel (.av 1) (.lit 2)
def sd70:E:=.mod sd69 (.lit 256)
def sd71:E:=.upd sd68 (.lit 34) sd70
def sd72:E:=.div sd69 (.lit 256)
def sd73:E:=.upd sd71 (.lit 35) sd72
def sd74:E:=.sel (.av 1) (.lit 3)
def sd75:E:=.mod sd74 (.lit 256)
def sd76:E:=.upd sd73 (.lit 36) sd75
def sd77:E:=.div sd74 (.lit 256)
def sd78:E:=.upd sd76 (.lit 37) sd77
def sd79:E:=.blt (.tab []) (.lit 0) (.lit 38) sd78 (.lit 0)
def sd80:E:=.upd (.tab []) (.lit 0) (.lit 0)
def sd81:E:=.upd sd80 (.lit 1) (.lit 2)
def sd82:E:=.upd sd81 (.lit 2) (.lit 0)
def sd83:E:=.upd sd82 (.lit 3) (.lit 0)
def sd84:E:=.app 50 (.cons (.av 2) .nil)
def sd85:E:=.blt sd83 (.lit 4) (.lit 512) sd84 (.lit 0)
def sd86:E:=.blt sd79 (.lit 38) (.lit 516) sd85 (.lit 0)
def sd87:E:=.upd sd86 (.lit 1) (.lit 37)
def sd88:E:=.upd sd87 (.lit 2) (.lit 2)
def sd89:E:=.upd sd88 (.lit 3) (.lit 0)
def sd90:E:=.upd sd89 (.lit 4) (.lit 0)
def bMP:E:=.app 10 (.cons (.lit 554) (.cons sd90 .nil))
def sd92:E:=.mod bMP (.lit 256)
def sd93:E:=.upd sd8 (.lit 9) sd92
def sd94:E:=.div bMP (.lit 256)
def sd95:E:=.mod sd94 (.lit 256)
def sd96:E:=.upd sd93 (.lit 10) sd95
def sd97:E:=.div bMP (.lit 65536)
def sd98:E:=.mod sd97 (.lit 256)
def sd99:E:=.upd sd96 (.lit 11) sd98
def sd100:E:=.div bMP (.lit 16777216)
def sd101:E:=.upd sd99 (.lit 12) sd100
def sd102:E:=.blt sd101 (.lit 13) (.lit 554) sd90 (.lit 0)
def sdO:Mem:=[⟨5,[.run .u8 (.lit 8192) (.av 0) 0],true,some 1,false⟩,⟨81,[.one (.int .u16 (.v 0)),.one (.int .u16 (.v 1)),.one (.int .u16 (.v 2)),.one (.int .u16 (.v 3)),.one (.int .u16 (.v 4)),.one (.int .u16 (.v 5)),.one (.int .u16 (.v 6)),.one (.int .u16 (.v 7)),.one (.int .u16 (.v 8)),.one (.int .u16 (.v 9)),.one (.int .u16 (.v 10)),.one (.int .u16 (.v 11)),.one (.int .u16 (.v 12)),.one (.int .u8 (.v 13)),.one (.int .u8 (.v 14)),.one (.int .u8 (.v 15)),.run .u16 (.lit 4) (.av 1) 0,.run .u16 (.lit 256) (.av 2) 0,.one (.slc 0 (.lit 0) (.lit 8192) (.op (.lit 0)))],true,none,false⟩,⟨5,[.run .u8 (.lit 567) sd102 0],true,some 1,false⟩]
def sdS:Go.Sx.Spec:=gM (gV 16 0 3 sdL sdM) sdH sdL sdM [] (.s (.slc 2 (.lit 0) (.lit 567) (.op (.lit 0)))) (some sdO)
set_option maxHeartbeats 4000000 in
theorem sdrun:enter Try.prog SY SYh 3000 60 21 sdH sdL sdM=some ([],.s (.slc 2 (.lit 0) (.lit 567) (.op (.lit 0))),some sdO):=by kernel_rfl
theorem sdok (xs:Nat→Nat→Ext):bD Try.prog (Iv xs) 21 sdS:=gC (bW (SY_ok xs) (by kernel_rfl) 3000 60) sdrun
noncomputable def SR:Ctx:=aKn Try.prog [] (ctx [(32,bFn 5),(27,gD 5),(33,eR 5)]) 3000 60 14
noncomputable def SRh:aZ:=aFg Try.prog [] (ctx [(32,bFn 5),(27,gD 5),(33,eR 5)]) 3000 60 14
theorem SR_ok (I:Interp):cF Try.prog I SR:=nK (pI (fun p hp=>by
 simp only [List.mem_cons,List.not_mem_nil,or_false] at hp
 rcases hp with rfl | rfl | rfl
 ·exact bDJ bSQ
 ·exact kV bHa
 ·exact jO bHh)) (by kernel_rfl) 3000 60 14
set_option maxHeartbeats 4000000 in
theorem wrrun:enter Try.prog SR SRh 3000 60 15 ⟨[],[],[],[],[],[]⟩ [] []=some ([],.s (.bool (.blit true)),none):=by kernel_rfl
theorem wrok (I:Interp):bD Try.prog I 15 sF:=aXc (fun I=>SR_ok I) (by kernel_rfl) wrrun
end Go.Proofs.Ytcckecfjjccffaa
