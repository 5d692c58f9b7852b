/- A contract of the signal chip: a step, whatever it holds. No condition. -/
import Derived.Test.YtcckecfjjccffaaSgb
namespace Go.Proofs.Ytcckecfjjccffaa
open Go.Sx Go.ChangeShapes Go.WideShapes Go.ChangeAt Go.RowKit
set_option linter.unusedVariables false
set_option linter.unusedSimpArgs false
set_option maxRecDepth 100000
noncomputable def SX:Ctx:=aIr Try.prog [] (ctx [(36,aFg 1 16 (enter Try.prog SG SGh 3000 40 36)),(53,aFg 1 16 (enter Try.prog SG SGh 3000 40 53)),(54,ctS),(35,hcS)]) 3000 40 12
noncomputable def SXh:aU:=aDi Try.prog [] (ctx [(36,aFg 1 16 (enter Try.prog SG SGh 3000 40 36)),(53,aFg 1 16 (enter Try.prog SG SGh 3000 40 53)),(54,ctS),(35,hcS)]) 3000 40 12
theorem bKh (xs:Nat→Nat→Ext):bV Try.prog (Iv xs) SX:=nV (mP (fun p hp=>by
 simp only [List.mem_cons,List.not_mem_nil,or_false] at hp
 rcases hp with rfl | rfl | rfl | rfl
 ·exact aJk 1 16 (bP (uN xs) (by kernel_rfl) 3000 40)
 ·exact aJk 1 16 (bP (uN xs) (by kernel_rfl) 3000 40)
 ·exact ctok xs
 ·exact hcok xs
 )) (by kernel_rfl) 3000 40 12
def sxH:Hyp:=⟨[(.v 0,(0,2047)),(.v 1,(0,65535)),(.v 2,(0,65535)),(.v 3,(0,65535)),(.v 4,(0,65535)),(.v 5,(0,255)),(.v 6,(0,1023)),(.v 7,(0,65535)),(.v 8,(0,65535)),(.v 9,(0,65535)),(.v 10,(0,65535)),(.v 11,(0,65535)),(.v 12,(0,65535)),(.v 13,(0,63)),(.v 14,(0,63)),(.v 15,(0,3))],[(0,(0,255)),(1,(0,2047)),(2,(0,65535))],[(40,(0,65535)),(41,(0,63))],[],[],[]⟩
def sxL:List SV:=[.s (.ptr 1 (.lit 0))]
def sxM:Mem:=[⟨5,[.run .u8 (.lit 8192) (.av 0) 0],true,some 1,false⟩,⟨81,[.one (.int .u16 (.v 0)),.one (.int .u16 (.v 1)),.one (.int .u16 (.v 2)),.one (.int .u16 (.v 3)),.one (.int .u16 (.v 4)),.one (.int .u16 (.v 5)),.one (.int .u16 (.v 6)),.one (.int .u16 (.v 7)),.one (.int .u16 (.v 8)),.one (.int .u16 (.v 9)),.one (.int .u16 (.v 10)),.one (.int .u16 (.v 11)),.one (.int .u16 (.v 12)),.one (.int .u8 (.v 13)),.one (.int .u8 (.v 14)),.one (.int .u8 (.v 15)),.run .u16 (.lit 4) (.av 1) 0,.run .u16 (.lit 256) (.av 2) 0,.one (.slc 0 (.lit 0) (.lit 8192) (.op (.lit 0)))],true,none,false⟩]
def sq5:E:=.le sq4 (.lit 255)
def bGx:E:=.or sq5 mA
def sq13:E:=.not nM
def bQV:E:=.or bGx sq13
def sq18:E:=.not aEg
def bQW:E:=.or bQV sq18
def bQX:E:=.or bGx nM
def bQY:E:=.or bQX sq18
def sq22:E:=.le (.lit 256) sq4
def sq23:E:=.and sq22 nM
def sq24:E:=.and sq23 aEg
def sq25:E:=.not mA
def sq26:E:=.and sq24 sq25
def bQZ:E:=.or bQY sq26
def sxO:Mem:=[⟨5,[.run .u8 (.lit 8192) (.av 0) 0],true,some 1,false⟩,⟨81,[.one (.int .u16 bRc),.one (.int .u16 bGz),.one (.int .u16 bGC),.one (.int .u16 bGF),.one (.int .u16 bGL),.one (.int .u16 bGN),.one (.int .u16 bGO),.one (.int .u16 xW),.one (.int .u16 xX),.one (.int .u16 aHo),.one (.int .u16 aHp),.one (.int .u16 bHd),.one (.int .u16 bHe),.one (.int .u8 bHf),.one (.int .u8 bHg),.one (.int .u8 bHh),.run .u16 (.lit 4) bHj 0,.run .u16 (.lit 256) bHk 0,.one (.slc 0 (.lit 0) (.lit 8192) (.op (.lit 0)))],true,none,false⟩]
def sxS:Go.Sx.Spec:=fG (fC 16 0 3 sxL sxM) sxH sxL sxM [] (.s (.int .i64 (.lit 1))) (some sxO)
set_option maxHeartbeats 4000000 in
theorem bMO:enter Try.prog SX SXh 3000 40 17 sxH sxL sxM=some ([bQW,bQZ],.s (.int .i64 (.lit 1)),some sxO):=by kernel_rfl
theorem bMN (xs:Nat→Nat→Ext) (ρ:Env) (hI:ρ.I=Iv xs) (hH:sxH.ok ρ) (_:bC ρ []):bC ρ [bQW,bQZ]:=by
 have r:=hH.e (.v 5,(0,255)) (by simp [sxH])
 simp only [inR,i_v] at r
 have h5:E.b ρ sq5=true:=by
  simp only [sq0,sq1,sq2,sq3,sq4,sq5,sgm,sgn,decide_eq_true_eq]
  omega
 have h11:E.b ρ bGx=true:=by show (E.b ρ sq5||_)=true;rw [h5];rfl
 have h14:E.b ρ bQV=true:=by show (E.b ρ bGx||_)=true;rw [h11];rfl
 have h19:E.b ρ bQW=true:=by show (E.b ρ bQV||_)=true;rw [h14];rfl
 have h20:E.b ρ bQX=true:=by show (E.b ρ bGx||_)=true;rw [h11];rfl
 have h21:E.b ρ bQY=true:=by show (E.b ρ bQX||_)=true;rw [h20];rfl
 have h27:E.b ρ bQZ=true:=by show (E.b ρ bQY||_)=true;rw [h21];rfl
 intro e he
 simp only [List.mem_cons,List.not_mem_nil,or_false] at he
 rcases he with rfl | rfl
 ·exact h19
 ·exact h27
theorem sxok (xs:Nat→Nat→Ext):aW Try.prog (Iv xs) 17 sxS:=fY (aUo (bP (bKh xs) (by kernel_rfl) 3000 40) bMO (bMN xs)) (aUn _ _ _ _ _ _)
end Go.Proofs.Ytcckecfjjccffaa
