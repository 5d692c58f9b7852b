/- A contract of the signal chip: a step, whatever it holds. No condition. -/
import Derived.Test.YtcckecfjjccffaaSgb
namespace Go.Proofs.Ytcckecfjjccffaa
open Go.Sx Go.ChangeShapes Go.WideShapes Go.ChangeAt Go.RowKit
set_option linter.unusedVariables false
set_option linter.unusedSimpArgs false
set_option maxRecDepth 100000
noncomputable def SX:Ctx:=aHE Try.prog [] (ctx [(36,aEt 1 16 (enter Try.prog SG SGh 3000 40 36)),(53,aEt 1 16 (enter Try.prog SG SGh 3000 40 53)),(54,ctS),(35,hcS)]) 3000 40 12
noncomputable def SXh:aV:=aCv Try.prog [] (ctx [(36,aEt 1 16 (enter Try.prog SG SGh 3000 40 36)),(53,aEt 1 16 (enter Try.prog SG SGh 3000 40 53)),(54,ctS),(35,hcS)]) 3000 40 12
theorem bJf (xs:Nat→Nat→Ext):cA Try.prog (Iv xs) SX:=nC (kP (fun p hp=>by
 simp only [List.mem_cons,List.not_mem_nil,or_false] at hp
 rcases hp with rfl | rfl | rfl | rfl
 ·exact aIy 1 16 (bS (vL xs) (by kernel_rfl) 3000 40)
 ·exact aIy 1 16 (bS (vL xs) (by kernel_rfl) 3000 40)
 ·exact ctok xs
 ·exact hcok xs
 )) (by kernel_rfl) 3000 40 12
def sxH:Hyp:=⟨[(.v 0,(0,2047)),(.v 1,(0,65535)),(.v 2,(0,65535)),(.v 3,(0,65535)),(.v 4,(0,65535)),(.v 5,(0,255)),(.v 6,(0,1023)),(.v 7,(0,65535)),(.v 8,(0,65535)),(.v 9,(0,65535)),(.v 10,(0,65535)),(.v 11,(0,65535)),(.v 12,(0,65535)),(.v 13,(0,63)),(.v 14,(0,63)),(.v 15,(0,3))],[(0,(0,255)),(1,(0,2047)),(2,(0,65535))],[(40,(0,65535)),(41,(0,63))],[],[],[]⟩
def sxL:List SV:=[.s (.ptr 1 (.lit 0))]
def sxM:Mem:=[⟨5,[.run .u8 (.lit 8192) (.av 0) 0],true,some 1,false⟩,⟨81,[.one (.int .u16 (.v 0)),.one (.int .u16 (.v 1)),.one (.int .u16 (.v 2)),.one (.int .u16 (.v 3)),.one (.int .u16 (.v 4)),.one (.int .u16 (.v 5)),.one (.int .u16 (.v 6)),.one (.int .u16 (.v 7)),.one (.int .u16 (.v 8)),.one (.int .u16 (.v 9)),.one (.int .u16 (.v 10)),.one (.int .u16 (.v 11)),.one (.int .u16 (.v 12)),.one (.int .u8 (.v 13)),.one (.int .u8 (.v 14)),.one (.int .u8 (.v 15)),.run .u16 (.lit 4) (.av 1) 0,.run .u16 (.lit 256) (.av 2) 0,.one (.slc 0 (.lit 0) (.lit 8192) (.op (.lit 0)))],true,none,false⟩]
def sq5:E:=.le sq4 (.lit 255)
def bFc:E:=.or sq5 mQ
def sq13:E:=.not oQ
def bPf:E:=.or bFc sq13
def sq18:E:=.not aIg
def bPg:E:=.or bPf sq18
def bPh:E:=.or bFc oQ
def bPi:E:=.or bPh sq18
def sq22:E:=.le (.lit 256) sq4
def sq23:E:=.and sq22 oQ
def sq24:E:=.and sq23 aIg
def sq25:E:=.not mQ
def sq26:E:=.and sq24 sq25
def bPj:E:=.or bPi sq26
def sxO:Mem:=[⟨5,[.run .u8 (.lit 8192) (.av 0) 0],true,some 1,false⟩,⟨81,[.one (.int .u16 bPm),.one (.int .u16 bFe),.one (.int .u16 bFh),.one (.int .u16 bFk),.one (.int .u16 bFr),.one (.int .u16 bFt),.one (.int .u16 bFu),.one (.int .u16 bFv),.one (.int .u16 bFw),.one (.int .u16 bFz),.one (.int .u16 bFA),.one (.int .u16 bFB),.one (.int .u16 bFC),.one (.int .u8 bFD),.one (.int .u8 bFE),.one (.int .u8 bFF),.run .u16 (.lit 4) bFH 0,.run .u16 (.lit 256) bFI 0,.one (.slc 0 (.lit 0) (.lit 8192) (.op (.lit 0)))],true,none,false⟩]
def sxS:Go.Sx.Spec:=fC (fK 16 0 3 sxL sxM) sxH sxL sxM [] (.s (.int .i64 (.lit 1))) (some sxO)
set_option maxHeartbeats 4000000 in
theorem bLw:enter Try.prog SX SXh 3000 40 17 sxH sxL sxM=some ([bPg,bPj],.s (.int .i64 (.lit 1)),some sxO):=by kernel_rfl
theorem bLv (xs:Nat→Nat→Ext) (ρ:Env) (hI:ρ.I=Iv xs) (hH:sxH.ok ρ) (_:bD ρ []):bD ρ [bPg,bPj]:=by
 have r:=hH.e (.v 5,(0,255)) (by simp [sxH])
 simp only [inR,i_v] at r
 have h5:E.b ρ sq5=true:=by
  simp only [sq0,sq1,sq2,sq3,sq4,sq5,sgm,sgn,decide_eq_true_eq]
  omega
 have h11:E.b ρ bFc=true:=by show (E.b ρ sq5||_)=true;rw [h5];rfl
 have h14:E.b ρ bPf=true:=by show (E.b ρ bFc||_)=true;rw [h11];rfl
 have h19:E.b ρ bPg=true:=by show (E.b ρ bPf||_)=true;rw [h14];rfl
 have h20:E.b ρ bPh=true:=by show (E.b ρ bFc||_)=true;rw [h11];rfl
 have h21:E.b ρ bPi=true:=by show (E.b ρ bPh||_)=true;rw [h20];rfl
 have h27:E.b ρ bPj=true:=by show (E.b ρ bPi||_)=true;rw [h21];rfl
 intro e he
 simp only [List.mem_cons,List.not_mem_nil,or_false] at he
 rcases he with rfl | rfl
 ·exact h19
 ·exact h27
theorem sxok (xs:Nat→Nat→Ext):aX Try.prog (Iv xs) 17 sxS:=gG (aTq (bS (bJf xs) (by kernel_rfl) 3000 40) bLw (bLv xs)) (aTp _ _ _ _ _ _)
end Go.Proofs.Ytcckecfjjccffaa
