/- Contracts of the signal chip: so many steps, told by applications; what reads a saved state. No condition. -/
import Derived.Test.YtcckecfjjccffaaSgs
namespace Go.Proofs.Ytcckecfjjccffaa
open Go.Sx Go.ChangeShapes Go.WideShapes Go.ChangeAt Go.RowKit
set_option linter.unusedVariables false
set_option linter.unusedSimpArgs false
set_option maxRecDepth 100000
def s7X:E:=stX (.lit 1)
def s7O:Mem:=[⟨5,[.run .u8 (.lit 8192) (.av 0) 0],true,some 1,false⟩,⟨81,[.one (.int .u16 (.app 70 s7X)),.one (.int .u16 (.app 71 s7X)),.one (.int .u16 (.app 72 s7X)),.one (.int .u16 (.app 73 s7X)),.one (.int .u16 (.app 74 s7X)),.one (.int .u16 (.app 75 s7X)),.one (.int .u16 (.app 76 s7X)),.one (.int .u16 (.app 77 s7X)),.one (.int .u16 (.app 78 s7X)),.one (.int .u16 (.app 79 s7X)),.one (.int .u16 (.app 80 s7X)),.one (.int .u16 (.app 81 s7X)),.one (.int .u16 (.app 82 s7X)),.one (.int .u8 (.app 83 s7X)),.one (.int .u8 (.app 84 s7X)),.one (.int .u8 (.app 85 s7X)),.run .u16 (.lit 4) (.app 90 s7X) 0,.run .u16 (.lit 256) (.app 91 s7X) 0,.one (.slc 0 (.lit 0) (.lit 8192) (.op (.lit 0)))],true,none,false⟩]
def s7S:Go.Sx.Spec:=fC (fK 16 0 3 sxL sxM) sxH sxL sxM [] (.s (.int .i64 (.lit 1))) (some s7O)
theorem bOr {ρ:Env} {a b:E} (h1:0≤a.i ρ∧a.i ρ≤255) (h2:0≤b.i ρ∧b.i ρ≤255):0≤E.i ρ (.bits .or .u16 a b)∧E.i ρ (.bits .or .u16 a b)≤255:=by
 show 0≤aN .or .u16 (a.i ρ) (b.i ρ)∧aN .or .u16 (a.i ρ) (b.i ρ)≤255
 obtain ⟨n,hn⟩:=Int.eq_ofNat_of_zero_le h1.1
 obtain ⟨m,hm⟩:=Int.eq_ofNat_of_zero_le h2.1
 rw [hn] at h1 ⊢
 rw [hm] at h2 ⊢
 have l2:n ||| m<2 ^ 8:=Nat.or_lt_two_pow (by omega) (by omega)
 rw [show aN .or .u16 (n:Int) (m:Int)=((n ||| m:Nat):Int) from (Go.Sx.bits_nat (k:=.u16) (by decide) (n:=n) (m:=m) (by omega) (by omega)).2.1]
 omega
theorem bXor {ρ:Env} {a b:E} (h1:0≤a.i ρ∧a.i ρ≤255) (h2:0≤b.i ρ∧b.i ρ≤255):0≤E.i ρ (.bits .xor .u16 a b)∧E.i ρ (.bits .xor .u16 a b)≤255:=by
 show 0≤aN .xor .u16 (a.i ρ) (b.i ρ)∧aN .xor .u16 (a.i ρ) (b.i ρ)≤255
 obtain ⟨n,hn⟩:=Int.eq_ofNat_of_zero_le h1.1
 obtain ⟨m,hm⟩:=Int.eq_ofNat_of_zero_le h2.1
 rw [hn] at h1 ⊢
 rw [hm] at h2 ⊢
 have l2:n ^^^ m<2 ^ 8:=Nat.xor_lt_two_pow (by omega) (by omega)
 rw [show aN .xor .u16 (n:Int) (m:Int)=((n ^^^ m:Nat):Int) from (Go.Sx.bits_nat (k:=.u16) (by decide) (n:=n) (m:=m) (by omega) (by omega)).2.2]
 omega
theorem aTD {ρ:Env} {c a b:E} (h1:0≤a.i ρ∧a.i ρ≤255) (h2:0≤b.i ρ∧b.i ρ≤255):0≤E.i ρ (.ite c a b)∧E.i ρ (.ite c a b)≤255:=by
 rw [aT]
 split
 ·exact h1
 ·exact h2
theorem oE {ρ:Env} {c a b:E} {h:Int} (h1:0≤a.i ρ∧a.i ρ≤h) (h2:0≤b.i ρ∧b.i ρ≤h):0≤E.i ρ (.ite c a b)∧E.i ρ (.ite c a b)≤h:=by
 rw [aT]
 split
 ·exact h1
 ·exact h2
theorem updW {ρ:Env} {A i x:E} {h:Int} (h1:∀ j,0≤A.a ρ j∧A.a ρ j≤h) (h2:0≤x.i ρ∧x.i ρ≤h) (j:Nat):0≤E.a ρ (.upd A i x) j∧E.a ρ (.upd A i x) j≤h:=by
 rw [cC]
 show 0≤(if j=_ then _ else _)∧(if j=_ then _ else _)≤h
 split
 ·exact h2
 ·exact h1 j
theorem selW {ρ:Env} {A i:E} {h:Int} (h1:∀ j,0≤A.a ρ j∧A.a ρ j≤h):0≤E.i ρ (.sel A i)∧E.i ρ (.sel A i)≤h:=h1 _
theorem s7vc (xs:Nat→Nat→Ext) (ρ:Env) (hI:ρ.I=Iv xs) (hH:sxH.ok ρ):mR ρ ρ sxO s7O:=by
 have k0:=tO (IvF.of hI) 0 (by decide) bPm 2048 rfl rfl (by kernel_rfl) (bF hH (by kernel_rfl))
 have k1:=tO (IvF.of hI) 1 (by decide) bFe 65536 rfl rfl (by kernel_rfl) (bF hH (by kernel_rfl))
 have k2:=tO (IvF.of hI) 2 (by decide) bFh 65536 rfl rfl (by kernel_rfl) (bF hH (by kernel_rfl))
 have k3:=tO (IvF.of hI) 3 (by decide) bFk 65536 rfl rfl (by kernel_rfl) (bF hH (by kernel_rfl))
 have k4:=tO (IvF.of hI) 4 (by decide) bFr 65536 rfl rfl (by kernel_rfl) (bF hH (by kernel_rfl))
 have k5:=tO (IvF.of hI) 5 (by decide) bFt 256 rfl rfl (by kernel_rfl) (aTD (bF hH (by kernel_rfl)) (aTD (aTD (bF hH (by kernel_rfl)) (aTD (bF hH (by kernel_rfl)) (bF hH (by kernel_rfl)))) (aTD (aTD (bF hH (by kernel_rfl)) (aTD (bF hH (by kernel_rfl)) (bF hH (by kernel_rfl)))) (bOr (bXor (bF hH (by kernel_rfl)) (bF hH (by kernel_rfl))) (bF hH (by kernel_rfl))))))
 have k6:=tO (IvF.of hI) 6 (by decide) bFu 1024 rfl rfl (by kernel_rfl) (bF hH (by kernel_rfl))
 have k7:=tO (IvF.of hI) 7 (by decide) bFv 65536 rfl rfl (by kernel_rfl) (bF hH (by kernel_rfl))
 have k8:=tO (IvF.of hI) 8 (by decide) bFw 65536 rfl rfl (by kernel_rfl) (bF hH (by kernel_rfl))
 have k9:=tO (IvF.of hI) 9 (by decide) bFz 65536 rfl rfl (by kernel_rfl) (bF hH (by kernel_rfl))
 have k10:=tO (IvF.of hI) 10 (by decide) bFA 65536 rfl rfl (by kernel_rfl) (bF hH (by kernel_rfl))
 have k11:=tO (IvF.of hI) 11 (by decide) bFB 65536 rfl rfl (by kernel_rfl) (bF hH (by kernel_rfl))
 have k12:=tO (IvF.of hI) 12 (by decide) bFC 65536 rfl rfl (by kernel_rfl) (bF hH (by kernel_rfl))
 have k13:=tO (IvF.of hI) 13 (by decide) bFD 64 rfl rfl (by kernel_rfl) (bF hH (by kernel_rfl))
 have k14:=tO (IvF.of hI) 14 (by decide) bFE 64 rfl rfl (by kernel_rfl) (bF hH (by kernel_rfl))
 have k15:=tO (IvF.of hI) 15 (by decide) bFF 4 rfl rfl (by kernel_rfl) (bF hH (by kernel_rfl))
 have kS:=st_S (IvF.of hI) bFH (by kernel_rfl) (fun _ _=>rfl) (aTB hH (by kernel_rfl))
 have kR:=st_R (IvF.of hI) bFI (by kernel_rfl) (fun _ _=>rfl) (updW (aTB hH (by kernel_rfl)) (oE (bF hH (by kernel_rfl)) (oE (oE (bF hH (by kernel_rfl)) (oE (bF hH (by kernel_rfl)) (oE (bF hH (by kernel_rfl)) (bF hH (by kernel_rfl))))) (selW (updW (aTB hH (by kernel_rfl)) (oE (bF hH (by kernel_rfl)) (oE (bF hH (by kernel_rfl)) (oE (bF hH (by kernel_rfl)) (oE (bF hH (by kernel_rfl)) (oE (bF hH (by kernel_rfl)) (oE (bF hH (by kernel_rfl)) (oE (bF hH (by kernel_rfl)) (oE (bF hH (by kernel_rfl)) (oE (oE (bF hH (by kernel_rfl)) (bF hH (by kernel_rfl))) (oE (bF hH (by kernel_rfl)) (oE (bF hH (by kernel_rfl)) (oE (bF hH (by kernel_rfl)) (oE (bF hH (by kernel_rfl)) (oE (bF hH (by kernel_rfl)) (bF hH (by kernel_rfl)))))))))))))))))))))
 exact ⟨⟨⟨rfl,rfl,rfl,rfl⟩,Or.inr ⟨⟨rfl,rfl,fun _ _=>rfl⟩,trivial⟩⟩,⟨⟨rfl,rfl,rfl,rfl⟩,Or.inr ⟨⟨rfl,k0⟩,⟨rfl,k1⟩,⟨rfl,k2⟩,⟨rfl,k3⟩,⟨rfl,k4⟩,⟨rfl,k5⟩,⟨rfl,k6⟩,⟨rfl,k7⟩,⟨rfl,k8⟩,⟨rfl,k9⟩,⟨rfl,k10⟩,⟨rfl,k11⟩,⟨rfl,k12⟩,⟨rfl,k13⟩,⟨rfl,k14⟩,⟨rfl,k15⟩,⟨rfl,rfl,fun j _=>kS (0+j)⟩,⟨rfl,rfl,fun j _=>kR (0+j)⟩,⟨rfl,rfl,rfl,rfl⟩,trivial⟩⟩,trivial⟩
theorem s7eq (xs:Nat→Nat→Ext) (ρ:Env) (hI:ρ.I=Iv xs) (hz:eF ρ 16 0 3) (hH:sxH.ok ρ) (hn:bD ρ []):bD ρ []∧VEq ρ ρ (.s (.int .i64 (.lit 1))) (.s (.int .i64 (.lit 1)))∧aEc ρ (some sxO) (some s7O):=⟨hn,⟨rfl,rfl⟩,s7vc xs ρ hI hH⟩
theorem s7ok (xs:Nat→Nat→Ext):aX Try.prog (Iv xs) 17 s7S:=fB (qT (fI.of (aTq (bS (bJf xs) (by kernel_rfl) 3000 40) bLw (bLv xs))) (aTp _ _ _ _ _ _) rfl rfl (s7eq xs)) (dT _ _ _ _ _ _)
noncomputable def SN7:Ctx:=inl Try.prog (ctx [(17,s7S)]) 3000 60 14
noncomputable def SN7h:aV:=bCV Try.prog (ctx [(17,s7S)]) 3000 60 14
theorem bLC (xs:Nat→Nat→Ext):cA Try.prog (Iv xs) SN7:=yA (kP (fun p hp=>by
 simp only [List.mem_cons,List.not_mem_nil,or_false] at hp
 rcases hp with rfl
 ·exact s7ok xs
 )) (by kernel_rfl) 3000 60 14
def rnX:E:=stX (.v 16)
def rnH:Hyp:=⟨[(.v 0,(0,2047)),(.v 1,(0,65535)),(.v 2,(0,65535)),(.v 3,(0,65535)),(.v 4,(0,65535)),(.v 5,(0,255)),(.v 6,(0,1023)),(.v 7,(0,65535)),(.v 8,(0,65535)),(.v 9,(0,65535)),(.v 10,(0,65535)),(.v 11,(0,65535)),(.v 12,(0,65535)),(.v 13,(0,63)),(.v 14,(0,63)),(.v 15,(0,3)),(.v 16,(0,3000))],[(0,(0,255)),(1,(0,2047)),(2,(0,65535))],[(40,(0,65535)),(41,(0,63)),(70,(0,2047)),(71,(0,65535)),(72,(0,65535)),(73,(0,65535)),(74,(0,65535)),(75,(0,255)),(76,(0,1023)),(77,(0,65535)),(78,(0,65535)),(79,(0,65535)),(80,(0,65535)),(81,(0,65535)),(82,(0,65535)),(83,(0,63)),(84,(0,63)),(85,(0,3))],[(20,(0,255)),(50,(0,255)),(90,(0,2047)),(91,(0,65535))],[],[]⟩
def rnL:List SV:=[.s (.ptr 1 (.lit 0)),.s (.int .i64 (.v 16))]
def rnM:Mem:=[⟨5,[.run .u8 (.lit 8192) (.av 0) 0],true,some 1,false⟩,⟨81,[.one (.int .u16 (.v 0)),.one (.int .u16 (.v 1)),.one (.int .u16 (.v 2)),.one (.int .u16 (.v 3)),.one (.int .u16 (.v 4)),.one (.int .u16 (.v 5)),.one (.int .u16 (.v 6)),.one (.int .u16 (.v 7)),.one (.int .u16 (.v 8)),.one (.int .u16 (.v 9)),.one (.int .u16 (.v 10)),.one (.int .u16 (.v 11)),.one (.int .u16 (.v 12)),.one (.int .u8 (.v 13)),.one (.int .u8 (.v 14)),.one (.int .u8 (.v 15)),.run .u16 (.lit 4) (.av 1) 0,.run .u16 (.lit 256) (.av 2) 0,.one (.slc 0 (.lit 0) (.lit 8192) (.op (.lit 0)))],true,none,false⟩]
def rnO:Mem:=[⟨5,[.run .u8 (.lit 8192) (.av 0) 0],true,some 1,false⟩,⟨81,[.one (.int .u16 (.app 70 rnX)),.one (.int .u16 (.app 71 rnX)),.one (.int .u16 (.app 72 rnX)),.one (.int .u16 (.app 73 rnX)),.one (.int .u16 (.app 74 rnX)),.one (.int .u16 (.app 75 rnX)),.one (.int .u16 (.app 76 rnX)),.one (.int .u16 (.app 77 rnX)),.one (.int .u16 (.app 78 rnX)),.one (.int .u16 (.app 79 rnX)),.one (.int .u16 (.app 80 rnX)),.one (.int .u16 (.app 81 rnX)),.one (.int .u16 (.app 82 rnX)),.one (.int .u8 (.app 83 rnX)),.one (.int .u8 (.app 84 rnX)),.one (.int .u8 (.app 85 rnX)),.run .u16 (.lit 4) (.app 90 rnX) 0,.run .u16 (.lit 256) (.app 91 rnX) 0,.one (.slc 0 (.lit 0) (.lit 8192) (.op (.lit 0)))],true,none,false⟩]
def rnN:List E:=[]
def rnR:SV:=.s (.int .i64 (.lit 0))
--SKEND
def rn0:E:=.lt (.v 17) (.v 16)
def rn1:E:=.app 85 (.cons (.lit 1) (.cons (.v 18) (.cons (.v 19) (.cons (.v 20) (.cons (.v 21) (.cons (.v 22) (.cons (.v 23) (.cons (.v 24) (.cons (.v 25) (.cons (.v 26) (.cons (.v 27) (.cons (.v 28) (.cons (.v 29) (.cons (.v 30) (.cons (.v 31) (.cons (.v 32) (.cons (.v 33) (.cons (.av 0) (.cons (.av 3) (.cons (.av 4) .nil))))))))))))))))))))
def rn2:E:=.app 84 (.cons (.lit 1) (.cons (.v 18) (.cons (.v 19) (.cons (.v 20) (.cons (.v 21) (.cons (.v 22) (.cons (.v 23) (.cons (.v 24) (.cons (.v 25) (.cons (.v 26) (.cons (.v 27) (.cons (.v 28) (.cons (.v 29) (.cons (.v 30) (.cons (.v 31) (.cons (.v 32) (.cons (.v 33) (.cons (.av 0) (.cons (.av 3) (.cons (.av 4) .nil))))))))))))))))))))
def rn3:E:=.app 83 (.cons (.lit 1) (.cons (.v 18) (.cons (.v 19) (.cons (.v 20) (.cons (.v 21) (.cons (.v 22) (.cons (.v 23) (.cons (.v 24) (.cons (.v 25) (.cons (.v 26) (.cons (.v 27) (.cons (.v 28) (.cons (.v 29) (.cons (.v 30) (.cons (.v 31) (.cons (.v 32) (.cons (.v 33) (.cons (.av 0) (.cons (.av 3) (.cons (.av 4) .nil))))))))))))))))))))
def rn4:E:=.app 82 (.cons (.lit 1) (.cons (.v 18) (.cons (.v 19) (.cons (.v 20) (.cons (.v 21) (.cons (.v 22) (.cons (.v 23) (.cons (.v 24) (.cons (.v 25) (.cons (.v 26) (.cons (.v 27) (.cons (.v 28) (.cons (.v 29) (.cons (.v 30) (.cons (.v 31) (.cons (.v 32) (.cons (.v 33) (.cons (.av 0) (.cons (.av 3) (.cons (.av 4) .nil))))))))))))))))))))
def rn5:E:=.app 81 (.cons (.lit 1) (.cons (.v 18) (.cons (.v 19) (.cons (.v 20) (.cons (.v 21) (.cons (.v 22) (.cons (.v 23) (.cons (.v 24) (.cons (.v 25) (.cons (.v 26) (.cons (.v 27) (.cons (.v 28) (.cons (.v 29) (.cons (.v 30) (.cons (.v 31) (.cons (.v 32) (.cons (.v 33) (.cons (.av 0) (.cons (.av 3) (.cons (.av 4) .nil))))))))))))))))))))
def rn6:E:=.app 80 (.cons (.lit 1) (.cons (.v 18) (.cons (.v 19) (.cons (.v 20) (.cons (.v 21) (.cons (.v 22) (.cons (.v 23) (.cons (.v 24) (.cons (.v 25) (.cons (.v 26) (.cons (.v 27) (.cons (.v 28) (.cons (.v 29) (.cons (.v 30) (.cons (.v 31) (.cons (.v 32) (.cons (.v 33) (.cons (.av 0) (.cons (.av 3) (.cons (.av 4) .nil))))))))))))))))))))
def rn7:E:=.app 79 (.cons (.lit 1) (.cons (.v 18) (.cons (.v 19) (.cons (.v 20) (.cons (.v 21) (.cons (.v 22) (.cons (.v 23) (.cons (.v 24) (.cons (.v 25) (.cons (.v 26) (.cons (.v 27) (.cons (.v 28) (.cons (.v 29) (.cons (.v 30) (.cons (.v 31) (.cons (.v 32) (.cons (.v 33) (.cons (.av 0) (.cons (.av 3) (.cons (.av 4) .nil))))))))))))))))))))
def rn8:E:=.app 78 (.cons (.lit 1) (.cons (.v 18) (.cons (.v 19) (.cons (.v 20) (.cons (.v 21) (.cons (.v 22) (.cons (.v 23) (.cons (.v 24) (.cons (.v 25) (.cons (.v 26) (.cons (.v 27) (.cons (.v 28) (.cons (.v 29) (.cons (.v 30) (.cons (.v 31) (.cons (.v 32) (.cons (.v 33) (.cons (.av 0) (.cons (.av 3) (.cons (.av 4) .nil))))))))))))))))))))
def rn9:E:=.app 77 (.cons (.lit 1) (.cons (.v 18) (.cons (.v 19) (.cons (.v 20) (.cons (.v 21) (.cons (.v 22) (.cons (.v 23) (.cons (.v 24) (.cons (.v 25) (.cons (.v 26) (.cons (.v 27) (.cons (.v 28) (.cons (.v 29) (.cons (.v 30) (.cons (.v 31) (.cons (.v 32) (.cons (.v 33) (.cons (.av 0) (.cons (.av 3) (.cons (.av 4) .nil))))))))))))))))))))
def bOK:E:=.app 76 (.cons (.lit 1) (.cons (.v 18) (.cons (.v 19) (.cons (.v 20) (.cons (.v 21) (.cons (.v 22) (.cons (.v 23) (.cons (.v 24) (.cons (.v 25) (.cons (.v 26) (.cons (.v 27) (.cons (.v 28) (.cons (.v 29) (.cons (.v 30) (.cons (.v 31) (.cons (.v 32) (.cons (.v 33) (.cons (.av 0) (.cons (.av 3) (.cons (.av 4) .nil))))))))))))))))))))
def bOL:E:=.app 75 (.cons (.lit 1) (.cons (.v 18) (.cons (.v 19) (.cons (.v 20) (.cons (.v 21) (.cons (.v 22) (.cons (.v 23) (.cons (.v 24) (.cons (.v 25) (.cons (.v 26) (.cons (.v 27) (.cons (.v 28) (.cons (.v 29) (.cons (.v 30) (.cons (.v 31) (.cons (.v 32) (.cons (.v 33) (.cons (.av 0) (.cons (.av 3) (.cons (.av 4) .nil))))))))))))))))))))
def bOM:E:=.app 74 (.cons (.lit 1) (.cons (.v 18) (.cons (.v 19) (.cons (.v 20) (.cons (.v 21) (.cons (.v 22) (.cons (.v 23) (.cons (.v 24) (.cons (.v 25) (.cons (.v 26) (.cons (.v 27) (.cons (.v 28) (.cons (.v 29) (.cons (.v 30) (.cons (.v 31) (.cons (.v 32) (.cons (.v 33) (.cons (.av 0) (.cons (.av 3) (.cons (.av 4) .nil))))))))))))))))))))
def bON:E:=.app 73 (.cons (.lit 1) (.cons (.v 18) (.cons (.v 19) (.cons (.v 20) (.cons (.v 21) (.cons (.v 22) (.cons (.v 23) (.cons (.v 24) (.cons (.v 25) (.cons (.v 26) (.cons (.v 27) (.cons (.v 28) (.cons (.v 29) (.cons (.v 30) (.cons (.v 31) (.cons (.v 32) (.cons (.v 33) (.cons (.av 0) (.cons (.av 3) (.cons (.av 4) .nil))))))))))))))))))))
def bOO:E:=.app 72 (.cons (.lit 1) (.cons (.v 18) (.cons (.v 19) (.cons (.v 20) (.cons (.v 21) (.cons (.v 22) (.cons (.v 23) (.cons (.v 24) (.cons (.v 25) (.cons (.v 26) (.cons (.v 27) (.cons (.v 28) (.cons (.v 29) (.cons (.v 30) (.cons (.v 31) (.cons (.v 32) (.cons (.v 33) (.cons (.av 0) (.cons (.av 3) (.cons (.av 4) .nil))))))))))))))))))))
def bOP:E:=.app 71 (.cons (.lit 1) (.cons (.v 18) (.cons (.v 19) (.cons (.v 20) (.cons (.v 21) (.cons (.v 22) (.cons (.v 23) (.cons (.v 24) (.cons (.v 25) (.cons (.v 26) (.cons (.v 27) (.cons (.v 28) (.cons (.v 29) (.cons (.v 30) (.cons (.v 31) (.cons (.v 32) (.cons (.v 33) (.cons (.av 0) (.cons (.av 3) (.cons (.av 4) .nil))))))))))))))))))))
def bOQ:E:=.app 70 (.cons (.lit 1) (.cons (.v 18) (.cons (.v 19) (.cons (.v 20) (.cons (.v 21) (.cons (.v 22) (.cons (.v 23) (.cons (.v 24) (.cons (.v 25) (.cons (.v 26) (.cons (.v 27) (.cons (.v 28) (.cons (.v 29) (.cons (.v 30) (.cons (.v 31) (.cons (.v 32) (.cons (.v 33) (.cons (.av 0) (.cons (.av 3) (.cons (.av 4) .nil))))))))))))))))))))
def bOR:E:=.add (.v 17) (.lit 1)
def bOS:E:=.app 91 (.cons (.lit 1) (.cons (.v 18) (.cons (.v 19) (.cons (.v 20) (.cons (.v 21) (.cons (.v 22) (.cons (.v 23) (.cons (.v 24) (.cons (.v 25) (.cons (.v 26) (.cons (.v 27) (.cons (.v 28) (.cons (.v 29) (.cons (.v 30) (.cons (.v 31) (.cons (.v 32) (.cons (.v 33) (.cons (.av 0) (.cons (.av 3) (.cons (.av 4) .nil))))))))))))))))))))
def bOT:E:=.app 90 (.cons (.lit 1) (.cons (.v 18) (.cons (.v 19) (.cons (.v 20) (.cons (.v 21) (.cons (.v 22) (.cons (.v 23) (.cons (.v 24) (.cons (.v 25) (.cons (.v 26) (.cons (.v 27) (.cons (.v 28) (.cons (.v 29) (.cons (.v 30) (.cons (.v 31) (.cons (.v 32) (.cons (.v 33) (.cons (.av 0) (.cons (.av 3) (.cons (.av 4) .nil))))))))))))))))))))
noncomputable def bEP:List Item:=mL Try.prog 10 9
noncomputable def aSS:Head:=⟨9,bEP,⟨[((.v 0),(0,2047)),((.v 1),(0,65535)),((.v 2),(0,65535)),((.v 3),(0,65535)),((.v 4),(0,65535)),((.v 5),(0,255)),((.v 6),(0,1023)),((.v 7),(0,65535)),((.v 8),(0,65535)),((.v 9),(0,65535)),((.v 10),(0,65535)),((.v 11),(0,65535)),((.v 12),(0,65535)),((.v 13),(0,63)),((.v 14),(0,63)),((.v 15),(0,3)),((.v 16),(0,3000)),((.v 17),(0,3000)),((.v 18),(0,2047)),((.v 19),(0,65535)),((.v 20),(0,65535)),((.v 21),(0,65535)),((.v 22),(0,65535)),((.v 23),(0,255)),((.v 24),(0,1023)),((.v 25),(0,65535)),((.v 26),(0,65535)),((.v 27),(0,65535)),((.v 28),(0,65535)),((.v 29),(0,65535)),((.v 30),(0,65535)),((.v 31),(0,63)),((.v 32),(0,63)),((.v 33),(0,3))],[(0,(0,255)),(1,(0,2047)),(2,(0,65535)),(3,(0,2047)),(4,(0,65535))],[(40,(0,65535)),(41,(0,63)),(70,(0,2047)),(71,(0,65535)),(72,(0,65535)),(73,(0,65535)),(74,(0,65535)),(75,(0,255)),(76,(0,1023)),(77,(0,65535)),(78,(0,65535)),(79,(0,65535)),(80,(0,65535)),(81,(0,65535)),(82,(0,65535)),(83,(0,63)),(84,(0,63)),(85,(0,3))],[(20,(0,255)),(50,(0,255)),(90,(0,2047)),(91,(0,65535))],[],[]⟩,[⟨15,[],.s (.int .i64 (.v 17))⟩,⟨14,[],.s (.int .i64 (.v 16))⟩,⟨0,[],.s (.ptr 1 (.lit 0))⟩],[⟨5,[.run .u8 (.lit 8192) (.av 0) 0],true,some 1,false⟩,⟨81,[.one (.int .u16 (.v 18)),.one (.int .u16 (.v 19)),.one (.int .u16 (.v 20)),.one (.int .u16 (.v 21)),.one (.int .u16 (.v 22)),.one (.int .u16 (.v 23)),.one (.int .u16 (.v 24)),.one (.int .u16 (.v 25)),.one (.int .u16 (.v 26)),.one (.int .u16 (.v 27)),.one (.int .u16 (.v 28)),.one (.int .u16 (.v 29)),.one (.int .u16 (.v 30)),.one (.int .u8 (.v 31)),.one (.int .u8 (.v 32)),.one (.int .u8 (.v 33)),.run .u16 (.lit 4) (.av 3) 0,.run .u16 (.lit 256) (.av 4) 0,.one (.slc 0 (.lit 0) (.lit 8192) (.op (.lit 0)))],true,none,false⟩]⟩
noncomputable def bAQ:List Head:=[aSS]
def rnD:Dim:=⟨34,0,5,17,0,3,2⟩
theorem rnst:gD Try.prog SN7 SN7h rnD bAQ [] 3000 0 10 rnH rnL rnM=some (.jump 0 bEP ⟨[(33,(.v 15)),(32,(.v 14)),(31,(.v 13)),(30,(.v 12)),(29,(.v 11)),(28,(.v 10)),(27,(.v 9)),(26,(.v 8)),(25,(.v 7)),(24,(.v 6)),(23,(.v 5)),(22,(.v 4)),(21,(.v 3)),(20,(.v 2)),(19,(.v 1)),(18,(.v 0)),(17,(.lit 0))],[],[(4,(.av 2)),(3,(.av 1))]⟩):=by kernel_rfl
theorem rnsg0:mM Try.prog SN7 SN7h rnD bAQ [] 3000 0 10 aSS=some (.ite rn0 (.jump 0 bEP ⟨[(33,rn1),(32,rn2),(31,rn3),(30,rn4),(29,rn5),(28,rn6),(27,rn7),(26,rn8),(25,rn9),(24,bOK),(23,bOL),(22,bOM),(21,bON),(20,bOO),(19,bOP),(18,bOQ),(17,bOR)],[],[(4,bOS),(3,bOT)]⟩) (.ret (.s (.int .i64 (.lit 0))) [⟨5,[.run .u8 (.lit 8192) (.av 0) 0],true,some 1,false⟩,⟨81,[.one (.int .u16 (.v 18)),.one (.int .u16 (.v 19)),.one (.int .u16 (.v 20)),.one (.int .u16 (.v 21)),.one (.int .u16 (.v 22)),.one (.int .u16 (.v 23)),.one (.int .u16 (.v 24)),.one (.int .u16 (.v 25)),.one (.int .u16 (.v 26)),.one (.int .u16 (.v 27)),.one (.int .u16 (.v 28)),.one (.int .u16 (.v 29)),.one (.int .u16 (.v 30)),.one (.int .u8 (.v 31)),.one (.int .u8 (.v 32)),.one (.int .u8 (.v 33)),.run .u16 (.lit 4) (.av 3) 0,.run .u16 (.lit 256) (.av 4) 0,.one (.slc 0 (.lit 0) (.lit 8192) (.op (.lit 0)))],true,none,false⟩])):=by kernel_rfl
def rnV (i0 i1 i2 i3 i4 i5 i6 i7 i8 i9 i10 i11 i12 i13 i14 i15 i16 d f g q r t w y z B C D F G K L M:Int) (N O P Q T:Nat→Int) (vs:List Value) (J:Interp):Env:=⟨[i0,i1,i2,i3,i4,i5,i6,i7,i8,i9,i10,i11,i12,i13,i14,i15,i16,d,f,g,q,r,t,w,y,z,B,C,D,F,G,K,L,M],[],[N,O,P,Q,T],vs,J⟩
def rnJ (i0 i1 i2 i3 i4 i5 i6 i7 i8 i9 i10 i11 i12 i13 i14 i15 i16 d f g q r t w y z B C D F G K L M:Int) (N O P Q T:Nat→Int):Nat→Prop
 | 0=>(0≤d∧d≤3000)∧(0≤f∧f≤2047)∧(0≤g∧g≤65535)∧(0≤q∧q≤65535)∧(0≤r∧r≤65535)∧(0≤t∧t≤65535)∧(0≤w∧w≤255)∧(0≤y∧y≤1023)∧(0≤z∧z≤65535)∧(0≤B∧B≤65535)∧(0≤C∧C≤65535)∧(0≤D∧D≤65535)∧(0≤F∧F≤65535)∧(0≤G∧G≤65535)∧(0≤K∧K≤63)∧(0≤L∧L≤63)∧(0≤M∧M≤3)∧(∀ j,0≤Q j∧Q j≤2047)∧(∀ j,0≤T j∧T j≤65535)∧d≤i16∧(⟨[f,g,q,r,t,w,y,z,B,C,D,F,G,K,L,M],Q,T⟩:St)=stN N d.toNat ⟨[i0,i1,i2,i3,i4,i5,i6,i7,i8,i9,i10,i11,i12,i13,i14,i15],O,P⟩
 | _=>False
def bOU:Nat→Env→Nat
 | 0,ρ=>(ρ.i.getD 16 0-ρ.i.getD 17 0).toNat
 | _,_=>0
theorem rnok0 (i0 i1 i2 i3 i4 i5 i6 i7 i8 i9 i10 i11 i12 i13 i14 i15 i16 d f g q r t w y z B C D F G K L M:Int) (N O P Q T:Nat→Int) (vs:List Value) (J:Interp) (r0:0≤i0∧i0≤2047) (r1:0≤i1∧i1≤65535) (r2:0≤i2∧i2≤65535) (r3:0≤i3∧i3≤65535) (r4:0≤i4∧i4≤65535) (r5:0≤i5∧i5≤255) (r6:0≤i6∧i6≤1023) (r7:0≤i7∧i7≤65535) (r8:0≤i8∧i8≤65535) (r9:0≤i9∧i9≤65535) (U:0≤i10∧i10≤65535) (V:0≤i11∧i11≤65535) (W:0≤i12∧i12≤65535) (X:0≤i13∧i13≤63) (Y:0≤i14∧i14≤63) (Z:0≤i15∧i15≤3) (a0:0≤i16∧i16≤3000) (R0:∀ j,0≤N j∧N j≤255) (R1:∀ j,0≤O j∧O j≤2047) (R2:∀ j,0≤P j∧P j≤65535) (hfi:∀ p ∈ rnH.fi,∀ is bs xs,inR p.2 (J.fi p.1 is bs xs)) (hfa:∀ p ∈ rnH.fa,∀ is bs xs j,inR p.2 (J.fa p.1 is bs xs j)) (hIi:J.fi=Ifi) (hIb:J.fb=Ifb) (hIa:J.fa=Ifa) (hJ:rnJ i0 i1 i2 i3 i4 i5 i6 i7 i8 i9 i10 i11 i12 i13 i14 i15 i16 d f g q r t w y z B C D F G K L M N O P Q T 0):Hyp.ok aSS.H (rnV i0 i1 i2 i3 i4 i5 i6 i7 i8 i9 i10 i11 i12 i13 i14 i15 i16 d f g q r t w y z B C D F G K L M N O P Q T vs J):=by
 simp only [rnJ] at hJ
 obtain ⟨l0,l1,l2,l3,l4,l5,l6,l7,l8,l9,b7,b8,b9,c0,c1,c2,c3,m0,m1,hinv⟩:=hJ
 refine ⟨by simp [aSS],?_,?_,?_,?_,by simp [aSS]⟩
 ·intro p hp
  simp only [aSS,List.mem_cons,List.not_mem_nil,or_false] at hp
  rcases hp with rfl | rfl | rfl | rfl | rfl | rfl | rfl | rfl | rfl | rfl | rfl | rfl | rfl | rfl | rfl | rfl | rfl | rfl | rfl | rfl | rfl | rfl | rfl | rfl | rfl | rfl | rfl | rfl | rfl | rfl | rfl | rfl | rfl | rfl
  ·exact r0
  ·exact r1
  ·exact r2
  ·exact r3
  ·exact r4
  ·exact r5
  ·exact r6
  ·exact r7
  ·exact r8
  ·exact r9
  ·exact U
  ·exact V
  ·exact W
  ·exact X
  ·exact Y
  ·exact Z
  ·exact a0
  ·exact l0
  ·exact l1
  ·exact l2
  ·exact l3
  ·exact l4
  ·exact l5
  ·exact l6
  ·exact l7
  ·exact l8
  ·exact l9
  ·exact b7
  ·exact b8
  ·exact b9
  ·exact c0
  ·exact c1
  ·exact c2
  ·exact c3
 ·intro p hp
  simp only [aSS,List.mem_cons,List.not_mem_nil,or_false] at hp
  rcases hp with rfl | rfl | rfl | rfl | rfl
  ·exact R0
  ·exact R1
  ·exact R2
  ·exact m0
  ·exact m1
 ·exact hfi
 ·exact hfa
theorem rnvcS (i0 i1 i2 i3 i4 i5 i6 i7 i8 i9 i10 i11 i12 i13 i14 i15 i16:Int) (N O P:Nat→Int) (vs:List Value) (J:Interp) (r0:0≤i0∧i0≤2047) (r1:0≤i1∧i1≤65535) (r2:0≤i2∧i2≤65535) (r3:0≤i3∧i3≤65535) (r4:0≤i4∧i4≤65535) (r5:0≤i5∧i5≤255) (r6:0≤i6∧i6≤1023) (r7:0≤i7∧i7≤65535) (r8:0≤i8∧i8≤65535) (r9:0≤i9∧i9≤65535) (U:0≤i10∧i10≤65535) (V:0≤i11∧i11≤65535) (W:0≤i12∧i12≤65535) (X:0≤i13∧i13≤63) (Y:0≤i14∧i14≤63) (Z:0≤i15∧i15≤3) (a0:0≤i16∧i16≤3000) (R0:∀ j,0≤N j∧N j≤255) (R1:∀ j,0≤O j∧O j≤2047) (R2:∀ j,0≤P j∧P j≤65535) (hfi:∀ p ∈ rnH.fi,∀ is bs xs,inR p.2 (J.fi p.1 is bs xs)) (hfa:∀ p ∈ rnH.fa,∀ is bs xs j,inR p.2 (J.fa p.1 is bs xs j)) (hIi:J.fi=Ifi) (hIb:J.fb=Ifb) (hIa:J.fa=Ifa) :
 LT.holds (rnV i0 i1 i2 i3 i4 i5 i6 i7 i8 i9 i10 i11 i12 i13 i14 i15 i16 0 0 0 0 0 0 0 0 0 0 0 0 0 0 0 0 0 N O P (fun _=>0) (fun _=>0) vs J) (fun v' m'=>mT (rnV i0 i1 i2 i3 i4 i5 i6 i7 i8 i9 i10 i11 i12 i13 i14 i15 i16 0 0 0 0 0 0 0 0 0 0 0 0 0 0 0 0 0 N O P (fun _=>0) (fun _=>0) vs J) (⟨[i0,i1,i2,i3,i4,i5,i6,i7,i8,i9,i10,i11,i12,i13,i14,i15,i16],[],[N,O,P],vs,J⟩:Env) rnR rnO v' m') (fun j todo ρ'=>(bAQ[j]?.map (·.todo))=some todo∧(fun j ρ'=>∃ (d f g q r t w y z B C D F G K L M:Int) (Q T:Nat→Int),ρ'=(rnV i0 i1 i2 i3 i4 i5 i6 i7 i8 i9 i10 i11 i12 i13 i14 i15 i16 d f g q r t w y z B C D F G K L M N O P Q T vs J)∧rnJ i0 i1 i2 i3 i4 i5 i6 i7 i8 i9 i10 i11 i12 i13 i14 i15 i16 d f g q r t w y z B C D F G K L M N O P Q T j) j ρ') (.jump 0 bEP ⟨[(33,(.v 15)),(32,(.v 14)),(31,(.v 13)),(30,(.v 12)),(29,(.v 11)),(28,(.v 10)),(27,(.v 9)),(26,(.v 8)),(25,(.v 7)),(24,(.v 6)),(23,(.v 5)),(22,(.v 4)),(21,(.v 3)),(20,(.v 2)),(19,(.v 1)),(18,(.v 0)),(17,(.lit 0))],[],[(4,(.av 2)),(3,(.av 1))]⟩):=by
 simp only [LT.holds]
 refine ⟨rfl,(E.i (rnV i0 i1 i2 i3 i4 i5 i6 i7 i8 i9 i10 i11 i12 i13 i14 i15 i16 0 0 0 0 0 0 0 0 0 0 0 0 0 0 0 0 0 N O P (fun _=>0) (fun _=>0) vs J) ((.lit 0))),(E.i (rnV i0 i1 i2 i3 i4 i5 i6 i7 i8 i9 i10 i11 i12 i13 i14 i15 i16 0 0 0 0 0 0 0 0 0 0 0 0 0 0 0 0 0 N O P (fun _=>0) (fun _=>0) vs J) ((.v 0))),(E.i (rnV i0 i1 i2 i3 i4 i5 i6 i7 i8 i9 i10 i11 i12 i13 i14 i15 i16 0 0 0 0 0 0 0 0 0 0 0 0 0 0 0 0 0 N O P (fun _=>0) (fun _=>0) vs J) ((.v 1))),(E.i (rnV i0 i1 i2 i3 i4 i5 i6 i7 i8 i9 i10 i11 i12 i13 i14 i15 i16 0 0 0 0 0 0 0 0 0 0 0 0 0 0 0 0 0 N O P (fun _=>0) (fun _=>0) vs J) ((.v 2))),(E.i (rnV i0 i1 i2 i3 i4 i5 i6 i7 i8 i9 i10 i11 i12 i13 i14 i15 i16 0 0 0 0 0 0 0 0 0 0 0 0 0 0 0 0 0 N O P (fun _=>0) (fun _=>0) vs J) ((.v 3))),(E.i (rnV i0 i1 i2 i3 i4 i5 i6 i7 i8 i9 i10 i11 i12 i13 i14 i15 i16 0 0 0 0 0 0 0 0 0 0 0 0 0 0 0 0 0 N O P (fun _=>0) (fun _=>0) vs J) ((.v 4))),(E.i (rnV i0 i1 i2 i3 i4 i5 i6 i7 i8 i9 i10 i11 i12 i13 i14 i15 i16 0 0 0 0 0 0 0 0 0 0 0 0 0 0 0 0 0 N O P (fun _=>0) (fun _=>0) vs J) ((.v 5))),(E.i (rnV i0 i1 i2 i3 i4 i5 i6 i7 i8 i9 i10 i11 i12 i13 i14 i15 i16 0 0 0 0 0 0 0 0 0 0 0 0 0 0 0 0 0 N O P (fun _=>0) (fun _=>0) vs J) ((.v 6))),(E.i (rnV i0 i1 i2 i3 i4 i5 i6 i7 i8 i9 i10 i11 i12 i13 i14 i15 i16 0 0 0 0 0 0 0 0 0 0 0 0 0 0 0 0 0 N O P (fun _=>0) (fun _=>0) vs J) ((.v 7))),(E.i (rnV i0 i1 i2 i3 i4 i5 i6 i7 i8 i9 i10 i11 i12 i13 i14 i15 i16 0 0 0 0 0 0 0 0 0 0 0 0 0 0 0 0 0 N O P (fun _=>0) (fun _=>0) vs J) ((.v 8))),(E.i (rnV i0 i1 i2 i3 i4 i5 i6 i7 i8 i9 i10 i11 i12 i13 i14 i15 i16 0 0 0 0 0 0 0 0 0 0 0 0 0 0 0 0 0 N O P (fun _=>0) (fun _=>0) vs J) ((.v 9))),(E.i (rnV i0 i1 i2 i3 i4 i5 i6 i7 i8 i9 i10 i11 i12 i13 i14 i15 i16 0 0 0 0 0 0 0 0 0 0 0 0 0 0 0 0 0 N O P (fun _=>0) (fun _=>0) vs J) ((.v 10))),(E.i (rnV i0 i1 i2 i3 i4 i5 i6 i7 i8 i9 i10 i11 i12 i13 i14 i15 i16 0 0 0 0 0 0 0 0 0 0 0 0 0 0 0 0 0 N O P (fun _=>0) (fun _=>0) vs J) ((.v 11))),(E.i (rnV i0 i1 i2 i3 i4 i5 i6 i7 i8 i9 i10 i11 i12 i13 i14 i15 i16 0 0 0 0 0 0 0 0 0 0 0 0 0 0 0 0 0 N O P (fun _=>0) (fun _=>0) vs J) ((.v 12))),(E.i (rnV i0 i1 i2 i3 i4 i5 i6 i7 i8 i9 i10 i11 i12 i13 i14 i15 i16 0 0 0 0 0 0 0 0 0 0 0 0 0 0 0 0 0 N O P (fun _=>0) (fun _=>0) vs J) ((.v 13))),(E.i (rnV i0 i1 i2 i3 i4 i5 i6 i7 i8 i9 i10 i11 i12 i13 i14 i15 i16 0 0 0 0 0 0 0 0 0 0 0 0 0 0 0 0 0 N O P (fun _=>0) (fun _=>0) vs J) ((.v 14))),(E.i (rnV i0 i1 i2 i3 i4 i5 i6 i7 i8 i9 i10 i11 i12 i13 i14 i15 i16 0 0 0 0 0 0 0 0 0 0 0 0 0 0 0 0 0 N O P (fun _=>0) (fun _=>0) vs J) ((.v 15))),(E.a (rnV i0 i1 i2 i3 i4 i5 i6 i7 i8 i9 i10 i11 i12 i13 i14 i15 i16 0 0 0 0 0 0 0 0 0 0 0 0 0 0 0 0 0 N O P (fun _=>0) (fun _=>0) vs J) ((.av 1))),(E.a (rnV i0 i1 i2 i3 i4 i5 i6 i7 i8 i9 i10 i11 i12 i13 i14 i15 i16 0 0 0 0 0 0 0 0 0 0 0 0 0 0 0 0 0 N O P (fun _=>0) (fun _=>0) vs J) ((.av 2))),(by kernel_rfl),?_⟩
 ·simp only [rnJ]
  exact ⟨⟨Int.le_refl _,(show (0:Int)≤3000 by decide)⟩,r0,r1,r2,r3,r4,r5,r6,r7,r8,r9,U,V,W,X,Y,Z,R1,R2,a0.1,rfl⟩
theorem rnvc0 (i0 i1 i2 i3 i4 i5 i6 i7 i8 i9 i10 i11 i12 i13 i14 i15 i16 d f g q r t w y z B C D F G K L M:Int) (N O P Q T:Nat→Int) (vs:List Value) (J:Interp) (r0:0≤i0∧i0≤2047) (r1:0≤i1∧i1≤65535) (r2:0≤i2∧i2≤65535) (r3:0≤i3∧i3≤65535) (r4:0≤i4∧i4≤65535) (r5:0≤i5∧i5≤255) (r6:0≤i6∧i6≤1023) (r7:0≤i7∧i7≤65535) (r8:0≤i8∧i8≤65535) (r9:0≤i9∧i9≤65535) (U:0≤i10∧i10≤65535) (V:0≤i11∧i11≤65535) (W:0≤i12∧i12≤65535) (X:0≤i13∧i13≤63) (Y:0≤i14∧i14≤63) (Z:0≤i15∧i15≤3) (a0:0≤i16∧i16≤3000) (R0:∀ j,0≤N j∧N j≤255) (R1:∀ j,0≤O j∧O j≤2047) (R2:∀ j,0≤P j∧P j≤65535) (hfi:∀ p ∈ rnH.fi,∀ is bs xs,inR p.2 (J.fi p.1 is bs xs)) (hfa:∀ p ∈ rnH.fa,∀ is bs xs j,inR p.2 (J.fa p.1 is bs xs j)) (hIi:J.fi=Ifi) (hIb:J.fb=Ifb) (hIa:J.fa=Ifa) (hJ:rnJ i0 i1 i2 i3 i4 i5 i6 i7 i8 i9 i10 i11 i12 i13 i14 i15 i16 d f g q r t w y z B C D F G K L M N O P Q T 0) :
 LT.holds (rnV i0 i1 i2 i3 i4 i5 i6 i7 i8 i9 i10 i11 i12 i13 i14 i15 i16 d f g q r t w y z B C D F G K L M N O P Q T vs J) (fun v' m'=>mT (rnV i0 i1 i2 i3 i4 i5 i6 i7 i8 i9 i10 i11 i12 i13 i14 i15 i16 d f g q r t w y z B C D F G K L M N O P Q T vs J) (⟨[i0,i1,i2,i3,i4,i5,i6,i7,i8,i9,i10,i11,i12,i13,i14,i15,i16],[],[N,O,P],vs,J⟩:Env) rnR rnO v' m') (fun j' todo ρ'=>(bAQ[j']?.map (·.todo))=some todo∧(fun j ρ'=>∃ (d f g q r t w y z B C D F G K L M:Int) (Q T:Nat→Int),ρ'=(rnV i0 i1 i2 i3 i4 i5 i6 i7 i8 i9 i10 i11 i12 i13 i14 i15 i16 d f g q r t w y z B C D F G K L M N O P Q T vs J)∧rnJ i0 i1 i2 i3 i4 i5 i6 i7 i8 i9 i10 i11 i12 i13 i14 i15 i16 d f g q r t w y z B C D F G K L M N O P Q T j) j' ρ'∧bOU j' ρ'<bOU 0 (rnV i0 i1 i2 i3 i4 i5 i6 i7 i8 i9 i10 i11 i12 i13 i14 i15 i16 d f g q r t w y z B C D F G K L M N O P Q T vs J)) (.ite rn0 (.jump 0 bEP ⟨[(33,rn1),(32,rn2),(31,rn3),(30,rn4),(29,rn5),(28,rn6),(27,rn7),(26,rn8),(25,rn9),(24,bOK),(23,bOL),(22,bOM),(21,bON),(20,bOO),(19,bOP),(18,bOQ),(17,bOR)],[],[(4,bOS),(3,bOT)]⟩) (.ret (.s (.int .i64 (.lit 0))) [⟨5,[.run .u8 (.lit 8192) (.av 0) 0],true,some 1,false⟩,⟨81,[.one (.int .u16 (.v 18)),.one (.int .u16 (.v 19)),.one (.int .u16 (.v 20)),.one (.int .u16 (.v 21)),.one (.int .u16 (.v 22)),.one (.int .u16 (.v 23)),.one (.int .u16 (.v 24)),.one (.int .u16 (.v 25)),.one (.int .u16 (.v 26)),.one (.int .u16 (.v 27)),.one (.int .u16 (.v 28)),.one (.int .u16 (.v 29)),.one (.int .u16 (.v 30)),.one (.int .u8 (.v 31)),.one (.int .u8 (.v 32)),.one (.int .u8 (.v 33)),.run .u16 (.lit 4) (.av 3) 0,.run .u16 (.lit 256) (.av 4) 0,.one (.slc 0 (.lit 0) (.lit 8192) (.op (.lit 0)))],true,none,false⟩])):=by
 simp only [LT.holds]
 simp only [rnJ] at hJ
 obtain ⟨l0,l1,l2,l3,l4,l5,l6,l7,l8,l9,b7,b8,b9,c0,c1,c2,c3,m0,m1,hinv⟩:=hJ
 refine ⟨fun b5=>?_,fun b5=>?_⟩
 ·
   refine ⟨rfl,⟨(E.i (rnV i0 i1 i2 i3 i4 i5 i6 i7 i8 i9 i10 i11 i12 i13 i14 i15 i16 d f g q r t w y z B C D F G K L M N O P Q T vs J) bOR),(E.i (rnV i0 i1 i2 i3 i4 i5 i6 i7 i8 i9 i10 i11 i12 i13 i14 i15 i16 d f g q r t w y z B C D F G K L M N O P Q T vs J) bOQ),(E.i (rnV i0 i1 i2 i3 i4 i5 i6 i7 i8 i9 i10 i11 i12 i13 i14 i15 i16 d f g q r t w y z B C D F G K L M N O P Q T vs J) bOP),(E.i (rnV i0 i1 i2 i3 i4 i5 i6 i7 i8 i9 i10 i11 i12 i13 i14 i15 i16 d f g q r t w y z B C D F G K L M N O P Q T vs J) bOO),(E.i (rnV i0 i1 i2 i3 i4 i5 i6 i7 i8 i9 i10 i11 i12 i13 i14 i15 i16 d f g q r t w y z B C D F G K L M N O P Q T vs J) bON),(E.i (rnV i0 i1 i2 i3 i4 i5 i6 i7 i8 i9 i10 i11 i12 i13 i14 i15 i16 d f g q r t w y z B C D F G K L M N O P Q T vs J) bOM),(E.i (rnV i0 i1 i2 i3 i4 i5 i6 i7 i8 i9 i10 i11 i12 i13 i14 i15 i16 d f g q r t w y z B C D F G K L M N O P Q T vs J) bOL),(E.i (rnV i0 i1 i2 i3 i4 i5 i6 i7 i8 i9 i10 i11 i12 i13 i14 i15 i16 d f g q r t w y z B C D F G K L M N O P Q T vs J) bOK),(E.i (rnV i0 i1 i2 i3 i4 i5 i6 i7 i8 i9 i10 i11 i12 i13 i14 i15 i16 d f g q r t w y z B C D F G K L M N O P Q T vs J) rn9),(E.i (rnV i0 i1 i2 i3 i4 i5 i6 i7 i8 i9 i10 i11 i12 i13 i14 i15 i16 d f g q r t w y z B C D F G K L M N O P Q T vs J) rn8),(E.i (rnV i0 i1 i2 i3 i4 i5 i6 i7 i8 i9 i10 i11 i12 i13 i14 i15 i16 d f g q r t w y z B C D F G K L M N O P Q T vs J) rn7),(E.i (rnV i0 i1 i2 i3 i4 i5 i6 i7 i8 i9 i10 i11 i12 i13 i14 i15 i16 d f g q r t w y z B C D F G K L M N O P Q T vs J) rn6),(E.i (rnV i0 i1 i2 i3 i4 i5 i6 i7 i8 i9 i10 i11 i12 i13 i14 i15 i16 d f g q r t w y z B C D F G K L M N O P Q T vs J) rn5),(E.i (rnV i0 i1 i2 i3 i4 i5 i6 i7 i8 i9 i10 i11 i12 i13 i14 i15 i16 d f g q r t w y z B C D F G K L M N O P Q T vs J) rn4),(E.i (rnV i0 i1 i2 i3 i4 i5 i6 i7 i8 i9 i10 i11 i12 i13 i14 i15 i16 d f g q r t w y z B C D F G K L M N O P Q T vs J) rn3),(E.i (rnV i0 i1 i2 i3 i4 i5 i6 i7 i8 i9 i10 i11 i12 i13 i14 i15 i16 d f g q r t w y z B C D F G K L M N O P Q T vs J) rn2),(E.i (rnV i0 i1 i2 i3 i4 i5 i6 i7 i8 i9 i10 i11 i12 i13 i14 i15 i16 d f g q r t w y z B C D F G K L M N O P Q T vs J) rn1),(E.a (rnV i0 i1 i2 i3 i4 i5 i6 i7 i8 i9 i10 i11 i12 i13 i14 i15 i16 d f g q r t w y z B C D F G K L M N O P Q T vs J) bOT),(E.a (rnV i0 i1 i2 i3 i4 i5 i6 i7 i8 i9 i10 i11 i12 i13 i14 i15 i16 d f g q r t w y z B C D F G K L M N O P Q T vs J) bOS),(by kernel_rfl),?_⟩,?_⟩
   ·simp only [rnJ]
    have hF:IvF ((rnV i0 i1 i2 i3 i4 i5 i6 i7 i8 i9 i10 i11 i12 i13 i14 i15 i16 d f g q r t w y z B C D F G K L M N O P Q T vs J)).I:=⟨hIi,hIb,hIa⟩
    have hs:(stE (rnV i0 i1 i2 i3 i4 i5 i6 i7 i8 i9 i10 i11 i12 i13 i14 i15 i16 d f g q r t w y z B C D F G K L M N O P Q T vs J) [.v 18,.v 19,.v 20,.v 21,.v 22,.v 23,.v 24,.v 25,.v 26,.v 27,.v 28,.v 29,.v 30,.v 31,.v 32,.v 33] (.av 3) (.av 4)).ok:=St.bKy l1 l2 l3 l4 l5 l6 l7 l8 l9 b7 b8 b9 c0 c1 c2 c3 m0 m1
    have e:=aZF (rnV i0 i1 i2 i3 i4 i5 i6 i7 i8 i9 i10 i11 i12 i13 i14 i15 i16 d f g q r t w y z B C D F G K L M N O P Q T vs J) hF (.lit 1) [.v 18,.v 19,.v 20,.v 21,.v 22,.v 23,.v 24,.v 25,.v 26,.v 27,.v 28,.v 29,.v 30,.v 31,.v 32,.v 33] rfl (.av 0) (.av 3) (.av 4) hs
    have o:=aIh (E.a (rnV i0 i1 i2 i3 i4 i5 i6 i7 i8 i9 i10 i11 i12 i13 i14 i15 i16 d f g q r t w y z B C D F G K L M N O P Q T vs J) (.av 0)) _ hs (E.i (rnV i0 i1 i2 i3 i4 i5 i6 i7 i8 i9 i10 i11 i12 i13 i14 i15 i16 d f g q r t w y z B C D F G K L M N O P Q T vs J) (.lit 1)).toNat
    rw [← e] at o
    have hc:d<i16:=of_decide_eq_true b5
    refine ⟨?_,o.rg 0 (by decide) 2047 rfl,o.rg 1 (by decide) 65535 rfl,o.rg 2 (by decide) 65535 rfl,o.rg 3 (by decide) 65535 rfl,o.rg 4 (by decide) 65535 rfl,o.rg 5 (by decide) 255 rfl,o.rg 6 (by decide) 1023 rfl,o.rg 7 (by decide) 65535 rfl,o.rg 8 (by decide) 65535 rfl,o.rg 9 (by decide) 65535 rfl,o.rg 10 (by decide) 65535 rfl,o.rg 11 (by decide) 65535 rfl,o.rg 12 (by decide) 65535 rfl,o.rg 13 (by decide) 63 rfl,o.rg 14 (by decide) 63 rfl,o.rg 15 (by decide) 3 rfl,o.rS,o.rR,?_,?_⟩
    ·show 0≤d+1∧d+1≤3000;omega
    ·show d+1≤i16;omega
    ·refine (show bIK (.lit 1) [.v 18,.v 19,.v 20,.v 21,.v 22,.v 23,.v 24,.v 25,.v 26,.v 27,.v 28,.v 29,.v 30,.v 31,.v 32,.v 33] (.av 0) (.av 3) (.av 4) (rnV i0 i1 i2 i3 i4 i5 i6 i7 i8 i9 i10 i11 i12 i13 i14 i15 i16 d f g q r t w y z B C D F G K L M N O P Q T vs J)=_ from e).trans ?_
     show stN N 1 (⟨[f,g,q,r,t,w,y,z,B,C,D,F,G,K,L,M],Q,T⟩:St)=stN N (d+1).toNat _
     rw [hinv.2,show (d+1).toNat=d.toNat+1 by omega]
     rfl
   ·have hc:d<i16:=of_decide_eq_true b5
    exact Nat.lt_of_le_of_lt (Nat.le_of_eq (m:=(i16-(d+1)).toNat) (by kernel_rfl)) (Nat.lt_of_lt_of_eq (show (i16-(d+1)).toNat<(i16-d).toNat by omega) (by kernel_rfl))
 ·
   refine ⟨rfl,?_,?_⟩
   all_goals
    repeat' (first | exact rfl | exact trivial | exact fun _ _=>rfl | refine And.intro ?_ ?_ | refine Or.inr ?_)
   all_goals have hc:¬ (d<i16):=of_decide_eq_false (show decide (d<i16)=false from b5)
   all_goals have hF:IvF ((⟨[i0,i1,i2,i3,i4,i5,i6,i7,i8,i9,i10,i11,i12,i13,i14,i15,i16],[],[N,O,P],vs,J⟩:Env)).I:=⟨hIi,hIb,hIa⟩
   all_goals have hs:(stE (⟨[i0,i1,i2,i3,i4,i5,i6,i7,i8,i9,i10,i11,i12,i13,i14,i15,i16],[],[N,O,P],vs,J⟩:Env) aAe (.av 1) (.av 2)).ok:=St.bKy r0 r1 r2 r3 r4 r5 r6 r7 r8 r9 U V W X Y Z R1 R2
   all_goals have e:=aZF (⟨[i0,i1,i2,i3,i4,i5,i6,i7,i8,i9,i10,i11,i12,i13,i14,i15,i16],[],[N,O,P],vs,J⟩:Env) hF (.v 16) aAe rfl (.av 0) (.av 1) (.av 2) hs
   all_goals have hq:(⟨[f,g,q,r,t,w,y,z,B,C,D,F,G,K,L,M],Q,T⟩:St)=bIK (.v 16) aAe (.av 0) (.av 1) (.av 2) (⟨[i0,i1,i2,i3,i4,i5,i6,i7,i8,i9,i10,i11,i12,i13,i14,i15,i16],[],[N,O,P],vs,J⟩:Env):=(by rw [e,hinv.2,show d=i16 by omega];rfl)
   all_goals first
    | exact congrArg (fun s:St=>s.l.getD 0 0) hq
    | exact congrArg (fun s:St=>s.l.getD 1 0) hq
    | exact congrArg (fun s:St=>s.l.getD 2 0) hq
    | exact congrArg (fun s:St=>s.l.getD 3 0) hq
    | exact congrArg (fun s:St=>s.l.getD 4 0) hq
    | exact congrArg (fun s:St=>s.l.getD 5 0) hq
    | exact congrArg (fun s:St=>s.l.getD 6 0) hq
    | exact congrArg (fun s:St=>s.l.getD 7 0) hq
    | exact congrArg (fun s:St=>s.l.getD 8 0) hq
    | exact congrArg (fun s:St=>s.l.getD 9 0) hq
    | exact congrArg (fun s:St=>s.l.getD 10 0) hq
    | exact congrArg (fun s:St=>s.l.getD 11 0) hq
    | exact congrArg (fun s:St=>s.l.getD 12 0) hq
    | exact congrArg (fun s:St=>s.l.getD 13 0) hq
    | exact congrArg (fun s:St=>s.l.getD 14 0) hq
    | exact congrArg (fun s:St=>s.l.getD 15 0) hq
    | exact fun j _=>congrFun (congrArg St.S hq) (0+j)
    | exact fun j _=>congrFun (congrArg St.R hq) (0+j)
theorem rnat (xs:Nat→Nat→Ext):fI Try.prog (Iv xs) 10 17 0 3 (iY rnH rnL rnM rnN rnR (some rnO)):=by
 refine rE (u:=0) (bLC xs) (by kernel_rfl) rnst (by decide) rfl (fun ρ j ρ'=>∃(i0 i1 i2 i3 i4 i5 i6 i7 i8 i9 i10 i11 i12 i13 i14 i15 i16:Int) (N O P:Nat→Int),∃ vs J,ρ=(⟨[i0,i1,i2,i3,i4,i5,i6,i7,i8,i9,i10,i11,i12,i13,i14,i15,i16],[],[N,O,P],vs,J⟩:Env)∧(fun j ρ'=>∃ (d f g q r t w y z B C D F G K L M:Int) (Q T:Nat→Int),ρ'=(rnV i0 i1 i2 i3 i4 i5 i6 i7 i8 i9 i10 i11 i12 i13 i14 i15 i16 d f g q r t w y z B C D F G K L M N O P Q T vs J)∧rnJ i0 i1 i2 i3 i4 i5 i6 i7 i8 i9 i10 i11 i12 i13 i14 i15 i16 d f g q r t w y z B C D F G K L M N O P Q T j) j ρ') bOU ?_
 intro ρ hI hz hH hn
 obtain ⟨ys,zs,Ys,vs,J⟩:=ρ
 obtain ⟨z1,z2,z3⟩:=hz
 simp only at z1 z2 z3 hI
 obtain ⟨i0,ys0,rfl,z1_0⟩:=aL z1
 obtain ⟨i1,ys1,rfl,z1_1⟩:=aL z1_0
 obtain ⟨i2,ys2,rfl,z1_2⟩:=aL z1_1
 obtain ⟨i3,ys3,rfl,z1_3⟩:=aL z1_2
 obtain ⟨i4,ys4,rfl,z1_4⟩:=aL z1_3
 obtain ⟨i5,ys5,rfl,z1_5⟩:=aL z1_4
 obtain ⟨i6,ys6,rfl,z1_6⟩:=aL z1_5
 obtain ⟨i7,ys7,rfl,z1_7⟩:=aL z1_6
 obtain ⟨i8,ys8,rfl,z1_8⟩:=aL z1_7
 obtain ⟨i9,ys9,rfl,z1_9⟩:=aL z1_8
 obtain ⟨i10,ys10,rfl,z1_10⟩:=aL z1_9
 obtain ⟨i11,ys11,rfl,z1_11⟩:=aL z1_10
 obtain ⟨i12,ys12,rfl,z1_12⟩:=aL z1_11
 obtain ⟨i13,ys13,rfl,z1_13⟩:=aL z1_12
 obtain ⟨i14,ys14,rfl,z1_14⟩:=aL z1_13
 obtain ⟨i15,ys15,rfl,z1_15⟩:=aL z1_14
 obtain ⟨i16,ys16,rfl,z1_16⟩:=aL z1_15
 obtain rfl:=List.eq_nil_of_length_eq_zero z1_16
 obtain rfl:=List.eq_nil_of_length_eq_zero z2
 obtain ⟨N,Ys0,rfl,z3_0⟩:=aL z3
 obtain ⟨O,Ys1,rfl,z3_1⟩:=aL z3_0
 obtain ⟨P,Ys2,rfl,z3_2⟩:=aL z3_1
 obtain rfl:=List.eq_nil_of_length_eq_zero z3_2
 have r0:0≤i0∧i0≤2047:=hH.e (.v 0,(0,2047)) (by simp [rnH])
 have r1:0≤i1∧i1≤65535:=hH.e (.v 1,(0,65535)) (by simp [rnH])
 have r2:0≤i2∧i2≤65535:=hH.e (.v 2,(0,65535)) (by simp [rnH])
 have r3:0≤i3∧i3≤65535:=hH.e (.v 3,(0,65535)) (by simp [rnH])
 have r4:0≤i4∧i4≤65535:=hH.e (.v 4,(0,65535)) (by simp [rnH])
 have r5:0≤i5∧i5≤255:=hH.e (.v 5,(0,255)) (by simp [rnH])
 have r6:0≤i6∧i6≤1023:=hH.e (.v 6,(0,1023)) (by simp [rnH])
 have r7:0≤i7∧i7≤65535:=hH.e (.v 7,(0,65535)) (by simp [rnH])
 have r8:0≤i8∧i8≤65535:=hH.e (.v 8,(0,65535)) (by simp [rnH])
 have r9:0≤i9∧i9≤65535:=hH.e (.v 9,(0,65535)) (by simp [rnH])
 have U:0≤i10∧i10≤65535:=hH.e (.v 10,(0,65535)) (by simp [rnH])
 have V:0≤i11∧i11≤65535:=hH.e (.v 11,(0,65535)) (by simp [rnH])
 have W:0≤i12∧i12≤65535:=hH.e (.v 12,(0,65535)) (by simp [rnH])
 have X:0≤i13∧i13≤63:=hH.e (.v 13,(0,63)) (by simp [rnH])
 have Y:0≤i14∧i14≤63:=hH.e (.v 14,(0,63)) (by simp [rnH])
 have Z:0≤i15∧i15≤3:=hH.e (.v 15,(0,3)) (by simp [rnH])
 have a0:0≤i16∧i16≤3000:=hH.e (.v 16,(0,3000)) (by simp [rnH])
 have R0:∀ j,0≤N j∧N j≤255:=fun j=>hH.a (0,(0,255)) (by simp [rnH]) j
 have R1:∀ j,0≤O j∧O j≤2047:=fun j=>hH.a (1,(0,2047)) (by simp [rnH]) j
 have R2:∀ j,0≤P j∧P j≤65535:=fun j=>hH.a (2,(0,65535)) (by simp [rnH]) j
 have hfi:∀ p ∈ rnH.fi,∀ is bs xs,inR p.2 (J.fi p.1 is bs xs):=hH.fi
 have hfa:∀ p ∈ rnH.fa,∀ is bs xs j,inR p.2 (J.fa p.1 is bs xs j):=hH.fa
 have hIi:J.fi=Ifi:=by rw [hI];rfl
 have hIb:J.fb=Ifb:=by rw [hI];rfl
 have hIa:J.fa=Ifa:=by rw [hI];rfl
 refine ⟨(rnV i0 i1 i2 i3 i4 i5 i6 i7 i8 i9 i10 i11 i12 i13 i14 i15 i16 0 0 0 0 0 0 0 0 0 0 0 0 0 0 0 0 0 N O P (fun _=>0) (fun _=>0) vs J),rfl,⟨rfl,rfl,rfl⟩,?_,fun ι=>rfl,?_,?_,?_⟩
 ·
   refine ⟨by simp [rnH],?_,?_,?_,?_,by simp [rnH]⟩
   ·intro p hp
    simp only [rnH,List.mem_cons,List.not_mem_nil,or_false] at hp
    rcases hp with rfl | rfl | rfl | rfl | rfl | rfl | rfl | rfl | rfl | rfl | rfl | rfl | rfl | rfl | rfl | rfl | rfl
    ·exact r0
    ·exact r1
    ·exact r2
    ·exact r3
    ·exact r4
    ·exact r5
    ·exact r6
    ·exact r7
    ·exact r8
    ·exact r9
    ·exact U
    ·exact V
    ·exact W
    ·exact X
    ·exact Y
    ·exact Z
    ·exact a0
   ·intro p hp
    simp only [rnH,List.mem_cons,List.not_mem_nil,or_false] at hp
    rcases hp with rfl | rfl | rfl
    ·exact R0
    ·exact R1
    ·exact R2
   ·exact hfi
   ·exact hfa
 ·repeat' (first | exact rfl | exact trivial | exact fun _ _=>rfl | refine And.intro ?_ ?_ | refine Or.inr ?_)
 ·refine LT.cI (fun v' m' h=>h) (fun j todo ρ' h=>⟨h.1,i0,i1,i2,i3,i4,i5,i6,i7,i8,i9,i10,i11,i12,i13,i14,i15,i16,N,O,P,vs,J,rfl,h.2⟩) (rnvcS i0 i1 i2 i3 i4 i5 i6 i7 i8 i9 i10 i11 i12 i13 i14 i15 i16 N O P vs J r0 r1 r2 r3 r4 r5 r6 r7 r8 r9 U V W X Y Z a0 R0 R1 R2 hfi hfa hIi hIb hIa)
 ·intro j h ρ' hj hI' hz' hInv
  obtain ⟨i0',i1',i2',i3',i4',i5',i6',i7',i8',i9',i10',i11',i12',i13',i14',i15',i16',A0',A1',A2',vs',J',he,d,f,g,q,r,t,w,y,z,B,C,D,F,G,K,L,M,Q,T,hρ,hJ⟩:=hInv
  cases he
  subst hρ
  rcases j with _ | j
  ·simp only [bAQ,List.getElem?_cons_zero,List.getElem?_cons_succ,Option.some.injEq] at hj;subst hj
   refine ⟨aSS.H,rnok0 i0 i1 i2 i3 i4 i5 i6 i7 i8 i9 i10 i11 i12 i13 i14 i15 i16 d f g q r t w y z B C D F G K L M N O P Q T vs J r0 r1 r2 r3 r4 r5 r6 r7 r8 r9 U V W X Y Z a0 R0 R1 R2 hfi hfa hIi hIb hIa hJ,_,rnsg0,?_⟩
   exact LT.cI (fun v' m' h=>h) (fun j todo ρ' h=>⟨h.1,⟨i0,i1,i2,i3,i4,i5,i6,i7,i8,i9,i10,i11,i12,i13,i14,i15,i16,N,O,P,vs,J,rfl,h.2.1⟩,h.2.2⟩) (rnvc0 i0 i1 i2 i3 i4 i5 i6 i7 i8 i9 i10 i11 i12 i13 i14 i15 i16 d f g q r t w y z B C D F G K L M N O P Q T vs J r0 r1 r2 r3 r4 r5 r6 r7 r8 r9 U V W X Y Z a0 R0 R1 R2 hfi hfa hIi hIb hIa hJ)
  ·simp [bAQ] at hj
def rnS:Go.Sx.Spec:=fC (fK 17 0 3 rnL rnM) rnH rnL rnM rnN (rnR) (some rnO)
theorem rnok (xs:Nat→Nat→Ext):aX Try.prog (Iv xs) 10 rnS:=fB (rnat xs) (dT _ _ _ _ _ _)
theorem tN (is:List Int) (bs:List Bool) (ys:List (Nat→Int)):∀ k,k<16→Ifi (70+k) is bs ys=(bFK is ys).l.getD k 0%stM.getD k 1:=xI ⟨rfl,rfl,rfl,rfl,rfl,rfl,rfl,rfl,rfl,rfl,rfl,rfl,rfl,rfl,rfl,rfl⟩
theorem aHz (xs:Nat→Nat→Ext):∀ p ∈ [((10:Nat),((0:Int),(4294967295:Int))),(40,(0,65535)),(41,(0,63)),(70,(0,2047)),(71,(0,65535)),(72,(0,65535)),(73,(0,65535)),(74,(0,65535)),(75,(0,255)),(76,(0,1023)),(77,(0,65535)),(78,(0,65535)),(79,(0,65535)),(80,(0,65535)),(81,(0,65535)),(82,(0,65535)),(83,(0,63)),(84,(0,63)),(85,(0,3))],∀ is bs ys,inR p.2 ((Iv xs).fi p.1 is bs ys):=by
 intro p hp is bs ys
 simp only [List.mem_cons,List.not_mem_nil,or_false] at hp
 rcases hp with rfl | rfl | rfl | rfl | rfl | rfl | rfl | rfl | rfl | rfl | rfl | rfl | rfl | rfl | rfl | rfl | rfl | rfl | rfl
 ·exact wW _ _
 ·exact dZ (m:=65536) (by decide) (by decide) _
 ·exact dZ (m:=64) (by decide) (by decide) _
 ·show inR _ (Ifi (70+0) is bs ys)
  rw [tN is bs ys 0 (by decide)]
  exact dZ (m:=2048) (by decide) (by decide) _
 ·show inR _ (Ifi (70+1) is bs ys)
  rw [tN is bs ys 1 (by decide)]
  exact dZ (m:=65536) (by decide) (by decide) _
 ·show inR _ (Ifi (70+2) is bs ys)
  rw [tN is bs ys 2 (by decide)]
  exact dZ (m:=65536) (by decide) (by decide) _
 ·show inR _ (Ifi (70+3) is bs ys)
  rw [tN is bs ys 3 (by decide)]
  exact dZ (m:=65536) (by decide) (by decide) _
 ·show inR _ (Ifi (70+4) is bs ys)
  rw [tN is bs ys 4 (by decide)]
  exact dZ (m:=65536) (by decide) (by decide) _
 ·show inR _ (Ifi (70+5) is bs ys)
  rw [tN is bs ys 5 (by decide)]
  exact dZ (m:=256) (by decide) (by decide) _
 ·show inR _ (Ifi (70+6) is bs ys)
  rw [tN is bs ys 6 (by decide)]
  exact dZ (m:=1024) (by decide) (by decide) _
 ·show inR _ (Ifi (70+7) is bs ys)
  rw [tN is bs ys 7 (by decide)]
  exact dZ (m:=65536) (by decide) (by decide) _
 ·show inR _ (Ifi (70+8) is bs ys)
  rw [tN is bs ys 8 (by decide)]
  exact dZ (m:=65536) (by decide) (by decide) _
 ·show inR _ (Ifi (70+9) is bs ys)
  rw [tN is bs ys 9 (by decide)]
  exact dZ (m:=65536) (by decide) (by decide) _
 ·show inR _ (Ifi (70+10) is bs ys)
  rw [tN is bs ys 10 (by decide)]
  exact dZ (m:=65536) (by decide) (by decide) _
 ·show inR _ (Ifi (70+11) is bs ys)
  rw [tN is bs ys 11 (by decide)]
  exact dZ (m:=65536) (by decide) (by decide) _
 ·show inR _ (Ifi (70+12) is bs ys)
  rw [tN is bs ys 12 (by decide)]
  exact dZ (m:=65536) (by decide) (by decide) _
 ·show inR _ (Ifi (70+13) is bs ys)
  rw [tN is bs ys 13 (by decide)]
  exact dZ (m:=64) (by decide) (by decide) _
 ·show inR _ (Ifi (70+14) is bs ys)
  rw [tN is bs ys 14 (by decide)]
  exact dZ (m:=64) (by decide) (by decide) _
 ·show inR _ (Ifi (70+15) is bs ys)
  rw [tN is bs ys 15 (by decide)]
  exact dZ (m:=4) (by decide) (by decide) _
end Go.Proofs.Ytcckecfjjccffaa
