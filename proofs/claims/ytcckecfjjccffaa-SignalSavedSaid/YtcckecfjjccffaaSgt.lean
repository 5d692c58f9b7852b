/- Contracts of the signal chip: so many steps, told by applications; what reads a saved state. No condition. -/
import Derived.Test.YtcckecfjjccffaaSgs
namespace Go.Proofs.Ytcckecfjjccffaa
open Go.Sx Go.ChangeShapes Go.WideShapes Go.ChangeAt Go.RowKit
set_option linter.unusedVariables false
set_option linter.unusedSimpArgs false
set_option maxRecDepth 100000
def s7X:E:=stX (.lit 1)
def s7O:Mem:=[⟨5,[.run .u8 (.lit 8192) (.av 0) 0],true,some 1,false⟩,⟨81,[.one (.int .u16 (.app 70 s7X)),.one (.int .u16 (.app 71 s7X)),.one (.int .u16 (.app 72 s7X)),.one (.int .u16 (.app 73 s7X)),.one (.int .u16 (.app 74 s7X)),.one (.int .u16 (.app 75 s7X)),.one (.int .u16 (.app 76 s7X)),.one (.int .u16 (.app 77 s7X)),.one (.int .u16 (.app 78 s7X)),.one (.int .u16 (.app 79 s7X)),.one (.int .u16 (.app 80 s7X)),.one (.int .u16 (.app 81 s7X)),.one (.int .u16 (.app 82 s7X)),.one (.int .u8 (.app 83 s7X)),.one (.int .u8 (.app 84 s7X)),.one (.int .u8 (.app 85 s7X)),.run .u16 (.lit 4) (.app 90 s7X) 0,.run .u16 (.lit 256) (.app 91 s7X) 0,.one (.slc 0 (.lit 0) (.lit 8192) (.op (.lit 0)))],true,none,false⟩]
def s7S:Go.Sx.Spec:=fG (fC 16 0 3 sxL sxM) sxH sxL sxM [] (.s (.int .i64 (.lit 1))) (some s7O)
theorem bOr {ρ:Env} {a b:E} (h1:0≤a.i ρ∧a.i ρ≤255) (h2:0≤b.i ρ∧b.i ρ≤255):0≤E.i ρ (.bits .or .u16 a b)∧E.i ρ (.bits .or .u16 a b)≤255:=by
 show 0≤aK .or .u16 (a.i ρ) (b.i ρ)∧aK .or .u16 (a.i ρ) (b.i ρ)≤255
 obtain ⟨n,hn⟩:=Int.eq_ofNat_of_zero_le h1.1
 obtain ⟨m,hm⟩:=Int.eq_ofNat_of_zero_le h2.1
 rw [hn] at h1 ⊢
 rw [hm] at h2 ⊢
 have l2:n ||| m<2 ^ 8:=Nat.or_lt_two_pow (by omega) (by omega)
 rw [show aK .or .u16 (n:Int) (m:Int)=((n ||| m:Nat):Int) from (Go.Sx.bits_nat (k:=.u16) (by decide) (n:=n) (m:=m) (by omega) (by omega)).2.1]
 omega
theorem bXor {ρ:Env} {a b:E} (h1:0≤a.i ρ∧a.i ρ≤255) (h2:0≤b.i ρ∧b.i ρ≤255):0≤E.i ρ (.bits .xor .u16 a b)∧E.i ρ (.bits .xor .u16 a b)≤255:=by
 show 0≤aK .xor .u16 (a.i ρ) (b.i ρ)∧aK .xor .u16 (a.i ρ) (b.i ρ)≤255
 obtain ⟨n,hn⟩:=Int.eq_ofNat_of_zero_le h1.1
 obtain ⟨m,hm⟩:=Int.eq_ofNat_of_zero_le h2.1
 rw [hn] at h1 ⊢
 rw [hm] at h2 ⊢
 have l2:n ^^^ m<2 ^ 8:=Nat.xor_lt_two_pow (by omega) (by omega)
 rw [show aK .xor .u16 (n:Int) (m:Int)=((n ^^^ m:Nat):Int) from (Go.Sx.bits_nat (k:=.u16) (by decide) (n:=n) (m:=m) (by omega) (by omega)).2.2]
 omega
theorem aUA {ρ:Env} {c a b:E} (h1:0≤a.i ρ∧a.i ρ≤255) (h2:0≤b.i ρ∧b.i ρ≤255):0≤E.i ρ (.ite c a b)∧E.i ρ (.ite c a b)≤255:=by
 rw [aQ]
 split
 ·exact h1
 ·exact h2
theorem oV {ρ:Env} {c a b:E} {h:Int} (h1:0≤a.i ρ∧a.i ρ≤h) (h2:0≤b.i ρ∧b.i ρ≤h):0≤E.i ρ (.ite c a b)∧E.i ρ (.ite c a b)≤h:=by
 rw [aQ]
 split
 ·exact h1
 ·exact h2
theorem updW {ρ:Env} {A i x:E} {h:Int} (h1:∀ j,0≤A.a ρ j∧A.a ρ j≤h) (h2:0≤x.i ρ∧x.i ρ≤h) (j:Nat):0≤E.a ρ (.upd A i x) j∧E.a ρ (.upd A i x) j≤h:=by
 rw [bZ]
 show 0≤(if j=_ then _ else _)∧(if j=_ then _ else _)≤h
 split
 ·exact h2
 ·exact h1 j
theorem selW {ρ:Env} {A i:E} {h:Int} (h1:∀ j,0≤A.a ρ j∧A.a ρ j≤h):0≤E.i ρ (.sel A i)∧E.i ρ (.sel A i)≤h:=h1 _
theorem s7vc (xs:Nat→Nat→Ext) (ρ:Env) (hI:ρ.I=Iv xs) (hH:sxH.ok ρ):nN ρ ρ sxO s7O:=by
 have k0:=uL (IvF.of hI) 0 (by decide) bRc 2048 rfl rfl (by kernel_rfl) (aM hH (by kernel_rfl))
 have k1:=uL (IvF.of hI) 1 (by decide) bGz 65536 rfl rfl (by kernel_rfl) (aM hH (by kernel_rfl))
 have k2:=uL (IvF.of hI) 2 (by decide) bGC 65536 rfl rfl (by kernel_rfl) (aM hH (by kernel_rfl))
 have k3:=uL (IvF.of hI) 3 (by decide) bGF 65536 rfl rfl (by kernel_rfl) (aM hH (by kernel_rfl))
 have k4:=uL (IvF.of hI) 4 (by decide) bGL 65536 rfl rfl (by kernel_rfl) (aM hH (by kernel_rfl))
 have k5:=uL (IvF.of hI) 5 (by decide) bGN 256 rfl rfl (by kernel_rfl) (aUA (aM hH (by kernel_rfl)) (aUA (aUA (aM hH (by kernel_rfl)) (aUA (aM hH (by kernel_rfl)) (aM hH (by kernel_rfl)))) (aUA (aUA (aM hH (by kernel_rfl)) (aUA (aM hH (by kernel_rfl)) (aM hH (by kernel_rfl)))) (bOr (bXor (aM hH (by kernel_rfl)) (aM hH (by kernel_rfl))) (aM hH (by kernel_rfl))))))
 have k6:=uL (IvF.of hI) 6 (by decide) bGO 1024 rfl rfl (by kernel_rfl) (aM hH (by kernel_rfl))
 have k7:=uL (IvF.of hI) 7 (by decide) xW 65536 rfl rfl (by kernel_rfl) (aM hH (by kernel_rfl))
 have k8:=uL (IvF.of hI) 8 (by decide) xX 65536 rfl rfl (by kernel_rfl) (aM hH (by kernel_rfl))
 have k9:=uL (IvF.of hI) 9 (by decide) aHo 65536 rfl rfl (by kernel_rfl) (aM hH (by kernel_rfl))
 have k10:=uL (IvF.of hI) 10 (by decide) aHp 65536 rfl rfl (by kernel_rfl) (aM hH (by kernel_rfl))
 have k11:=uL (IvF.of hI) 11 (by decide) bHd 65536 rfl rfl (by kernel_rfl) (aM hH (by kernel_rfl))
 have k12:=uL (IvF.of hI) 12 (by decide) bHe 65536 rfl rfl (by kernel_rfl) (aM hH (by kernel_rfl))
 have k13:=uL (IvF.of hI) 13 (by decide) bHf 64 rfl rfl (by kernel_rfl) (aM hH (by kernel_rfl))
 have k14:=uL (IvF.of hI) 14 (by decide) bHg 64 rfl rfl (by kernel_rfl) (aM hH (by kernel_rfl))
 have k15:=uL (IvF.of hI) 15 (by decide) bHh 4 rfl rfl (by kernel_rfl) (aM hH (by kernel_rfl))
 have kS:=st_S (IvF.of hI) bHj (by kernel_rfl) (fun _ _=>rfl) (pQ hH (by kernel_rfl))
 have kR:=st_R (IvF.of hI) bHk (by kernel_rfl) (fun _ _=>rfl) (updW (pQ hH (by kernel_rfl)) (oV (aM hH (by kernel_rfl)) (oV (oV (aM hH (by kernel_rfl)) (oV (aM hH (by kernel_rfl)) (oV (aM hH (by kernel_rfl)) (aM hH (by kernel_rfl))))) (selW (updW (pQ hH (by kernel_rfl)) (oV (aM hH (by kernel_rfl)) (oV (aM hH (by kernel_rfl)) (oV (aM hH (by kernel_rfl)) (oV (aM hH (by kernel_rfl)) (oV (aM hH (by kernel_rfl)) (oV (aM hH (by kernel_rfl)) (oV (aM hH (by kernel_rfl)) (oV (aM hH (by kernel_rfl)) (oV (oV (aM hH (by kernel_rfl)) (aM hH (by kernel_rfl))) (oV (aM hH (by kernel_rfl)) (oV (aM hH (by kernel_rfl)) (oV (aM hH (by kernel_rfl)) (oV (aM hH (by kernel_rfl)) (oV (aM hH (by kernel_rfl)) (aM hH (by kernel_rfl)))))))))))))))))))))
 exact ⟨⟨⟨rfl,rfl,rfl,rfl⟩,Or.inr ⟨⟨rfl,rfl,fun _ _=>rfl⟩,trivial⟩⟩,⟨⟨rfl,rfl,rfl,rfl⟩,Or.inr ⟨⟨rfl,k0⟩,⟨rfl,k1⟩,⟨rfl,k2⟩,⟨rfl,k3⟩,⟨rfl,k4⟩,⟨rfl,k5⟩,⟨rfl,k6⟩,⟨rfl,k7⟩,⟨rfl,k8⟩,⟨rfl,k9⟩,⟨rfl,k10⟩,⟨rfl,k11⟩,⟨rfl,k12⟩,⟨rfl,k13⟩,⟨rfl,k14⟩,⟨rfl,k15⟩,⟨rfl,rfl,fun j _=>kS (0+j)⟩,⟨rfl,rfl,fun j _=>kR (0+j)⟩,⟨rfl,rfl,rfl,rfl⟩,trivial⟩⟩,trivial⟩
theorem s7eq (xs:Nat→Nat→Ext) (ρ:Env) (hI:ρ.I=Iv xs) (hz:dD ρ 16 0 3) (hH:sxH.ok ρ) (hn:bC ρ []):bC ρ []∧VEq ρ ρ (.s (.int .i64 (.lit 1))) (.s (.int .i64 (.lit 1)))∧aEO ρ (some sxO) (some s7O):=⟨hn,⟨rfl,rfl⟩,s7vc xs ρ hI hH⟩
theorem s7ok (xs:Nat→Nat→Ext):aW Try.prog (Iv xs) 17 s7S:=fF (qA (fB.of (aUo (bP (bKh xs) (by kernel_rfl) 3000 40) bMO (bMN xs))) (aUn _ _ _ _ _ _) rfl rfl (s7eq xs)) (dY _ _ _ _ _ _)
noncomputable def SN7:Ctx:=inl Try.prog (ctx [(17,s7S)]) 3000 60 14
noncomputable def SN7h:aU:=bIQ Try.prog (ctx [(17,s7S)]) 3000 60 14
theorem bMT (xs:Nat→Nat→Ext):bV Try.prog (Iv xs) SN7:=aDj (mP (fun p hp=>by
 simp only [List.mem_cons,List.not_mem_nil,or_false] at hp
 rcases hp with rfl
 ·exact s7ok xs
 )) (by kernel_rfl) 3000 60 14
def rnX:E:=stX (.v 16)
def rnH:Hyp:=⟨[(.v 0,(0,2047)),(.v 1,(0,65535)),(.v 2,(0,65535)),(.v 3,(0,65535)),(.v 4,(0,65535)),(.v 5,(0,255)),(.v 6,(0,1023)),(.v 7,(0,65535)),(.v 8,(0,65535)),(.v 9,(0,65535)),(.v 10,(0,65535)),(.v 11,(0,65535)),(.v 12,(0,65535)),(.v 13,(0,63)),(.v 14,(0,63)),(.v 15,(0,3)),(.v 16,(0,3000))],[(0,(0,255)),(1,(0,2047)),(2,(0,65535))],[(40,(0,65535)),(41,(0,63)),(70,(0,2047)),(71,(0,65535)),(72,(0,65535)),(73,(0,65535)),(74,(0,65535)),(75,(0,255)),(76,(0,1023)),(77,(0,65535)),(78,(0,65535)),(79,(0,65535)),(80,(0,65535)),(81,(0,65535)),(82,(0,65535)),(83,(0,63)),(84,(0,63)),(85,(0,3))],[(20,(0,255)),(50,(0,255)),(90,(0,2047)),(91,(0,65535))],[],[]⟩
def rnL:List SV:=[.s (.ptr 1 (.lit 0)),.s (.int .i64 (.v 16))]
def rnM:Mem:=[⟨5,[.run .u8 (.lit 8192) (.av 0) 0],true,some 1,false⟩,⟨81,[.one (.int .u16 (.v 0)),.one (.int .u16 (.v 1)),.one (.int .u16 (.v 2)),.one (.int .u16 (.v 3)),.one (.int .u16 (.v 4)),.one (.int .u16 (.v 5)),.one (.int .u16 (.v 6)),.one (.int .u16 (.v 7)),.one (.int .u16 (.v 8)),.one (.int .u16 (.v 9)),.one (.int .u16 (.v 10)),.one (.int .u16 (.v 11)),.one (.int .u16 (.v 12)),.one (.int .u8 (.v 13)),.one (.int .u8 (.v 14)),.one (.int .u8 (.v 15)),.run .u16 (.lit 4) (.av 1) 0,.run .u16 (.lit 256) (.av 2) 0,.one (.slc 0 (.lit 0) (.lit 8192) (.op (.lit 0)))],true,none,false⟩]
def rnO:Mem:=[⟨5,[.run .u8 (.lit 8192) (.av 0) 0],true,some 1,false⟩,⟨81,[.one (.int .u16 (.app 70 rnX)),.one (.int .u16 (.app 71 rnX)),.one (.int .u16 (.app 72 rnX)),.one (.int .u16 (.app 73 rnX)),.one (.int .u16 (.app 74 rnX)),.one (.int .u16 (.app 75 rnX)),.one (.int .u16 (.app 76 rnX)),.one (.int .u16 (.app 77 rnX)),.one (.int .u16 (.app 78 rnX)),.one (.int .u16 (.app 79 rnX)),.one (.int .u16 (.app 80 rnX)),.one (.int .u16 (.app 81 rnX)),.one (.int .u16 (.app 82 rnX)),.one (.int .u8 (.app 83 rnX)),.one (.int .u8 (.app 84 rnX)),.one (.int .u8 (.app 85 rnX)),.run .u16 (.lit 4) (.app 90 rnX) 0,.run .u16 (.lit 256) (.app 91 rnX) 0,.one (.slc 0 (.lit 0) (.lit 8192) (.op (.lit 0)))],true,none,false⟩]
def rnN:List E:=[]
def rnR:SV:=.s (.int .i64 (.lit 0))
--SKEND
def rn0:E:=.lt (.v 17) (.v 16)
def rn1:E:=.app 85 (.cons (.lit 1) (.cons (.v 18) (.cons (.v 19) (.cons (.v 20) (.cons (.v 21) (.cons (.v 22) (.cons (.v 23) (.cons (.v 24) (.cons (.v 25) (.cons (.v 26) (.cons (.v 27) (.cons (.v 28) (.cons (.v 29) (.cons (.v 30) (.cons (.v 31) (.cons (.v 32) (.cons (.v 33) (.cons (.av 0) (.cons (.av 3) (.cons (.av 4) .nil))))))))))))))))))))
def rn2:E:=.app 84 (.cons (.lit 1) (.cons (.v 18) (.cons (.v 19) (.cons (.v 20) (.cons (.v 21) (.cons (.v 22) (.cons (.v 23) (.cons (.v 24) (.cons (.v 25) (.cons (.v 26) (.cons (.v 27) (.cons (.v 28) (.cons (.v 29) (.cons (.v 30) (.cons (.v 31) (.cons (.v 32) (.cons (.v 33) (.cons (.av 0) (.cons (.av 3) (.cons (.av 4) .nil))))))))))))))))))))
def rn3:E:=.app 83 (.cons (.lit 1) (.cons (.v 18) (.cons (.v 19) (.cons (.v 20) (.cons (.v 21) (.cons (.v 22) (.cons (.v 23) (.cons (.v 24) (.cons (.v 25) (.cons (.v 26) (.cons (.v 27) (.cons (.v 28) (.cons (.v 29) (.cons (.v 30) (.cons (.v 31) (.cons (.v 32) (.cons (.v 33) (.cons (.av 0) (.cons (.av 3) (.cons (.av 4) .nil))))))))))))))))))))
def rn4:E:=.app 82 (.cons (.lit 1) (.cons (.v 18) (.cons (.v 19) (.cons (.v 20) (.cons (.v 21) (.cons (.v 22) (.cons (.v 23) (.cons (.v 24) (.cons (.v 25) (.cons (.v 26) (.cons (.v 27) (.cons (.v 28) (.cons (.v 29) (.cons (.v 30) (.cons (.v 31) (.cons (.v 32) (.cons (.v 33) (.cons (.av 0) (.cons (.av 3) (.cons (.av 4) .nil))))))))))))))))))))
def rn5:E:=.app 81 (.cons (.lit 1) (.cons (.v 18) (.cons (.v 19) (.cons (.v 20) (.cons (.v 21) (.cons (.v 22) (.cons (.v 23) (.cons (.v 24) (.cons (.v 25) (.cons (.v 26) (.cons (.v 27) (.cons (.v 28) (.cons (.v 29) (.cons (.v 30) (.cons (.v 31) (.cons (.v 32) (.cons (.v 33) (.cons (.av 0) (.cons (.av 3) (.cons (.av 4) .nil))))))))))))))))))))
def rn6:E:=.app 80 (.cons (.lit 1) (.cons (.v 18) (.cons (.v 19) (.cons (.v 20) (.cons (.v 21) (.cons (.v 22) (.cons (.v 23) (.cons (.v 24) (.cons (.v 25) (.cons (.v 26) (.cons (.v 27) (.cons (.v 28) (.cons (.v 29) (.cons (.v 30) (.cons (.v 31) (.cons (.v 32) (.cons (.v 33) (.cons (.av 0) (.cons (.av 3) (.cons (.av 4) .nil))))))))))))))))))))
def rn7:E:=.app 79 (.cons (.lit 1) (.cons (.v 18) (.cons (.v 19) (.cons (.v 20) (.cons (.v 21) (.cons (.v 22) (.cons (.v 23) (.cons (.v 24) (.cons (.v 25) (.cons (.v 26) (.cons (.v 27) (.cons (.v 28) (.cons (.v 29) (.cons (.v 30) (.cons (.v 31) (.cons (.v 32) (.cons (.v 33) (.cons (.av 0) (.cons (.av 3) (.cons (.av 4) .nil))))))))))))))))))))
def rn8:E:=.app 78 (.cons (.lit 1) (.cons (.v 18) (.cons (.v 19) (.cons (.v 20) (.cons (.v 21) (.cons (.v 22) (.cons (.v 23) (.cons (.v 24) (.cons (.v 25) (.cons (.v 26) (.cons (.v 27) (.cons (.v 28) (.cons (.v 29) (.cons (.v 30) (.cons (.v 31) (.cons (.v 32) (.cons (.v 33) (.cons (.av 0) (.cons (.av 3) (.cons (.av 4) .nil))))))))))))))))))))
def rn9:E:=.app 77 (.cons (.lit 1) (.cons (.v 18) (.cons (.v 19) (.cons (.v 20) (.cons (.v 21) (.cons (.v 22) (.cons (.v 23) (.cons (.v 24) (.cons (.v 25) (.cons (.v 26) (.cons (.v 27) (.cons (.v 28) (.cons (.v 29) (.cons (.v 30) (.cons (.v 31) (.cons (.v 32) (.cons (.v 33) (.cons (.av 0) (.cons (.av 3) (.cons (.av 4) .nil))))))))))))))))))))
def bQA:E:=.app 76 (.cons (.lit 1) (.cons (.v 18) (.cons (.v 19) (.cons (.v 20) (.cons (.v 21) (.cons (.v 22) (.cons (.v 23) (.cons (.v 24) (.cons (.v 25) (.cons (.v 26) (.cons (.v 27) (.cons (.v 28) (.cons (.v 29) (.cons (.v 30) (.cons (.v 31) (.cons (.v 32) (.cons (.v 33) (.cons (.av 0) (.cons (.av 3) (.cons (.av 4) .nil))))))))))))))))))))
def bQB:E:=.app 75 (.cons (.lit 1) (.cons (.v 18) (.cons (.v 19) (.cons (.v 20) (.cons (.v 21) (.cons (.v 22) (.cons (.v 23) (.cons (.v 24) (.cons (.v 25) (.cons (.v 26) (.cons (.v 27) (.cons (.v 28) (.cons (.v 29) (.cons (.v 30) (.cons (.v 31) (.cons (.v 32) (.cons (.v 33) (.cons (.av 0) (.cons (.av 3) (.cons (.av 4) .nil))))))))))))))))))))
def bQC:E:=.app 74 (.cons (.lit 1) (.cons (.v 18) (.cons (.v 19) (.cons (.v 20) (.cons (.v 21) (.cons (.v 22) (.cons (.v 23) (.cons (.v 24) (.cons (.v 25) (.cons (.v 26) (.cons (.v 27) (.cons (.v 28) (.cons (.v 29) (.cons (.v 30) (.cons (.v 31) (.cons (.v 32) (.cons (.v 33) (.cons (.av 0) (.cons (.av 3) (.cons (.av 4) .nil))))))))))))))))))))
def bQD:E:=.app 73 (.cons (.lit 1) (.cons (.v 18) (.cons (.v 19) (.cons (.v 20) (.cons (.v 21) (.cons (.v 22) (.cons (.v 23) (.cons (.v 24) (.cons (.v 25) (.cons (.v 26) (.cons (.v 27) (.cons (.v 28) (.cons (.v 29) (.cons (.v 30) (.cons (.v 31) (.cons (.v 32) (.cons (.v 33) (.cons (.av 0) (.cons (.av 3) (.cons (.av 4) .nil))))))))))))))))))))
def bQE:E:=.app 72 (.cons (.lit 1) (.cons (.v 18) (.cons (.v 19) (.cons (.v 20) (.cons (.v 21) (.cons (.v 22) (.cons (.v 23) (.cons (.v 24) (.cons (.v 25) (.cons (.v 26) (.cons (.v 27) (.cons (.v 28) (.cons (.v 29) (.cons (.v 30) (.cons (.v 31) (.cons (.v 32) (.cons (.v 33) (.cons (.av 0) (.cons (.av 3) (.cons (.av 4) .nil))))))))))))))))))))
def bQF:E:=.app 71 (.cons (.lit 1) (.cons (.v 18) (.cons (.v 19) (.cons (.v 20) (.cons (.v 21) (.cons (.v 22) (.cons (.v 23) (.cons (.v 24) (.cons (.v 25) (.cons (.v 26) (.cons (.v 27) (.cons (.v 28) (.cons (.v 29) (.cons (.v 30) (.cons (.v 31) (.cons (.v 32) (.cons (.v 33) (.cons (.av 0) (.cons (.av 3) (.cons (.av 4) .nil))))))))))))))))))))
def bQG:E:=.app 70 (.cons (.lit 1) (.cons (.v 18) (.cons (.v 19) (.cons (.v 20) (.cons (.v 21) (.cons (.v 22) (.cons (.v 23) (.cons (.v 24) (.cons (.v 25) (.cons (.v 26) (.cons (.v 27) (.cons (.v 28) (.cons (.v 29) (.cons (.v 30) (.cons (.v 31) (.cons (.v 32) (.cons (.v 33) (.cons (.av 0) (.cons (.av 3) (.cons (.av 4) .nil))))))))))))))))))))
def bQH:E:=.add (.v 17) (.lit 1)
def bQI:E:=.app 91 (.cons (.lit 1) (.cons (.v 18) (.cons (.v 19) (.cons (.v 20) (.cons (.v 21) (.cons (.v 22) (.cons (.v 23) (.cons (.v 24) (.cons (.v 25) (.cons (.v 26) (.cons (.v 27) (.cons (.v 28) (.cons (.v 29) (.cons (.v 30) (.cons (.v 31) (.cons (.v 32) (.cons (.v 33) (.cons (.av 0) (.cons (.av 3) (.cons (.av 4) .nil))))))))))))))))))))
def bQJ:E:=.app 90 (.cons (.lit 1) (.cons (.v 18) (.cons (.v 19) (.cons (.v 20) (.cons (.v 21) (.cons (.v 22) (.cons (.v 23) (.cons (.v 24) (.cons (.v 25) (.cons (.v 26) (.cons (.v 27) (.cons (.v 28) (.cons (.v 29) (.cons (.v 30) (.cons (.v 31) (.cons (.v 32) (.cons (.v 33) (.cons (.av 0) (.cons (.av 3) (.cons (.av 4) .nil))))))))))))))))))))
noncomputable def bGk:List Item:=nZ Try.prog 10 9
noncomputable def aTO:Head:=⟨9,bGk,⟨[((.v 0),(0,2047)),((.v 1),(0,65535)),((.v 2),(0,65535)),((.v 3),(0,65535)),((.v 4),(0,65535)),((.v 5),(0,255)),((.v 6),(0,1023)),((.v 7),(0,65535)),((.v 8),(0,65535)),((.v 9),(0,65535)),((.v 10),(0,65535)),((.v 11),(0,65535)),((.v 12),(0,65535)),((.v 13),(0,63)),((.v 14),(0,63)),((.v 15),(0,3)),((.v 16),(0,3000)),((.v 17),(0,3000)),((.v 18),(0,2047)),((.v 19),(0,65535)),((.v 20),(0,65535)),((.v 21),(0,65535)),((.v 22),(0,65535)),((.v 23),(0,255)),((.v 24),(0,1023)),((.v 25),(0,65535)),((.v 26),(0,65535)),((.v 27),(0,65535)),((.v 28),(0,65535)),((.v 29),(0,65535)),((.v 30),(0,65535)),((.v 31),(0,63)),((.v 32),(0,63)),((.v 33),(0,3))],[(0,(0,255)),(1,(0,2047)),(2,(0,65535)),(3,(0,2047)),(4,(0,65535))],[(40,(0,65535)),(41,(0,63)),(70,(0,2047)),(71,(0,65535)),(72,(0,65535)),(73,(0,65535)),(74,(0,65535)),(75,(0,255)),(76,(0,1023)),(77,(0,65535)),(78,(0,65535)),(79,(0,65535)),(80,(0,65535)),(81,(0,65535)),(82,(0,65535)),(83,(0,63)),(84,(0,63)),(85,(0,3))],[(20,(0,255)),(50,(0,255)),(90,(0,2047)),(91,(0,65535))],[],[]⟩,[⟨15,[],.s (.int .i64 (.v 17))⟩,⟨14,[],.s (.int .i64 (.v 16))⟩,⟨0,[],.s (.ptr 1 (.lit 0))⟩],[⟨5,[.run .u8 (.lit 8192) (.av 0) 0],true,some 1,false⟩,⟨81,[.one (.int .u16 (.v 18)),.one (.int .u16 (.v 19)),.one (.int .u16 (.v 20)),.one (.int .u16 (.v 21)),.one (.int .u16 (.v 22)),.one (.int .u16 (.v 23)),.one (.int .u16 (.v 24)),.one (.int .u16 (.v 25)),.one (.int .u16 (.v 26)),.one (.int .u16 (.v 27)),.one (.int .u16 (.v 28)),.one (.int .u16 (.v 29)),.one (.int .u16 (.v 30)),.one (.int .u8 (.v 31)),.one (.int .u8 (.v 32)),.one (.int .u8 (.v 33)),.run .u16 (.lit 4) (.av 3) 0,.run .u16 (.lit 256) (.av 4) 0,.one (.slc 0 (.lit 0) (.lit 8192) (.op (.lit 0)))],true,none,false⟩]⟩
noncomputable def bBX:List Head:=[aTO]
def rnD:Dim:=⟨34,0,5,17,0,3,2⟩
theorem rnst:fH Try.prog SN7 SN7h rnD bBX [] 3000 0 10 rnH rnL rnM=some (.jump 0 bGk ⟨[(33,(.v 15)),(32,(.v 14)),(31,(.v 13)),(30,(.v 12)),(29,(.v 11)),(28,(.v 10)),(27,(.v 9)),(26,(.v 8)),(25,(.v 7)),(24,(.v 6)),(23,(.v 5)),(22,(.v 4)),(21,(.v 3)),(20,(.v 2)),(19,(.v 1)),(18,(.v 0)),(17,(.lit 0))],[],[(4,(.av 2)),(3,(.av 1))]⟩):=by kernel_rfl
theorem rnsg0:lZ Try.prog SN7 SN7h rnD bBX [] 3000 0 10 aTO=some (.ite rn0 (.jump 0 bGk ⟨[(33,rn1),(32,rn2),(31,rn3),(30,rn4),(29,rn5),(28,rn6),(27,rn7),(26,rn8),(25,rn9),(24,bQA),(23,bQB),(22,bQC),(21,bQD),(20,bQE),(19,bQF),(18,bQG),(17,bQH)],[],[(4,bQI),(3,bQJ)]⟩) (.ret (.s (.int .i64 (.lit 0))) [⟨5,[.run .u8 (.lit 8192) (.av 0) 0],true,some 1,false⟩,⟨81,[.one (.int .u16 (.v 18)),.one (.int .u16 (.v 19)),.one (.int .u16 (.v 20)),.one (.int .u16 (.v 21)),.one (.int .u16 (.v 22)),.one (.int .u16 (.v 23)),.one (.int .u16 (.v 24)),.one (.int .u16 (.v 25)),.one (.int .u16 (.v 26)),.one (.int .u16 (.v 27)),.one (.int .u16 (.v 28)),.one (.int .u16 (.v 29)),.one (.int .u16 (.v 30)),.one (.int .u8 (.v 31)),.one (.int .u8 (.v 32)),.one (.int .u8 (.v 33)),.run .u16 (.lit 4) (.av 3) 0,.run .u16 (.lit 256) (.av 4) 0,.one (.slc 0 (.lit 0) (.lit 8192) (.op (.lit 0)))],true,none,false⟩])):=by kernel_rfl
def rnV (i0 i1 i2 i3 i4 i5 i6 i7 i8 i9 i10 i11 i12 i13 i14 i15 i16 t y z B C D F G K L M N O P Q T U:Int) (f g d w V:Nat→Int) (vs:List Value) (J:Interp):Env:=⟨[i0,i1,i2,i3,i4,i5,i6,i7,i8,i9,i10,i11,i12,i13,i14,i15,i16,t,y,z,B,C,D,F,G,K,L,M,N,O,P,Q,T,U],[],[f,g,d,w,V],vs,J⟩
def rnJ (i0 i1 i2 i3 i4 i5 i6 i7 i8 i9 i10 i11 i12 i13 i14 i15 i16 t y z B C D F G K L M N O P Q T U:Int) (f g d w V:Nat→Int):Nat→Prop
 | 0=>(0≤t∧t≤3000)∧(0≤y∧y≤2047)∧(0≤z∧z≤65535)∧(0≤B∧B≤65535)∧(0≤C∧C≤65535)∧(0≤D∧D≤65535)∧(0≤F∧F≤255)∧(0≤G∧G≤1023)∧(0≤K∧K≤65535)∧(0≤L∧L≤65535)∧(0≤M∧M≤65535)∧(0≤N∧N≤65535)∧(0≤O∧O≤65535)∧(0≤P∧P≤65535)∧(0≤Q∧Q≤63)∧(0≤T∧T≤63)∧(0≤U∧U≤3)∧(∀ j,0≤w j∧w j≤2047)∧(∀ j,0≤V j∧V j≤65535)∧t≤i16∧(⟨[y,z,B,C,D,F,G,K,L,M,N,O,P,Q,T,U],w,V⟩:St)=stN f t.toNat ⟨[i0,i1,i2,i3,i4,i5,i6,i7,i8,i9,i10,i11,i12,i13,i14,i15],g,d⟩
 | _=>False
def bQK:Nat→Env→Nat
 | 0,ρ=>(ρ.i.getD 16 0-ρ.i.getD 17 0).toNat
 | _,_=>0
theorem rnok0 (i0 i1 i2 i3 i4 i5 i6 i7 i8 i9 i10 i11 i12 i13 i14 i15 i16 t y z B C D F G K L M N O P Q T U:Int) (f g d w V:Nat→Int) (vs:List Value) (J:Interp) (r0:0≤i0∧i0≤2047) (r1:0≤i1∧i1≤65535) (r2:0≤i2∧i2≤65535) (r3:0≤i3∧i3≤65535) (r4:0≤i4∧i4≤65535) (r5:0≤i5∧i5≤255) (r6:0≤i6∧i6≤1023) (r7:0≤i7∧i7≤65535) (r8:0≤i8∧i8≤65535) (r9:0≤i9∧i9≤65535) (W:0≤i10∧i10≤65535) (X:0≤i11∧i11≤65535) (Y:0≤i12∧i12≤65535) (Z:0≤i13∧i13≤63) (a0:0≤i14∧i14≤63) (a1:0≤i15∧i15≤3) (b6:0≤i16∧i16≤3000) (R0:∀ j,0≤f j∧f j≤255) (R1:∀ j,0≤g j∧g j≤2047) (R2:∀ j,0≤d j∧d j≤65535) (hfi:∀ p ∈ rnH.fi,∀ is bs xs,inR p.2 (J.fi p.1 is bs xs)) (hfa:∀ p ∈ rnH.fa,∀ is bs xs j,inR p.2 (J.fa p.1 is bs xs j)) (hIi:J.fi=Ifi) (hIb:J.fb=Ifb) (hIa:J.fa=Ifa) (hJ:rnJ i0 i1 i2 i3 i4 i5 i6 i7 i8 i9 i10 i11 i12 i13 i14 i15 i16 t y z B C D F G K L M N O P Q T U f g d w V 0):Hyp.ok aTO.H (rnV i0 i1 i2 i3 i4 i5 i6 i7 i8 i9 i10 i11 i12 i13 i14 i15 i16 t y z B C D F G K L M N O P Q T U f g d w V vs J):=by
 simp only [rnJ] at hJ
 obtain ⟨l0,l1,l2,l3,l4,l5,l6,l7,l8,l9,e2,e3,e4,e5,e6,e7,e8,m0,m1,hinv⟩:=hJ
 refine ⟨by simp [aTO],?_,?_,?_,?_,by simp [aTO]⟩
 ·intro p hp
  simp only [aTO,List.mem_cons,List.not_mem_nil,or_false] at hp
  rcases hp with rfl | rfl | rfl | rfl | rfl | rfl | rfl | rfl | rfl | rfl | rfl | rfl | rfl | rfl | rfl | rfl | rfl | rfl | rfl | rfl | rfl | rfl | rfl | rfl | rfl | rfl | rfl | rfl | rfl | rfl | rfl | rfl | rfl | rfl
  ·exact r0
  ·exact r1
  ·exact r2
  ·exact r3
  ·exact r4
  ·exact r5
  ·exact r6
  ·exact r7
  ·exact r8
  ·exact r9
  ·exact W
  ·exact X
  ·exact Y
  ·exact Z
  ·exact a0
  ·exact a1
  ·exact b6
  ·exact l0
  ·exact l1
  ·exact l2
  ·exact l3
  ·exact l4
  ·exact l5
  ·exact l6
  ·exact l7
  ·exact l8
  ·exact l9
  ·exact e2
  ·exact e3
  ·exact e4
  ·exact e5
  ·exact e6
  ·exact e7
  ·exact e8
 ·intro p hp
  simp only [aTO,List.mem_cons,List.not_mem_nil,or_false] at hp
  rcases hp with rfl | rfl | rfl | rfl | rfl
  ·exact R0
  ·exact R1
  ·exact R2
  ·exact m0
  ·exact m1
 ·exact hfi
 ·exact hfa
theorem rnvcS (i0 i1 i2 i3 i4 i5 i6 i7 i8 i9 i10 i11 i12 i13 i14 i15 i16:Int) (f g d:Nat→Int) (vs:List Value) (J:Interp) (r0:0≤i0∧i0≤2047) (r1:0≤i1∧i1≤65535) (r2:0≤i2∧i2≤65535) (r3:0≤i3∧i3≤65535) (r4:0≤i4∧i4≤65535) (r5:0≤i5∧i5≤255) (r6:0≤i6∧i6≤1023) (r7:0≤i7∧i7≤65535) (r8:0≤i8∧i8≤65535) (r9:0≤i9∧i9≤65535) (W:0≤i10∧i10≤65535) (X:0≤i11∧i11≤65535) (Y:0≤i12∧i12≤65535) (Z:0≤i13∧i13≤63) (a0:0≤i14∧i14≤63) (a1:0≤i15∧i15≤3) (b6:0≤i16∧i16≤3000) (R0:∀ j,0≤f j∧f j≤255) (R1:∀ j,0≤g j∧g j≤2047) (R2:∀ j,0≤d j∧d j≤65535) (hfi:∀ p ∈ rnH.fi,∀ is bs xs,inR p.2 (J.fi p.1 is bs xs)) (hfa:∀ p ∈ rnH.fa,∀ is bs xs j,inR p.2 (J.fa p.1 is bs xs j)) (hIi:J.fi=Ifi) (hIb:J.fb=Ifb) (hIa:J.fa=Ifa) :
 LT.holds (rnV i0 i1 i2 i3 i4 i5 i6 i7 i8 i9 i10 i11 i12 i13 i14 i15 i16 0 0 0 0 0 0 0 0 0 0 0 0 0 0 0 0 0 f g d (fun _=>0) (fun _=>0) vs J) (fun v' m'=>wK (rnV i0 i1 i2 i3 i4 i5 i6 i7 i8 i9 i10 i11 i12 i13 i14 i15 i16 0 0 0 0 0 0 0 0 0 0 0 0 0 0 0 0 0 f g d (fun _=>0) (fun _=>0) vs J) (⟨[i0,i1,i2,i3,i4,i5,i6,i7,i8,i9,i10,i11,i12,i13,i14,i15,i16],[],[f,g,d],vs,J⟩:Env) rnR rnO v' m') (fun j todo ρ'=>(bBX[j]?.map (·.todo))=some todo∧(fun j ρ'=>∃ (t y z B C D F G K L M N O P Q T U:Int) (w V:Nat→Int),ρ'=(rnV i0 i1 i2 i3 i4 i5 i6 i7 i8 i9 i10 i11 i12 i13 i14 i15 i16 t y z B C D F G K L M N O P Q T U f g d w V vs J)∧rnJ i0 i1 i2 i3 i4 i5 i6 i7 i8 i9 i10 i11 i12 i13 i14 i15 i16 t y z B C D F G K L M N O P Q T U f g d w V j) j ρ') (.jump 0 bGk ⟨[(33,(.v 15)),(32,(.v 14)),(31,(.v 13)),(30,(.v 12)),(29,(.v 11)),(28,(.v 10)),(27,(.v 9)),(26,(.v 8)),(25,(.v 7)),(24,(.v 6)),(23,(.v 5)),(22,(.v 4)),(21,(.v 3)),(20,(.v 2)),(19,(.v 1)),(18,(.v 0)),(17,(.lit 0))],[],[(4,(.av 2)),(3,(.av 1))]⟩):=by
 simp only [LT.holds]
 refine ⟨rfl,(E.i (rnV i0 i1 i2 i3 i4 i5 i6 i7 i8 i9 i10 i11 i12 i13 i14 i15 i16 0 0 0 0 0 0 0 0 0 0 0 0 0 0 0 0 0 f g d (fun _=>0) (fun _=>0) vs J) ((.lit 0))),(E.i (rnV i0 i1 i2 i3 i4 i5 i6 i7 i8 i9 i10 i11 i12 i13 i14 i15 i16 0 0 0 0 0 0 0 0 0 0 0 0 0 0 0 0 0 f g d (fun _=>0) (fun _=>0) vs J) ((.v 0))),(E.i (rnV i0 i1 i2 i3 i4 i5 i6 i7 i8 i9 i10 i11 i12 i13 i14 i15 i16 0 0 0 0 0 0 0 0 0 0 0 0 0 0 0 0 0 f g d (fun _=>0) (fun _=>0) vs J) ((.v 1))),(E.i (rnV i0 i1 i2 i3 i4 i5 i6 i7 i8 i9 i10 i11 i12 i13 i14 i15 i16 0 0 0 0 0 0 0 0 0 0 0 0 0 0 0 0 0 f g d (fun _=>0) (fun _=>0) vs J) ((.v 2))),(E.i (rnV i0 i1 i2 i3 i4 i5 i6 i7 i8 i9 i10 i11 i12 i13 i14 i15 i16 0 0 0 0 0 0 0 0 0 0 0 0 0 0 0 0 0 f g d (fun _=>0) (fun _=>0) vs J) ((.v 3))),(E.i (rnV i0 i1 i2 i3 i4 i5 i6 i7 i8 i9 i10 i11 i12 i13 i14 i15 i16 0 0 0 0 0 0 0 0 0 0 0 0 0 0 0 0 0 f g d (fun _=>0) (fun _=>0) vs J) ((.v 4))),(E.i (rnV i0 i1 i2 i3 i4 i5 i6 i7 i8 i9 i10 i11 i12 i13 i14 i15 i16 0 0 0 0 0 0 0 0 0 0 0 0 0 0 0 0 0 f g d (fun _=>0) (fun _=>0) vs J) ((.v 5))),(E.i (rnV i0 i1 i2 i3 i4 i5 i6 i7 i8 i9 i10 i11 i12 i13 i14 i15 i16 0 0 0 0 0 0 0 0 0 0 0 0 0 0 0 0 0 f g d (fun _=>0) (fun _=>0) vs J) ((.v 6))),(E.i (rnV i0 i1 i2 i3 i4 i5 i6 i7 i8 i9 i10 i11 i12 i13 i14 i15 i16 0 0 0 0 0 0 0 0 0 0 0 0 0 0 0 0 0 f g d (fun _=>0) (fun _=>0) vs J) ((.v 7))),(E.i (rnV i0 i1 i2 i3 i4 i5 i6 i7 i8 i9 i10 i11 i12 i13 i14 i15 i16 0 0 0 0 0 0 0 0 0 0 0 0 0 0 0 0 0 f g d (fun _=>0) (fun _=>0) vs J) ((.v 8))),(E.i (rnV i0 i1 i2 i3 i4 i5 i6 i7 i8 i9 i10 i11 i12 i13 i14 i15 i16 0 0 0 0 0 0 0 0 0 0 0 0 0 0 0 0 0 f g d (fun _=>0) (fun _=>0) vs J) ((.v 9))),(E.i (rnV i0 i1 i2 i3 i4 i5 i6 i7 i8 i9 i10 i11 i12 i13 i14 i15 i16 0 0 0 0 0 0 0 0 0 0 0 0 0 0 0 0 0 f g d (fun _=>0) (fun _=>0) vs J) ((.v 10))),(E.i (rnV i0 i1 i2 i3 i4 i5 i6 i7 i8 i9 i10 i11 i12 i13 i14 i15 i16 0 0 0 0 0 0 0 0 0 0 0 0 0 0 0 0 0 f g d (fun _=>0) (fun _=>0) vs J) ((.v 11))),(E.i (rnV i0 i1 i2 i3 i4 i5 i6 i7 i8 i9 i10 i11 i12 i13 i14 i15 i16 0 0 0 0 0 0 0 0 0 0 0 0 0 0 0 0 0 f g d (fun _=>0) (fun _=>0) vs J) ((.v 12))),(E.i (rnV i0 i1 i2 i3 i4 i5 i6 i7 i8 i9 i10 i11 i12 i13 i14 i15 i16 0 0 0 0 0 0 0 0 0 0 0 0 0 0 0 0 0 f g d (fun _=>0) (fun _=>0) vs J) ((.v 13))),(E.i (rnV i0 i1 i2 i3 i4 i5 i6 i7 i8 i9 i10 i11 i12 i13 i14 i15 i16 0 0 0 0 0 0 0 0 0 0 0 0 0 0 0 0 0 f g d (fun _=>0) (fun _=>0) vs J) ((.v 14))),(E.i (rnV i0 i1 i2 i3 i4 i5 i6 i7 i8 i9 i10 i11 i12 i13 i14 i15 i16 0 0 0 0 0 0 0 0 0 0 0 0 0 0 0 0 0 f g d (fun _=>0) (fun _=>0) vs J) ((.v 15))),(E.a (rnV i0 i1 i2 i3 i4 i5 i6 i7 i8 i9 i10 i11 i12 i13 i14 i15 i16 0 0 0 0 0 0 0 0 0 0 0 0 0 0 0 0 0 f g d (fun _=>0) (fun _=>0) vs J) ((.av 1))),(E.a (rnV i0 i1 i2 i3 i4 i5 i6 i7 i8 i9 i10 i11 i12 i13 i14 i15 i16 0 0 0 0 0 0 0 0 0 0 0 0 0 0 0 0 0 f g d (fun _=>0) (fun _=>0) vs J) ((.av 2))),(by kernel_rfl),?_⟩
 ·simp only [rnJ]
  exact ⟨⟨Int.le_refl _,(show (0:Int)≤3000 by decide)⟩,r0,r1,r2,r3,r4,r5,r6,r7,r8,r9,W,X,Y,Z,a0,a1,R1,R2,b6.1,rfl⟩
theorem rnvc0 (i0 i1 i2 i3 i4 i5 i6 i7 i8 i9 i10 i11 i12 i13 i14 i15 i16 t y z B C D F G K L M N O P Q T U:Int) (f g d w V:Nat→Int) (vs:List Value) (J:Interp) (r0:0≤i0∧i0≤2047) (r1:0≤i1∧i1≤65535) (r2:0≤i2∧i2≤65535) (r3:0≤i3∧i3≤65535) (r4:0≤i4∧i4≤65535) (r5:0≤i5∧i5≤255) (r6:0≤i6∧i6≤1023) (r7:0≤i7∧i7≤65535) (r8:0≤i8∧i8≤65535) (r9:0≤i9∧i9≤65535) (W:0≤i10∧i10≤65535) (X:0≤i11∧i11≤65535) (Y:0≤i12∧i12≤65535) (Z:0≤i13∧i13≤63) (a0:0≤i14∧i14≤63) (a1:0≤i15∧i15≤3) (b6:0≤i16∧i16≤3000) (R0:∀ j,0≤f j∧f j≤255) (R1:∀ j,0≤g j∧g j≤2047) (R2:∀ j,0≤d j∧d j≤65535) (hfi:∀ p ∈ rnH.fi,∀ is bs xs,inR p.2 (J.fi p.1 is bs xs)) (hfa:∀ p ∈ rnH.fa,∀ is bs xs j,inR p.2 (J.fa p.1 is bs xs j)) (hIi:J.fi=Ifi) (hIb:J.fb=Ifb) (hIa:J.fa=Ifa) (hJ:rnJ i0 i1 i2 i3 i4 i5 i6 i7 i8 i9 i10 i11 i12 i13 i14 i15 i16 t y z B C D F G K L M N O P Q T U f g d w V 0) :
 LT.holds (rnV i0 i1 i2 i3 i4 i5 i6 i7 i8 i9 i10 i11 i12 i13 i14 i15 i16 t y z B C D F G K L M N O P Q T U f g d w V vs J) (fun v' m'=>wK (rnV i0 i1 i2 i3 i4 i5 i6 i7 i8 i9 i10 i11 i12 i13 i14 i15 i16 t y z B C D F G K L M N O P Q T U f g d w V vs J) (⟨[i0,i1,i2,i3,i4,i5,i6,i7,i8,i9,i10,i11,i12,i13,i14,i15,i16],[],[f,g,d],vs,J⟩:Env) rnR rnO v' m') (fun j' todo ρ'=>(bBX[j']?.map (·.todo))=some todo∧(fun j ρ'=>∃ (t y z B C D F G K L M N O P Q T U:Int) (w V:Nat→Int),ρ'=(rnV i0 i1 i2 i3 i4 i5 i6 i7 i8 i9 i10 i11 i12 i13 i14 i15 i16 t y z B C D F G K L M N O P Q T U f g d w V vs J)∧rnJ i0 i1 i2 i3 i4 i5 i6 i7 i8 i9 i10 i11 i12 i13 i14 i15 i16 t y z B C D F G K L M N O P Q T U f g d w V j) j' ρ'∧bQK j' ρ'<bQK 0 (rnV i0 i1 i2 i3 i4 i5 i6 i7 i8 i9 i10 i11 i12 i13 i14 i15 i16 t y z B C D F G K L M N O P Q T U f g d w V vs J)) (.ite rn0 (.jump 0 bGk ⟨[(33,rn1),(32,rn2),(31,rn3),(30,rn4),(29,rn5),(28,rn6),(27,rn7),(26,rn8),(25,rn9),(24,bQA),(23,bQB),(22,bQC),(21,bQD),(20,bQE),(19,bQF),(18,bQG),(17,bQH)],[],[(4,bQI),(3,bQJ)]⟩) (.ret (.s (.int .i64 (.lit 0))) [⟨5,[.run .u8 (.lit 8192) (.av 0) 0],true,some 1,false⟩,⟨81,[.one (.int .u16 (.v 18)),.one (.int .u16 (.v 19)),.one (.int .u16 (.v 20)),.one (.int .u16 (.v 21)),.one (.int .u16 (.v 22)),.one (.int .u16 (.v 23)),.one (.int .u16 (.v 24)),.one (.int .u16 (.v 25)),.one (.int .u16 (.v 26)),.one (.int .u16 (.v 27)),.one (.int .u16 (.v 28)),.one (.int .u16 (.v 29)),.one (.int .u16 (.v 30)),.one (.int .u8 (.v 31)),.one (.int .u8 (.v 32)),.one (.int .u8 (.v 33)),.run .u16 (.lit 4) (.av 3) 0,.run .u16 (.lit 256) (.av 4) 0,.one (.slc 0 (.lit 0) (.lit 8192) (.op (.lit 0)))],true,none,false⟩])):=by
 simp only [LT.holds]
 simp only [rnJ] at hJ
 obtain ⟨l0,l1,l2,l3,l4,l5,l6,l7,l8,l9,e2,e3,e4,e5,e6,e7,e8,m0,m1,hinv⟩:=hJ
 refine ⟨fun b5=>?_,fun b5=>?_⟩
 ·
   refine ⟨rfl,⟨(E.i (rnV i0 i1 i2 i3 i4 i5 i6 i7 i8 i9 i10 i11 i12 i13 i14 i15 i16 t y z B C D F G K L M N O P Q T U f g d w V vs J) bQH),(E.i (rnV i0 i1 i2 i3 i4 i5 i6 i7 i8 i9 i10 i11 i12 i13 i14 i15 i16 t y z B C D F G K L M N O P Q T U f g d w V vs J) bQG),(E.i (rnV i0 i1 i2 i3 i4 i5 i6 i7 i8 i9 i10 i11 i12 i13 i14 i15 i16 t y z B C D F G K L M N O P Q T U f g d w V vs J) bQF),(E.i (rnV i0 i1 i2 i3 i4 i5 i6 i7 i8 i9 i10 i11 i12 i13 i14 i15 i16 t y z B C D F G K L M N O P Q T U f g d w V vs J) bQE),(E.i (rnV i0 i1 i2 i3 i4 i5 i6 i7 i8 i9 i10 i11 i12 i13 i14 i15 i16 t y z B C D F G K L M N O P Q T U f g d w V vs J) bQD),(E.i (rnV i0 i1 i2 i3 i4 i5 i6 i7 i8 i9 i10 i11 i12 i13 i14 i15 i16 t y z B C D F G K L M N O P Q T U f g d w V vs J) bQC),(E.i (rnV i0 i1 i2 i3 i4 i5 i6 i7 i8 i9 i10 i11 i12 i13 i14 i15 i16 t y z B C D F G K L M N O P Q T U f g d w V vs J) bQB),(E.i (rnV i0 i1 i2 i3 i4 i5 i6 i7 i8 i9 i10 i11 i12 i13 i14 i15 i16 t y z B C D F G K L M N O P Q T U f g d w V vs J) bQA),(E.i (rnV i0 i1 i2 i3 i4 i5 i6 i7 i8 i9 i10 i11 i12 i13 i14 i15 i16 t y z B C D F G K L M N O P Q T U f g d w V vs J) rn9),(E.i (rnV i0 i1 i2 i3 i4 i5 i6 i7 i8 i9 i10 i11 i12 i13 i14 i15 i16 t y z B C D F G K L M N O P Q T U f g d w V vs J) rn8),(E.i (rnV i0 i1 i2 i3 i4 i5 i6 i7 i8 i9 i10 i11 i12 i13 i14 i15 i16 t y z B C D F G K L M N O P Q T U f g d w V vs J) rn7),(E.i (rnV i0 i1 i2 i3 i4 i5 i6 i7 i8 i9 i10 i11 i12 i13 i14 i15 i16 t y z B C D F G K L M N O P Q T U f g d w V vs J) rn6),(E.i (rnV i0 i1 i2 i3 i4 i5 i6 i7 i8 i9 i10 i11 i12 i13 i14 i15 i16 t y z B C D F G K L M N O P Q T U f g d w V vs J) rn5),(E.i (rnV i0 i1 i2 i3 i4 i5 i6 i7 i8 i9 i10 i11 i12 i13 i14 i15 i16 t y z B C D F G K L M N O P Q T U f g d w V vs J) rn4),(E.i (rnV i0 i1 i2 i3 i4 i5 i6 i7 i8 i9 i10 i11 i12 i13 i14 i15 i16 t y z B C D F G K L M N O P Q T U f g d w V vs J) rn3),(E.i (rnV i0 i1 i2 i3 i4 i5 i6 i7 i8 i9 i10 i11 i12 i13 i14 i15 i16 t y z B C D F G K L M N O P Q T U f g d w V vs J) rn2),(E.i (rnV i0 i1 i2 i3 i4 i5 i6 i7 i8 i9 i10 i11 i12 i13 i14 i15 i16 t y z B C D F G K L M N O P Q T U f g d w V vs J) rn1),(E.a (rnV i0 i1 i2 i3 i4 i5 i6 i7 i8 i9 i10 i11 i12 i13 i14 i15 i16 t y z B C D F G K L M N O P Q T U f g d w V vs J) bQJ),(E.a (rnV i0 i1 i2 i3 i4 i5 i6 i7 i8 i9 i10 i11 i12 i13 i14 i15 i16 t y z B C D F G K L M N O P Q T U f g d w V vs J) bQI),(by kernel_rfl),?_⟩,?_⟩
   ·simp only [rnJ]
    have hF:IvF ((rnV i0 i1 i2 i3 i4 i5 i6 i7 i8 i9 i10 i11 i12 i13 i14 i15 i16 t y z B C D F G K L M N O P Q T U f g d w V vs J)).I:=⟨hIi,hIb,hIa⟩
    have hs:(stE (rnV i0 i1 i2 i3 i4 i5 i6 i7 i8 i9 i10 i11 i12 i13 i14 i15 i16 t y z B C D F G K L M N O P Q T U f g d w V vs J) [.v 18,.v 19,.v 20,.v 21,.v 22,.v 23,.v 24,.v 25,.v 26,.v 27,.v 28,.v 29,.v 30,.v 31,.v 32,.v 33] (.av 3) (.av 4)).ok:=St.bAa l1 l2 l3 l4 l5 l6 l7 l8 l9 e2 e3 e4 e5 e6 e7 e8 m0 m1
    have e:=mC (rnV i0 i1 i2 i3 i4 i5 i6 i7 i8 i9 i10 i11 i12 i13 i14 i15 i16 t y z B C D F G K L M N O P Q T U f g d w V vs J) hF (.lit 1) [.v 18,.v 19,.v 20,.v 21,.v 22,.v 23,.v 24,.v 25,.v 26,.v 27,.v 28,.v 29,.v 30,.v 31,.v 32,.v 33] rfl (.av 0) (.av 3) (.av 4) hs
    have o:=aAe (E.a (rnV i0 i1 i2 i3 i4 i5 i6 i7 i8 i9 i10 i11 i12 i13 i14 i15 i16 t y z B C D F G K L M N O P Q T U f g d w V vs J) (.av 0)) _ hs (E.i (rnV i0 i1 i2 i3 i4 i5 i6 i7 i8 i9 i10 i11 i12 i13 i14 i15 i16 t y z B C D F G K L M N O P Q T U f g d w V vs J) (.lit 1)).toNat
    rw [← e] at o
    have hc:t<i16:=of_decide_eq_true b5
    refine ⟨?_,o.rg 0 (by decide) 2047 rfl,o.rg 1 (by decide) 65535 rfl,o.rg 2 (by decide) 65535 rfl,o.rg 3 (by decide) 65535 rfl,o.rg 4 (by decide) 65535 rfl,o.rg 5 (by decide) 255 rfl,o.rg 6 (by decide) 1023 rfl,o.rg 7 (by decide) 65535 rfl,o.rg 8 (by decide) 65535 rfl,o.rg 9 (by decide) 65535 rfl,o.rg 10 (by decide) 65535 rfl,o.rg 11 (by decide) 65535 rfl,o.rg 12 (by decide) 65535 rfl,o.rg 13 (by decide) 63 rfl,o.rg 14 (by decide) 63 rfl,o.rg 15 (by decide) 3 rfl,o.rS,o.rR,?_,?_⟩
    ·show 0≤t+1∧t+1≤3000;omega
    ·show t+1≤i16;omega
    ·refine (show aUd (.lit 1) [.v 18,.v 19,.v 20,.v 21,.v 22,.v 23,.v 24,.v 25,.v 26,.v 27,.v 28,.v 29,.v 30,.v 31,.v 32,.v 33] (.av 0) (.av 3) (.av 4) (rnV i0 i1 i2 i3 i4 i5 i6 i7 i8 i9 i10 i11 i12 i13 i14 i15 i16 t y z B C D F G K L M N O P Q T U f g d w V vs J)=_ from e).trans ?_
     show stN f 1 (⟨[y,z,B,C,D,F,G,K,L,M,N,O,P,Q,T,U],w,V⟩:St)=stN f (t+1).toNat _
     rw [hinv.2,show (t+1).toNat=t.toNat+1 by omega]
     rfl
   ·have hc:t<i16:=of_decide_eq_true b5
    exact Nat.lt_of_le_of_lt (Nat.le_of_eq (m:=(i16-(t+1)).toNat) (by kernel_rfl)) (Nat.lt_of_lt_of_eq (show (i16-(t+1)).toNat<(i16-t).toNat by omega) (by kernel_rfl))
 ·
   refine ⟨rfl,?_,?_⟩
   all_goals
    repeat' (first | exact rfl | exact trivial | exact fun _ _=>rfl | refine And.intro ?_ ?_ | refine Or.inr ?_)
   all_goals have hc:¬ (t<i16):=of_decide_eq_false (show decide (t<i16)=false from b5)
   all_goals have hF:IvF ((⟨[i0,i1,i2,i3,i4,i5,i6,i7,i8,i9,i10,i11,i12,i13,i14,i15,i16],[],[f,g,d],vs,J⟩:Env)).I:=⟨hIi,hIb,hIa⟩
   all_goals have hs:(stE (⟨[i0,i1,i2,i3,i4,i5,i6,i7,i8,i9,i10,i11,i12,i13,i14,i15,i16],[],[f,g,d],vs,J⟩:Env) aAQ (.av 1) (.av 2)).ok:=St.bAa r0 r1 r2 r3 r4 r5 r6 r7 r8 r9 W X Y Z a0 a1 R1 R2
   all_goals have e:=mC (⟨[i0,i1,i2,i3,i4,i5,i6,i7,i8,i9,i10,i11,i12,i13,i14,i15,i16],[],[f,g,d],vs,J⟩:Env) hF (.v 16) aAQ rfl (.av 0) (.av 1) (.av 2) hs
   all_goals have hq:(⟨[y,z,B,C,D,F,G,K,L,M,N,O,P,Q,T,U],w,V⟩:St)=aUd (.v 16) aAQ (.av 0) (.av 1) (.av 2) (⟨[i0,i1,i2,i3,i4,i5,i6,i7,i8,i9,i10,i11,i12,i13,i14,i15,i16],[],[f,g,d],vs,J⟩:Env):=(by rw [e,hinv.2,show t=i16 by omega];rfl)
   all_goals first
    | exact congrArg (fun s:St=>s.l.getD 0 0) hq
    | exact congrArg (fun s:St=>s.l.getD 1 0) hq
    | exact congrArg (fun s:St=>s.l.getD 2 0) hq
    | exact congrArg (fun s:St=>s.l.getD 3 0) hq
    | exact congrArg (fun s:St=>s.l.getD 4 0) hq
    | exact congrArg (fun s:St=>s.l.getD 5 0) hq
    | exact congrArg (fun s:St=>s.l.getD 6 0) hq
    | exact congrArg (fun s:St=>s.l.getD 7 0) hq
    | exact congrArg (fun s:St=>s.l.getD 8 0) hq
    | exact congrArg (fun s:St=>s.l.getD 9 0) hq
    | exact congrArg (fun s:St=>s.l.getD 10 0) hq
    | exact congrArg (fun s:St=>s.l.getD 11 0) hq
    | exact congrArg (fun s:St=>s.l.getD 12 0) hq
    | exact congrArg (fun s:St=>s.l.getD 13 0) hq
    | exact congrArg (fun s:St=>s.l.getD 14 0) hq
    | exact congrArg (fun s:St=>s.l.getD 15 0) hq
    | exact fun j _=>congrFun (congrArg St.S hq) (0+j)
    | exact fun j _=>congrFun (congrArg St.R hq) (0+j)
theorem rnat (xs:Nat→Nat→Ext):fB Try.prog (Iv xs) 10 17 0 3 (kN rnH rnL rnM rnN rnR (some rnO)):=by
 refine aDu (u:=0) (bMT xs) (by kernel_rfl) rnst (by decide) rfl (fun ρ j ρ'=>∃(i0 i1 i2 i3 i4 i5 i6 i7 i8 i9 i10 i11 i12 i13 i14 i15 i16:Int) (f g d:Nat→Int),∃ vs J,ρ=(⟨[i0,i1,i2,i3,i4,i5,i6,i7,i8,i9,i10,i11,i12,i13,i14,i15,i16],[],[f,g,d],vs,J⟩:Env)∧(fun j ρ'=>∃ (t y z B C D F G K L M N O P Q T U:Int) (w V:Nat→Int),ρ'=(rnV i0 i1 i2 i3 i4 i5 i6 i7 i8 i9 i10 i11 i12 i13 i14 i15 i16 t y z B C D F G K L M N O P Q T U f g d w V vs J)∧rnJ i0 i1 i2 i3 i4 i5 i6 i7 i8 i9 i10 i11 i12 i13 i14 i15 i16 t y z B C D F G K L M N O P Q T U f g d w V j) j ρ') bQK ?_
 intro ρ hI hz hH hn
 obtain ⟨ys,zs,Ys,vs,J⟩:=ρ
 obtain ⟨z1,z2,z3⟩:=hz
 simp only at z1 z2 z3 hI
 obtain ⟨i0,ys0,rfl,c5⟩:=aJ z1
 obtain ⟨i1,ys1,rfl,c6⟩:=aJ c5
 obtain ⟨i2,ys2,rfl,c7⟩:=aJ c6
 obtain ⟨i3,ys3,rfl,c8⟩:=aJ c7
 obtain ⟨i4,ys4,rfl,c9⟩:=aJ c8
 obtain ⟨i5,ys5,rfl,d0⟩:=aJ c9
 obtain ⟨i6,ys6,rfl,d1⟩:=aJ d0
 obtain ⟨i7,ys7,rfl,d2⟩:=aJ d1
 obtain ⟨i8,ys8,rfl,d3⟩:=aJ d2
 obtain ⟨i9,ys9,rfl,d4⟩:=aJ d3
 obtain ⟨i10,ys10,rfl,b7⟩:=aJ d4
 obtain ⟨i11,ys11,rfl,b8⟩:=aJ b7
 obtain ⟨i12,ys12,rfl,b9⟩:=aJ b8
 obtain ⟨i13,ys13,rfl,c0⟩:=aJ b9
 obtain ⟨i14,ys14,rfl,c1⟩:=aJ c0
 obtain ⟨i15,ys15,rfl,c2⟩:=aJ c1
 obtain ⟨i16,ys16,rfl,z1_16⟩:=aJ c2
 obtain rfl:=List.eq_nil_of_length_eq_zero z1_16
 obtain rfl:=List.eq_nil_of_length_eq_zero z2
 obtain ⟨f,Ys0,rfl,d5⟩:=aJ z3
 obtain ⟨g,Ys1,rfl,d6⟩:=aJ d5
 obtain ⟨d,Ys2,rfl,d7⟩:=aJ d6
 obtain rfl:=List.eq_nil_of_length_eq_zero d7
 have r0:0≤i0∧i0≤2047:=hH.e (.v 0,(0,2047)) (by simp [rnH])
 have r1:0≤i1∧i1≤65535:=hH.e (.v 1,(0,65535)) (by simp [rnH])
 have r2:0≤i2∧i2≤65535:=hH.e (.v 2,(0,65535)) (by simp [rnH])
 have r3:0≤i3∧i3≤65535:=hH.e (.v 3,(0,65535)) (by simp [rnH])
 have r4:0≤i4∧i4≤65535:=hH.e (.v 4,(0,65535)) (by simp [rnH])
 have r5:0≤i5∧i5≤255:=hH.e (.v 5,(0,255)) (by simp [rnH])
 have r6:0≤i6∧i6≤1023:=hH.e (.v 6,(0,1023)) (by simp [rnH])
 have r7:0≤i7∧i7≤65535:=hH.e (.v 7,(0,65535)) (by simp [rnH])
 have r8:0≤i8∧i8≤65535:=hH.e (.v 8,(0,65535)) (by simp [rnH])
 have r9:0≤i9∧i9≤65535:=hH.e (.v 9,(0,65535)) (by simp [rnH])
 have W:0≤i10∧i10≤65535:=hH.e (.v 10,(0,65535)) (by simp [rnH])
 have X:0≤i11∧i11≤65535:=hH.e (.v 11,(0,65535)) (by simp [rnH])
 have Y:0≤i12∧i12≤65535:=hH.e (.v 12,(0,65535)) (by simp [rnH])
 have Z:0≤i13∧i13≤63:=hH.e (.v 13,(0,63)) (by simp [rnH])
 have a0:0≤i14∧i14≤63:=hH.e (.v 14,(0,63)) (by simp [rnH])
 have a1:0≤i15∧i15≤3:=hH.e (.v 15,(0,3)) (by simp [rnH])
 have b6:0≤i16∧i16≤3000:=hH.e (.v 16,(0,3000)) (by simp [rnH])
 have R0:∀ j,0≤f j∧f j≤255:=fun j=>hH.a (0,(0,255)) (by simp [rnH]) j
 have R1:∀ j,0≤g j∧g j≤2047:=fun j=>hH.a (1,(0,2047)) (by simp [rnH]) j
 have R2:∀ j,0≤d j∧d j≤65535:=fun j=>hH.a (2,(0,65535)) (by simp [rnH]) j
 have hfi:∀ p ∈ rnH.fi,∀ is bs xs,inR p.2 (J.fi p.1 is bs xs):=hH.fi
 have hfa:∀ p ∈ rnH.fa,∀ is bs xs j,inR p.2 (J.fa p.1 is bs xs j):=hH.fa
 have hIi:J.fi=Ifi:=by rw [hI];rfl
 have hIb:J.fb=Ifb:=by rw [hI];rfl
 have hIa:J.fa=Ifa:=by rw [hI];rfl
 refine ⟨(rnV i0 i1 i2 i3 i4 i5 i6 i7 i8 i9 i10 i11 i12 i13 i14 i15 i16 0 0 0 0 0 0 0 0 0 0 0 0 0 0 0 0 0 f g d (fun _=>0) (fun _=>0) vs J),rfl,⟨rfl,rfl,rfl⟩,?_,fun ι=>rfl,?_,?_,?_⟩
 ·
   refine ⟨by simp [rnH],?_,?_,?_,?_,by simp [rnH]⟩
   ·intro p hp
    simp only [rnH,List.mem_cons,List.not_mem_nil,or_false] at hp
    rcases hp with rfl | rfl | rfl | rfl | rfl | rfl | rfl | rfl | rfl | rfl | rfl | rfl | rfl | rfl | rfl | rfl | rfl
    ·exact r0
    ·exact r1
    ·exact r2
    ·exact r3
    ·exact r4
    ·exact r5
    ·exact r6
    ·exact r7
    ·exact r8
    ·exact r9
    ·exact W
    ·exact X
    ·exact Y
    ·exact Z
    ·exact a0
    ·exact a1
    ·exact b6
   ·intro p hp
    simp only [rnH,List.mem_cons,List.not_mem_nil,or_false] at hp
    rcases hp with rfl | rfl | rfl
    ·exact R0
    ·exact R1
    ·exact R2
   ·exact hfi
   ·exact hfa
 ·repeat' (first | exact rfl | exact trivial | exact fun _ _=>rfl | refine And.intro ?_ ?_ | refine Or.inr ?_)
 ·refine LT.dM (fun v' m' h=>h) (fun j todo ρ' h=>⟨h.1,i0,i1,i2,i3,i4,i5,i6,i7,i8,i9,i10,i11,i12,i13,i14,i15,i16,f,g,d,vs,J,rfl,h.2⟩) (rnvcS i0 i1 i2 i3 i4 i5 i6 i7 i8 i9 i10 i11 i12 i13 i14 i15 i16 f g d vs J r0 r1 r2 r3 r4 r5 r6 r7 r8 r9 W X Y Z a0 a1 b6 R0 R1 R2 hfi hfa hIi hIb hIa)
 ·intro j h ρ' hj hI' hz' hInv
  obtain ⟨i0',i1',i2',i3',i4',i5',i6',i7',i8',i9',i10',i11',i12',i13',i14',i15',i16',A0',A1',A2',vs',J',he,t,y,z,B,C,D,F,G,K,L,M,N,O,P,Q,T,U,w,V,hρ,hJ⟩:=hInv
  cases he
  subst hρ
  rcases j with _ | j
  ·simp only [bBX,List.getElem?_cons_zero,List.getElem?_cons_succ,Option.some.injEq] at hj;subst hj
   refine ⟨aTO.H,rnok0 i0 i1 i2 i3 i4 i5 i6 i7 i8 i9 i10 i11 i12 i13 i14 i15 i16 t y z B C D F G K L M N O P Q T U f g d w V vs J r0 r1 r2 r3 r4 r5 r6 r7 r8 r9 W X Y Z a0 a1 b6 R0 R1 R2 hfi hfa hIi hIb hIa hJ,_,rnsg0,?_⟩
   exact LT.dM (fun v' m' h=>h) (fun j todo ρ' h=>⟨h.1,⟨i0,i1,i2,i3,i4,i5,i6,i7,i8,i9,i10,i11,i12,i13,i14,i15,i16,f,g,d,vs,J,rfl,h.2.1⟩,h.2.2⟩) (rnvc0 i0 i1 i2 i3 i4 i5 i6 i7 i8 i9 i10 i11 i12 i13 i14 i15 i16 t y z B C D F G K L M N O P Q T U f g d w V vs J r0 r1 r2 r3 r4 r5 r6 r7 r8 r9 W X Y Z a0 a1 b6 R0 R1 R2 hfi hfa hIi hIb hIa hJ)
  ·simp [bBX] at hj
def rnS:Go.Sx.Spec:=fG (fC 17 0 3 rnL rnM) rnH rnL rnM rnN (rnR) (some rnO)
theorem rnok (xs:Nat→Nat→Ext):aW Try.prog (Iv xs) 10 rnS:=fF (rnat xs) (dY _ _ _ _ _ _)
def bJO:Hyp:=⟨[(.v 0,(-9223372036854775808,9223372036854775807))],[],[],[],[],[]⟩
def bRj:List SV:=[.s (.int .i64 (.v 0))]
def bRk:Go.Sx.Spec:=aAx (fC 1 0 0 bRj []) bJO bRj [] [] (.s (.int .i64 (.mod (.ite (.and (.le (.lit 0) (.v 0)) (.le (.v 0) (.lit 3000))) (.v 0) (.lit 1)) (.lit 3001))))
def stx0:E:=.le (.v 0) (.lit (-1))
def stx1:E:=.le (.lit 3001) (.v 0)
def stx2:E:=.or stx0 stx1
def bRn:E:=.ite stx2 (.lit 1) (.v 0)
theorem bRl:enter Try.prog SG SGh 3000 40 26 bJO bRj []=some ([],.s (.int .i64 bRn),none):=by kernel_rfl
set_option maxHeartbeats 4000000 in
theorem stpeq (xs:Nat→Nat→Ext) (ρ:Env) (hI:ρ.I=Iv xs) (hz:dD ρ 1 0 0) (hH:bJO.ok ρ) (hn:bC ρ []):bC ρ []∧VEq ρ ρ (.s (.int .i64 bRn)) (.s (.int .i64 (.mod (.ite (.and (.le (.lit 0) (.v 0)) (.le (.v 0) (.lit 3000))) (.v 0) (.lit 1)) (.lit 3001))))∧aEO ρ none none:=by
 refine ⟨hn,?_,trivial⟩
 have r0:=hH.e (.v 0,(-9223372036854775808,9223372036854775807)) (by simp [bJO])
 simp only [inR,i_v] at r0
 simp only [VEq,SEq]
 refine ⟨trivial,?_⟩
 simp only [stx0,stx1,stx2,bRn,sgm,sgn,cN,eW,Bool.and_eq_true,Bool.or_eq_true,decide_eq_true_eq]
 generalize ρ.i.getD 0 0=x at *
 repeat' split
 all_goals omega
theorem stpok (xs:Nat→Nat→Ext):aW Try.prog (Iv xs) 26 bRk:=oZ (fF (qA (fB.of (bP (uN xs) (by kernel_rfl) 3000 40)) bRl rfl rfl (stpeq xs)) (dY _ _ _ _ _ _))
noncomputable def SRd:Ctx:=inl Try.prog (ctx [(44,cF),(46,cF),(27,eR 5),(33,dO 5),(20,eI)]) 3000 60 14
noncomputable def SRdh:aU:=bIQ Try.prog (ctx [(44,cF),(46,cF),(27,eR 5),(33,dO 5),(20,eI)]) 3000 60 14
theorem bMU (xs:Nat→Nat→Ext):bV Try.prog (Iv xs) SRd:=aDj (mP (fun p hp=>by
 simp only [List.mem_cons,List.not_mem_nil,or_false] at hp
 rcases hp with rfl | rfl | rfl | rfl | rfl
 ·exact dW bDB rfl
 ·exact dW bDA rfl
 ·exact iS bBf
 ·exact hU bBh
 ·exact jD bDt
 )) (by kernel_rfl) 3000 60 14
def nr9:E:=.upd (.tab []) (.lit 0) (.lit 28)
def nr10:E:=.upd nr9 (.lit 1) (.lit 0)
def nr11:E:=.upd nr10 (.lit 2) (.lit 0)
def nr12:E:=.upd nr11 (.lit 3) (.lit 0)
def nr13:E:=.upd nr12 (.lit 4) (.lit 0)
def nr14:E:=.mod (.v 0) (.lit 256)
def nr15:E:=.upd nr13 (.lit 5) nr14
def nr16:E:=.div (.v 0) (.lit 256)
def nr17:E:=.upd nr15 (.lit 6) nr16
def nr18:E:=.mod (.v 1) (.lit 256)
def nr19:E:=.upd nr17 (.lit 7) nr18
def nr20:E:=.div (.v 1) (.lit 256)
def nr21:E:=.upd nr19 (.lit 8) nr20
def nr22:E:=.mod (.v 2) (.lit 256)
def nr23:E:=.upd nr21 (.lit 9) nr22
def nr24:E:=.div (.v 2) (.lit 256)
def nr25:E:=.upd nr23 (.lit 10) nr24
def nr26:E:=.mod (.v 3) (.lit 256)
def nr27:E:=.upd nr25 (.lit 11) nr26
def nr28:E:=.div (.v 3) (.lit 256)
def nr29:E:=.upd nr27 (.lit 12) nr28
def nr30:E:=.mod (.v 4) (.lit 256)
def nr31:E:=.upd nr29 (.lit 13) nr30
def nr32:E:=.div (.v 4) (.lit 256)
def nr33:E:=.upd nr31 (.lit 14) nr32
def nr34:E:=.upd nr33 (.lit 15) (.v 5)
def nr35:E:=.upd nr34 (.lit 16) (.lit 0)
def nr36:E:=.mod (.v 6) (.lit 256)
def nr37:E:=.upd nr35 (.lit 17) nr36
def nr38:E:=.div (.v 6) (.lit 256)
def nr39:E:=.upd nr37 (.lit 18) nr38
def nr40:E:=.mod (.v 7) (.lit 256)
def nr41:E:=.upd nr39 (.lit 19) nr40
def nr42:E:=.div (.v 7) (.lit 256)
def nr43:E:=.upd nr41 (.lit 20) nr42
def nr44:E:=.mod (.v 8) (.lit 256)
def nr45:E:=.upd nr43 (.lit 21) nr44
def nr46:E:=.div (.v 8) (.lit 256)
def nr47:E:=.upd nr45 (.lit 22) nr46
def nr48:E:=.mod (.v 11) (.lit 256)
def nr49:E:=.upd nr47 (.lit 23) nr48
def nr50:E:=.div (.v 11) (.lit 256)
def nr51:E:=.upd nr49 (.lit 24) nr50
def nr52:E:=.mod (.v 12) (.lit 256)
def nr53:E:=.upd nr51 (.lit 25) nr52
def nr54:E:=.div (.v 12) (.lit 256)
def nr55:E:=.upd nr53 (.lit 26) nr54
def nr56:E:=.upd nr55 (.lit 27) (.v 13)
def nr57:E:=.upd nr56 (.lit 28) (.v 14)
def nr58:E:=.upd nr57 (.lit 29) (.v 15)
def nr59:E:=.sel (.av 1) (.lit 0)
def nr60:E:=.mod nr59 (.lit 256)
def nr61:E:=.upd nr58 (.lit 30) nr60
def nr62:E:=.div nr59 (.lit 256)
def nr63:E:=.upd nr61 (.lit 31) nr62
def nr64:E:=.sel (.av 1) (.lit 1)
def nr65:E:=.mod nr64 (.lit 256)
def nr66:E:=.upd nr63 (.lit 32) nr65
def nr67:E:=.div nr64 (.lit 256)
def nr68:E:=.upd nr66 (.lit 33) nr67
def nr69:E:=.sel (.av 1) (.lit 2)
def nr70:E:=.mod nr69 (.lit 256)
def nr71:E:=.upd nr68 (.lit 34) nr70
def nr72:E:=.div nr69 (.lit 256)
def nr73:E:=.upd nr71 (.lit 35) nr72
def nr74:E:=.sel (.av 1) (.lit 3)
def nr75:E:=.mod nr74 (.lit 256)
def nr76:E:=.upd nr73 (.lit 36) nr75
def nr77:E:=.div nr74 (.lit 256)
def nr78:E:=.upd nr76 (.lit 37) nr77
def nr79:E:=.blt (.tab []) (.lit 0) (.lit 38) nr78 (.lit 0)
def nr80:E:=.upd (.tab []) (.lit 0) (.lit 0)
def nr81:E:=.upd nr80 (.lit 1) (.lit 2)
def nr82:E:=.upd nr81 (.lit 2) (.lit 0)
def nr83:E:=.upd nr82 (.lit 3) (.lit 0)
def nr84:E:=.app 50 (.cons (.av 2) .nil)
def nr85:E:=.blt nr83 (.lit 4) (.lit 512) nr84 (.lit 0)
def nr86:E:=.blt nr79 (.lit 38) (.lit 516) nr85 (.lit 0)
def nr87:E:=.upd nr86 (.lit 1) (.lit 37)
def nr88:E:=.upd nr87 (.lit 2) (.lit 2)
def nr89:E:=.upd nr88 (.lit 3) (.lit 0)
def nr90:E:=.upd nr89 (.lit 4) (.lit 0)
def rdH:Hyp:=⟨[(.v 0,(0,2047)),(.v 1,(0,65535)),(.v 2,(0,65535)),(.v 3,(0,65535)),(.v 4,(0,65535)),(.v 5,(0,255)),(.v 6,(0,1023)),(.v 7,(0,65535)),(.v 8,(0,65535)),(.v 9,(0,65535)),(.v 10,(0,65535)),(.v 11,(0,65535)),(.v 12,(0,65535)),(.v 13,(0,63)),(.v 14,(0,63)),(.v 15,(0,3))],[(0,(0,255)),(1,(0,2047)),(2,(0,65535))],[(10,(0,4294967295)),(40,(0,65535)),(41,(0,63))],[(50,(0,255))],[],[]⟩
def rdL:List SV:=[.s (.ptr 2 (.lit 0)),.s (.ptr 1 (.lit 0))]
def rdM:Mem:=[⟨5,[.run .u8 (.lit 554) nr90 0],true,some 1,false⟩,⟨98,[.one (.slc 0 (.lit 0) (.lit 554) (.op (.lit 0))),.one (.int .i64 (.lit 0)),.one (.int .i64 (.lit 554)),.run .i64 (.lit 16) (.tab []) 0,.one (.int .i64 (.lit 0))],true,none,false⟩,⟨79,[.one (.int .u16 (.lit 0)),.one (.int .u16 (.lit 0)),.one (.int .u16 (.lit 0)),.one (.int .u16 (.lit 0)),.one (.int .u16 (.lit 0)),.one (.int .u16 (.lit 0)),.one (.int .u16 (.lit 0)),.one (.int .u16 (.lit 0)),.one (.int .u16 (.lit 0)),.one (.int .u16 (.lit 0)),.one (.int .u16 (.lit 0)),.one (.int .u16 (.lit 0)),.one (.int .u16 (.lit 0)),.one (.int .u8 (.lit 0)),.one (.int .u8 (.lit 0)),.one (.int .u8 (.lit 0)),.run .u16 (.lit 4) (.tab []) 0,.run .u16 (.lit 256) (.tab []) 0],true,none,false⟩]
def rdO:Mem:=[⟨5,[.run .u8 (.lit 554) nr90 0],true,some 1,false⟩,⟨98,[.one (.slc 0 (.lit 0) (.lit 554) (.op (.lit 0))),.one (.int .i64 (.lit 554)),.one (.int .i64 (.lit 554)),.run .i64 (.lit 16) (.upd (.tab []) (.lit 0) (.lit 554)) 0,.one (.int .i64 (.lit 0))],true,none,false⟩,⟨79,[.one (.int .u16 (.v 0)),.one (.int .u16 (.v 1)),.one (.int .u16 (.v 2)),.one (.int .u16 (.v 3)),.one (.int .u16 (.v 4)),.one (.int .u16 (.v 5)),.one (.int .u16 (.v 6)),.one (.int .u16 (.v 7)),.one (.int .u16 (.v 8)),.one (.int .u16 (.lit 0)),.one (.int .u16 (.lit 0)),.one (.int .u16 (.v 11)),.one (.int .u16 (.v 12)),.one (.int .u8 (.v 13)),.one (.int .u8 (.v 14)),.one (.int .u8 (.v 15)),.run .u16 (.lit 4) (.av 1) 0,.run .u16 (.lit 256) (.av 2) 0],true,none,false⟩,⟨55,[.one (.ptr 1 (.lit 0))],true,none,false⟩,⟨33,[.one (.int .i64 (.lit 0))],true,none,false⟩,⟨5,[.run .u8 (.lit 512) (.app 50 (.cons (.av 2) .nil)) 0],true,some 1,false⟩]
def rdN:List E:=[]
def rdR:SV:=.s (.int .i64 (.lit 0))
--SKEND
def rd0:E:=.upd (.tab []) (.lit 0) (.lit 28)
def rd1:E:=.upd rd0 (.lit 1) (.lit 0)
def rd2:E:=.upd rd1 (.lit 2) (.lit 0)
def rd3:E:=.upd rd2 (.lit 3) (.lit 0)
def rd4:E:=.upd rd3 (.lit 4) (.lit 0)
def rd5:E:=.mod (.v 0) (.lit 256)
def rd6:E:=.upd rd4 (.lit 5) rd5
def rd7:E:=.div (.v 0) (.lit 256)
def rd8:E:=.upd rd6 (.lit 6) rd7
def rd9:E:=.mod (.v 1) (.lit 256)
def rd10:E:=.upd rd8 (.lit 7) rd9
def rd11:E:=.div (.v 1) (.lit 256)
def rd12:E:=.upd rd10 (.lit 8) rd11
def rd13:E:=.mod (.v 2) (.lit 256)
def rd14:E:=.upd rd12 (.lit 9) rd13
def rd15:E:=.div (.v 2) (.lit 256)
def rd16:E:=.upd rd14 (.lit 10) rd15
def rd17:E:=.mod (.v 3) (.lit 256)
def rd18:E:=.upd rd16 (.lit 11) rd17
def rd19:E:=.div (.v 3) (.lit 256)
def rd20:E:=.upd rd18 (.lit 12) rd19
def rd21:E:=.mod (.v 4) (.lit 256)
def rd22:E:=.upd rd20 (.lit 13) rd21
def rd23:E:=.div (.v 4) (.lit 256)
def rd24:E:=.upd rd22 (.lit 14) rd23
def rd25:E:=.upd rd24 (.lit 15) (.v 5)
def rd26:E:=.upd rd25 (.lit 16) (.lit 0)
def rd27:E:=.mod (.v 6) (.lit 256)
def rd28:E:=.upd rd26 (.lit 17) rd27
def rd29:E:=.div (.v 6) (.lit 256)
def rd30:E:=.upd rd28 (.lit 18) rd29
def rd31:E:=.mod (.v 7) (.lit 256)
def rd32:E:=.upd rd30 (.lit 19) rd31
def rd33:E:=.div (.v 7) (.lit 256)
def rd34:E:=.upd rd32 (.lit 20) rd33
def rd35:E:=.mod (.v 8) (.lit 256)
def rd36:E:=.upd rd34 (.lit 21) rd35
def rd37:E:=.div (.v 8) (.lit 256)
def rd38:E:=.upd rd36 (.lit 22) rd37
def rd39:E:=.mod (.v 11) (.lit 256)
def rd40:E:=.upd rd38 (.lit 23) rd39
def rd41:E:=.div (.v 11) (.lit 256)
def rd42:E:=.upd rd40 (.lit 24) rd41
def rd43:E:=.mod (.v 12) (.lit 256)
def rd44:E:=.upd rd42 (.lit 25) rd43
def rd45:E:=.div (.v 12) (.lit 256)
def rd46:E:=.upd rd44 (.lit 26) rd45
def rd47:E:=.upd rd46 (.lit 27) (.v 13)
def rd48:E:=.upd rd47 (.lit 28) (.v 14)
def rd49:E:=.upd rd48 (.lit 29) (.v 15)
def bQr:E:=.sel (.av 1) (.lit 0)
def rd51:E:=.mod bQr (.lit 256)
def rd52:E:=.upd rd49 (.lit 30) rd51
def rd53:E:=.div bQr (.lit 256)
def rd54:E:=.upd rd52 (.lit 31) rd53
def bQs:E:=.sel (.av 1) (.lit 1)
def rd56:E:=.mod bQs (.lit 256)
def rd57:E:=.upd rd54 (.lit 32) rd56
def rd58:E:=.div bQs (.lit 256)
def rd59:E:=.upd rd57 (.lit 33) rd58
def bQt:E:=.sel (.av 1) (.lit 2)
def rd61:E:=.mod bQt (.lit 256)
def rd62:E:=.upd rd59 (.lit 34) rd61
def rd63:E:=.div bQt (.lit 256)
def rd64:E:=.upd rd62 (.lit 35) rd63
def bQu:E:=.sel (.av 1) (.lit 3)
def rd66:E:=.mod bQu (.lit 256)
def rd67:E:=.upd rd64 (.lit 36) rd66
def rd68:E:=.div bQu (.lit 256)
def rd69:E:=.upd rd67 (.lit 37) rd68
def rd70:E:=.blt (.tab []) (.lit 0) (.lit 38) rd69 (.lit 0)
def rd71:E:=.upd (.tab []) (.lit 0) (.lit 0)
def rd72:E:=.upd rd71 (.lit 1) (.lit 2)
def rd73:E:=.upd rd72 (.lit 2) (.lit 0)
def rd74:E:=.upd rd73 (.lit 3) (.lit 0)
def bBS:E:=.app 50 (.cons (.av 2) .nil)
def rd76:E:=.blt rd74 (.lit 4) (.lit 512) bBS (.lit 0)
def rd77:E:=.blt rd70 (.lit 38) (.lit 516) rd76 (.lit 0)
def rd78:E:=.upd rd77 (.lit 1) (.lit 37)
def rd79:E:=.upd rd78 (.lit 2) (.lit 2)
def rd80:E:=.upd rd79 (.lit 3) (.lit 0)
def bJs:E:=.upd rd80 (.lit 4) (.lit 0)
def bJt:E:=.upd (.tab []) (.lit 0) (.lit 554)
def rd83:E:=.upd (.tab []) (.lit 0) bQr
def rd84:E:=.upd rd83 (.lit 1) bQs
def rd85:E:=.upd rd84 (.lit 2) bQt
def bJu:E:=.upd rd85 (.lit 3) bQu
def rd87:E:=.le (.v 16) (.lit 255)
def bQv:E:=.add (.v 16) (.lit 1)
def rd89:E:=.mul (.v 16) (.lit 2)
def rd90:E:=.sel bBS rd89
def rd91:E:=.add rd89 (.lit 1)
def rd92:E:=.sel bBS rd91
def rd93:E:=.mul rd92 (.lit 256)
def rd94:E:=.add rd90 rd93
def bJv:E:=.upd (.av 3) (.v 16) rd94
noncomputable def bQw:List Item:=nZ Try.prog 47 17
noncomputable def aTK:Head:=⟨17,bQw,⟨[((.v 0),(0,2047)),((.v 1),(0,65535)),((.v 2),(0,65535)),((.v 3),(0,65535)),((.v 4),(0,65535)),((.v 5),(0,255)),((.v 6),(0,1023)),((.v 7),(0,65535)),((.v 8),(0,65535)),((.v 9),(0,65535)),((.v 10),(0,65535)),((.v 11),(0,65535)),((.v 12),(0,65535)),((.v 13),(0,63)),((.v 14),(0,63)),((.v 15),(0,3)),((.v 16),(0,256))],[(0,(0,255)),(1,(0,2047)),(2,(0,65535)),(3,(0,65535))],[(10,(0,4294967295)),(40,(0,65535)),(41,(0,63))],[(50,(0,255))],[],[]⟩,[⟨60,[],.s (.int .i64 (.lit 4))⟩,⟨5,[],.s (.fn 64 [(4,(.lit 0)),(3,(.lit 0))])⟩,⟨4,[],.s (.ptr 4 (.lit 0))⟩,⟨3,[],.s (.ptr 3 (.lit 0))⟩,⟨0,[],.s (.ptr 2 (.lit 0))⟩],[⟨5,[.run .u8 (.lit 554) bJs 0],true,some 1,false⟩,⟨98,[.one (.slc 0 (.lit 0) (.lit 554) (.op (.lit 0))),.one (.int .i64 (.lit 38)),.one (.int .i64 (.lit 554)),.run .i64 (.lit 16) bJt 0,.one (.int .i64 (.lit 1))],true,none,false⟩,⟨79,[.one (.int .u16 (.v 0)),.one (.int .u16 (.v 1)),.one (.int .u16 (.v 2)),.one (.int .u16 (.v 3)),.one (.int .u16 (.v 4)),.one (.int .u16 (.v 5)),.one (.int .u16 (.v 6)),.one (.int .u16 (.v 7)),.one (.int .u16 (.v 8)),.one (.int .u16 (.lit 0)),.one (.int .u16 (.lit 0)),.one (.int .u16 (.v 11)),.one (.int .u16 (.v 12)),.one (.int .u8 (.v 13)),.one (.int .u8 (.v 14)),.one (.int .u8 (.v 15)),.run .u16 (.lit 4) bJu 0,.run .u16 (.lit 256) (.tab []) 0],true,none,false⟩,⟨55,[.one (.ptr 1 (.lit 0))],true,none,false⟩,⟨33,[.one (.int .i64 (.lit 0))],true,none,false⟩]⟩
noncomputable def bGf:List Item:=nZ Try.prog 47 29
noncomputable def aTL:Head:=⟨29,bGf,⟨[((.v 0),(0,2047)),((.v 1),(0,65535)),((.v 2),(0,65535)),((.v 3),(0,65535)),((.v 4),(0,65535)),((.v 5),(0,255)),((.v 6),(0,1023)),((.v 7),(0,65535)),((.v 8),(0,65535)),((.v 9),(0,65535)),((.v 10),(0,65535)),((.v 11),(0,65535)),((.v 12),(0,65535)),((.v 13),(0,63)),((.v 14),(0,63)),((.v 15),(0,3)),((.v 16),(0,256))],[(0,(0,255)),(1,(0,2047)),(2,(0,65535)),(3,(0,65535))],[(10,(0,4294967295)),(40,(0,65535)),(41,(0,63))],[(50,(0,255))],[],[]⟩,[⟨87,[],.s (.int .i64 (.v 16))⟩,⟨13,[],.s (.slc 5 (.lit 0) (.lit 512) (.op (.lit 0)))⟩,⟨4,[],.s (.ptr 4 (.lit 0))⟩,⟨3,[],.s (.ptr 3 (.lit 0))⟩,⟨0,[],.s (.ptr 2 (.lit 0))⟩],[⟨5,[.run .u8 (.lit 554) bJs 0],true,some 1,false⟩,⟨98,[.one (.slc 0 (.lit 0) (.lit 554) (.op (.lit 0))),.one (.int .i64 (.lit 554)),.one (.int .i64 (.lit 554)),.run .i64 (.lit 16) bJt 0,.one (.int .i64 (.lit 1))],true,none,false⟩,⟨79,[.one (.int .u16 (.v 0)),.one (.int .u16 (.v 1)),.one (.int .u16 (.v 2)),.one (.int .u16 (.v 3)),.one (.int .u16 (.v 4)),.one (.int .u16 (.v 5)),.one (.int .u16 (.v 6)),.one (.int .u16 (.v 7)),.one (.int .u16 (.v 8)),.one (.int .u16 (.lit 0)),.one (.int .u16 (.lit 0)),.one (.int .u16 (.v 11)),.one (.int .u16 (.v 12)),.one (.int .u8 (.v 13)),.one (.int .u8 (.v 14)),.one (.int .u8 (.v 15)),.run .u16 (.lit 4) bJu 0,.run .u16 (.lit 256) (.av 3) 0],true,none,false⟩,⟨55,[.one (.ptr 1 (.lit 0))],true,none,false⟩,⟨33,[.one (.int .i64 (.lit 0))],true,none,false⟩,⟨5,[.run .u8 (.lit 512) bBS 0],true,some 1,false⟩]⟩
noncomputable def aIL:List Head:=[aTK,aTL]
def rdD:Dim:=⟨17,0,4,16,0,3,3⟩
theorem rdst:fH Try.prog SRd SRdh rdD aIL [] 3000 20 47 rdH rdL rdM=some (.jump 0 bQw ⟨[],[],[]⟩):=by kernel_rfl
theorem rdsg0:lZ Try.prog SRd SRdh rdD aIL [] 3000 0 47 aTK=some (.jump 1 bGf ⟨[(16,(.lit 0))],[],[(3,(.tab []))]⟩):=by kernel_rfl
theorem rdsg1:lZ Try.prog SRd SRdh rdD aIL [] 3000 0 47 aTL=some (.ite rd87 (.jump 1 bGf ⟨[(16,bQv)],[],[(3,bJv)]⟩) (.ret (.s (.int .i64 (.lit 0))) [⟨5,[.run .u8 (.lit 554) bJs 0],true,some 1,false⟩,⟨98,[.one (.slc 0 (.lit 0) (.lit 554) (.op (.lit 0))),.one (.int .i64 (.lit 554)),.one (.int .i64 (.lit 554)),.run .i64 (.lit 16) bJt 0,.one (.int .i64 (.lit 0))],true,none,false⟩,⟨79,[.one (.int .u16 (.v 0)),.one (.int .u16 (.v 1)),.one (.int .u16 (.v 2)),.one (.int .u16 (.v 3)),.one (.int .u16 (.v 4)),.one (.int .u16 (.v 5)),.one (.int .u16 (.v 6)),.one (.int .u16 (.v 7)),.one (.int .u16 (.v 8)),.one (.int .u16 (.lit 0)),.one (.int .u16 (.lit 0)),.one (.int .u16 (.v 11)),.one (.int .u16 (.v 12)),.one (.int .u8 (.v 13)),.one (.int .u8 (.v 14)),.one (.int .u8 (.v 15)),.run .u16 (.lit 4) bJu 0,.run .u16 (.lit 256) (.av 3) 0],true,none,false⟩,⟨55,[.one (.ptr 1 (.lit 0))],true,none,false⟩,⟨33,[.one (.int .i64 (.lit 0))],true,none,false⟩,⟨5,[.run .u8 (.lit 512) bBS 0],true,some 1,false⟩])):=by kernel_rfl
def rdV (i0 i1 i2 i3 i4 i5 i6 i7 i8 i9 i10 i11 i12 i13 i14 i15 r:Int) (f g d w:Nat→Int) (vs:List Value) (J:Interp):Env:=⟨[i0,i1,i2,i3,i4,i5,i6,i7,i8,i9,i10,i11,i12,i13,i14,i15,r],[],[f,g,d,w],vs,J⟩
def rdJ (i0 i1 i2 i3 i4 i5 i6 i7 i8 i9 i10 i11 i12 i13 i14 i15 r:Int) (f g d w:Nat→Int):Nat→Prop
 | 0=>(0≤r∧r≤256)∧(∀ j,0≤w j∧w j≤65535)
 | 1=>(0≤r∧r≤256)∧(∀ j,0≤w j∧w j≤65535)∧∀ j:Nat,(j:Int)<r→w j=d j
 | _=>False
def bGg:Nat→Env→Nat
 | 0,ρ=>1000
 | 1,ρ=>(256-ρ.i.getD 16 0).toNat
 | _,_=>0
theorem rdok0 (i0 i1 i2 i3 i4 i5 i6 i7 i8 i9 i10 i11 i12 i13 i14 i15 r:Int) (f g d w:Nat→Int) (vs:List Value) (J:Interp) (r0:0≤i0∧i0≤2047) (r1:0≤i1∧i1≤65535) (r2:0≤i2∧i2≤65535) (r3:0≤i3∧i3≤65535) (r4:0≤i4∧i4≤65535) (r5:0≤i5∧i5≤255) (r6:0≤i6∧i6≤1023) (r7:0≤i7∧i7≤65535) (r8:0≤i8∧i8≤65535) (r9:0≤i9∧i9≤65535) (W:0≤i10∧i10≤65535) (X:0≤i11∧i11≤65535) (Y:0≤i12∧i12≤65535) (Z:0≤i13∧i13≤63) (a0:0≤i14∧i14≤63) (a1:0≤i15∧i15≤3) (R0:∀ j,0≤f j∧f j≤255) (R1:∀ j,0≤g j∧g j≤2047) (R2:∀ j,0≤d j∧d j≤65535) (hfi:∀ p ∈ rdH.fi,∀ is bs xs,inR p.2 (J.fi p.1 is bs xs)) (hfa:∀ p ∈ rdH.fa,∀ is bs xs j,inR p.2 (J.fa p.1 is bs xs j)) (hIi:J.fi=Ifi) (hIb:J.fb=Ifb) (hIa:J.fa=Ifa) (hJ:rdJ i0 i1 i2 i3 i4 i5 i6 i7 i8 i9 i10 i11 i12 i13 i14 i15 r f g d w 0):Hyp.ok aTK.H (rdV i0 i1 i2 i3 i4 i5 i6 i7 i8 i9 i10 i11 i12 i13 i14 i15 r f g d w vs J):=by
 simp only [rdJ] at hJ
 obtain ⟨l0,m0⟩:=hJ
 refine ⟨by simp [aTK],?_,?_,?_,?_,by simp [aTK]⟩
 ·intro p hp
  simp only [aTK,List.mem_cons,List.not_mem_nil,or_false] at hp
  rcases hp with rfl | rfl | rfl | rfl | rfl | rfl | rfl | rfl | rfl | rfl | rfl | rfl | rfl | rfl | rfl | rfl | rfl
  ·exact r0
  ·exact r1
  ·exact r2
  ·exact r3
  ·exact r4
  ·exact r5
  ·exact r6
  ·exact r7
  ·exact r8
  ·exact r9
  ·exact W
  ·exact X
  ·exact Y
  ·exact Z
  ·exact a0
  ·exact a1
  ·exact l0
 ·intro p hp
  simp only [aTK,List.mem_cons,List.not_mem_nil,or_false] at hp
  rcases hp with rfl | rfl | rfl | rfl
  ·exact R0
  ·exact R1
  ·exact R2
  ·exact m0
 ·exact hfi
 ·exact hfa
theorem rdok1 (i0 i1 i2 i3 i4 i5 i6 i7 i8 i9 i10 i11 i12 i13 i14 i15 r:Int) (f g d w:Nat→Int) (vs:List Value) (J:Interp) (r0:0≤i0∧i0≤2047) (r1:0≤i1∧i1≤65535) (r2:0≤i2∧i2≤65535) (r3:0≤i3∧i3≤65535) (r4:0≤i4∧i4≤65535) (r5:0≤i5∧i5≤255) (r6:0≤i6∧i6≤1023) (r7:0≤i7∧i7≤65535) (r8:0≤i8∧i8≤65535) (r9:0≤i9∧i9≤65535) (W:0≤i10∧i10≤65535) (X:0≤i11∧i11≤65535) (Y:0≤i12∧i12≤65535) (Z:0≤i13∧i13≤63) (a0:0≤i14∧i14≤63) (a1:0≤i15∧i15≤3) (R0:∀ j,0≤f j∧f j≤255) (R1:∀ j,0≤g j∧g j≤2047) (R2:∀ j,0≤d j∧d j≤65535) (hfi:∀ p ∈ rdH.fi,∀ is bs xs,inR p.2 (J.fi p.1 is bs xs)) (hfa:∀ p ∈ rdH.fa,∀ is bs xs j,inR p.2 (J.fa p.1 is bs xs j)) (hIi:J.fi=Ifi) (hIb:J.fb=Ifb) (hIa:J.fa=Ifa) (hJ:rdJ i0 i1 i2 i3 i4 i5 i6 i7 i8 i9 i10 i11 i12 i13 i14 i15 r f g d w 1):Hyp.ok aTL.H (rdV i0 i1 i2 i3 i4 i5 i6 i7 i8 i9 i10 i11 i12 i13 i14 i15 r f g d w vs J):=by
 simp only [rdJ] at hJ
 obtain ⟨l0,m0,hinv⟩:=hJ
 refine ⟨by simp [aTL],?_,?_,?_,?_,by simp [aTL]⟩
 ·intro p hp
  simp only [aTL,List.mem_cons,List.not_mem_nil,or_false] at hp
  rcases hp with rfl | rfl | rfl | rfl | rfl | rfl | rfl | rfl | rfl | rfl | rfl | rfl | rfl | rfl | rfl | rfl | rfl
  ·exact r0
  ·exact r1
  ·exact r2
  ·exact r3
  ·exact r4
  ·exact r5
  ·exact r6
  ·exact r7
  ·exact r8
  ·exact r9
  ·exact W
  ·exact X
  ·exact Y
  ·exact Z
  ·exact a0
  ·exact a1
  ·exact l0
 ·intro p hp
  simp only [aTL,List.mem_cons,List.not_mem_nil,or_false] at hp
  rcases hp with rfl | rfl | rfl | rfl
  ·exact R0
  ·exact R1
  ·exact R2
  ·exact m0
 ·exact hfi
 ·exact hfa
theorem rdvcS (i0 i1 i2 i3 i4 i5 i6 i7 i8 i9 i10 i11 i12 i13 i14 i15:Int) (f g d:Nat→Int) (vs:List Value) (J:Interp) (r0:0≤i0∧i0≤2047) (r1:0≤i1∧i1≤65535) (r2:0≤i2∧i2≤65535) (r3:0≤i3∧i3≤65535) (r4:0≤i4∧i4≤65535) (r5:0≤i5∧i5≤255) (r6:0≤i6∧i6≤1023) (r7:0≤i7∧i7≤65535) (r8:0≤i8∧i8≤65535) (r9:0≤i9∧i9≤65535) (W:0≤i10∧i10≤65535) (X:0≤i11∧i11≤65535) (Y:0≤i12∧i12≤65535) (Z:0≤i13∧i13≤63) (a0:0≤i14∧i14≤63) (a1:0≤i15∧i15≤3) (R0:∀ j,0≤f j∧f j≤255) (R1:∀ j,0≤g j∧g j≤2047) (R2:∀ j,0≤d j∧d j≤65535) (hfi:∀ p ∈ rdH.fi,∀ is bs xs,inR p.2 (J.fi p.1 is bs xs)) (hfa:∀ p ∈ rdH.fa,∀ is bs xs j,inR p.2 (J.fa p.1 is bs xs j)) (hIi:J.fi=Ifi) (hIb:J.fb=Ifb) (hIa:J.fa=Ifa) :
 LT.holds (rdV i0 i1 i2 i3 i4 i5 i6 i7 i8 i9 i10 i11 i12 i13 i14 i15 0 f g d (fun _=>0) vs J) (fun v' m'=>wK (rdV i0 i1 i2 i3 i4 i5 i6 i7 i8 i9 i10 i11 i12 i13 i14 i15 0 f g d (fun _=>0) vs J) (⟨[i0,i1,i2,i3,i4,i5,i6,i7,i8,i9,i10,i11,i12,i13,i14,i15],[],[f,g,d],vs,J⟩:Env) rdR rdO v' m') (fun j todo ρ'=>(aIL[j]?.map (·.todo))=some todo∧(fun j ρ'=>∃ (r:Int) (w:Nat→Int),ρ'=(rdV i0 i1 i2 i3 i4 i5 i6 i7 i8 i9 i10 i11 i12 i13 i14 i15 r f g d w vs J)∧rdJ i0 i1 i2 i3 i4 i5 i6 i7 i8 i9 i10 i11 i12 i13 i14 i15 r f g d w j) j ρ') (.jump 0 bQw ⟨[],[],[]⟩):=by
 simp only [LT.holds]
 refine ⟨rfl,0,(fun _=>0),rfl,?_⟩
 ·simp only [rdJ]
  exact ⟨⟨Int.le_refl _,(show (0:Int)≤256 by decide)⟩,fun j=>⟨Int.le_refl _,(show (0:Int)≤65535 by decide)⟩⟩
theorem rdvc0 (i0 i1 i2 i3 i4 i5 i6 i7 i8 i9 i10 i11 i12 i13 i14 i15 r:Int) (f g d w:Nat→Int) (vs:List Value) (J:Interp) (r0:0≤i0∧i0≤2047) (r1:0≤i1∧i1≤65535) (r2:0≤i2∧i2≤65535) (r3:0≤i3∧i3≤65535) (r4:0≤i4∧i4≤65535) (r5:0≤i5∧i5≤255) (r6:0≤i6∧i6≤1023) (r7:0≤i7∧i7≤65535) (r8:0≤i8∧i8≤65535) (r9:0≤i9∧i9≤65535) (W:0≤i10∧i10≤65535) (X:0≤i11∧i11≤65535) (Y:0≤i12∧i12≤65535) (Z:0≤i13∧i13≤63) (a0:0≤i14∧i14≤63) (a1:0≤i15∧i15≤3) (R0:∀ j,0≤f j∧f j≤255) (R1:∀ j,0≤g j∧g j≤2047) (R2:∀ j,0≤d j∧d j≤65535) (hfi:∀ p ∈ rdH.fi,∀ is bs xs,inR p.2 (J.fi p.1 is bs xs)) (hfa:∀ p ∈ rdH.fa,∀ is bs xs j,inR p.2 (J.fa p.1 is bs xs j)) (hIi:J.fi=Ifi) (hIb:J.fb=Ifb) (hIa:J.fa=Ifa) (hJ:rdJ i0 i1 i2 i3 i4 i5 i6 i7 i8 i9 i10 i11 i12 i13 i14 i15 r f g d w 0) :
 LT.holds (rdV i0 i1 i2 i3 i4 i5 i6 i7 i8 i9 i10 i11 i12 i13 i14 i15 r f g d w vs J) (fun v' m'=>wK (rdV i0 i1 i2 i3 i4 i5 i6 i7 i8 i9 i10 i11 i12 i13 i14 i15 r f g d w vs J) (⟨[i0,i1,i2,i3,i4,i5,i6,i7,i8,i9,i10,i11,i12,i13,i14,i15],[],[f,g,d],vs,J⟩:Env) rdR rdO v' m') (fun j' todo ρ'=>(aIL[j']?.map (·.todo))=some todo∧(fun j ρ'=>∃ (r:Int) (w:Nat→Int),ρ'=(rdV i0 i1 i2 i3 i4 i5 i6 i7 i8 i9 i10 i11 i12 i13 i14 i15 r f g d w vs J)∧rdJ i0 i1 i2 i3 i4 i5 i6 i7 i8 i9 i10 i11 i12 i13 i14 i15 r f g d w j) j' ρ'∧bGg j' ρ'<bGg 0 (rdV i0 i1 i2 i3 i4 i5 i6 i7 i8 i9 i10 i11 i12 i13 i14 i15 r f g d w vs J)) (.jump 1 bGf ⟨[(16,(.lit 0))],[],[(3,(.tab []))]⟩):=by
 simp only [LT.holds]
 simp only [rdJ] at hJ
 obtain ⟨l0,m0⟩:=hJ
 refine ⟨rfl,⟨(E.i (rdV i0 i1 i2 i3 i4 i5 i6 i7 i8 i9 i10 i11 i12 i13 i14 i15 r f g d w vs J) ((.lit 0))),(E.a (rdV i0 i1 i2 i3 i4 i5 i6 i7 i8 i9 i10 i11 i12 i13 i14 i15 r f g d w vs J) ((.tab []))),rfl,?_⟩,?_⟩
 ·simp only [rdJ]
  refine ⟨⟨Int.le_refl _,(show (0:Int)≤256 by decide)⟩,fun j=>⟨Int.le_refl _,(show (0:Int)≤65535 by decide)⟩,fun j h=>?_⟩
  exact absurd h (show ¬ ((j:Int)<0) by omega)
 ·exact (by decide:256<1000)
theorem rdvc1 (i0 i1 i2 i3 i4 i5 i6 i7 i8 i9 i10 i11 i12 i13 i14 i15 r:Int) (f g d w:Nat→Int) (vs:List Value) (J:Interp) (r0:0≤i0∧i0≤2047) (r1:0≤i1∧i1≤65535) (r2:0≤i2∧i2≤65535) (r3:0≤i3∧i3≤65535) (r4:0≤i4∧i4≤65535) (r5:0≤i5∧i5≤255) (r6:0≤i6∧i6≤1023) (r7:0≤i7∧i7≤65535) (r8:0≤i8∧i8≤65535) (r9:0≤i9∧i9≤65535) (W:0≤i10∧i10≤65535) (X:0≤i11∧i11≤65535) (Y:0≤i12∧i12≤65535) (Z:0≤i13∧i13≤63) (a0:0≤i14∧i14≤63) (a1:0≤i15∧i15≤3) (R0:∀ j,0≤f j∧f j≤255) (R1:∀ j,0≤g j∧g j≤2047) (R2:∀ j,0≤d j∧d j≤65535) (hfi:∀ p ∈ rdH.fi,∀ is bs xs,inR p.2 (J.fi p.1 is bs xs)) (hfa:∀ p ∈ rdH.fa,∀ is bs xs j,inR p.2 (J.fa p.1 is bs xs j)) (hIi:J.fi=Ifi) (hIb:J.fb=Ifb) (hIa:J.fa=Ifa) (hJ:rdJ i0 i1 i2 i3 i4 i5 i6 i7 i8 i9 i10 i11 i12 i13 i14 i15 r f g d w 1) :
 LT.holds (rdV i0 i1 i2 i3 i4 i5 i6 i7 i8 i9 i10 i11 i12 i13 i14 i15 r f g d w vs J) (fun v' m'=>wK (rdV i0 i1 i2 i3 i4 i5 i6 i7 i8 i9 i10 i11 i12 i13 i14 i15 r f g d w vs J) (⟨[i0,i1,i2,i3,i4,i5,i6,i7,i8,i9,i10,i11,i12,i13,i14,i15],[],[f,g,d],vs,J⟩:Env) rdR rdO v' m') (fun j' todo ρ'=>(aIL[j']?.map (·.todo))=some todo∧(fun j ρ'=>∃ (r:Int) (w:Nat→Int),ρ'=(rdV i0 i1 i2 i3 i4 i5 i6 i7 i8 i9 i10 i11 i12 i13 i14 i15 r f g d w vs J)∧rdJ i0 i1 i2 i3 i4 i5 i6 i7 i8 i9 i10 i11 i12 i13 i14 i15 r f g d w j) j' ρ'∧bGg j' ρ'<bGg 1 (rdV i0 i1 i2 i3 i4 i5 i6 i7 i8 i9 i10 i11 i12 i13 i14 i15 r f g d w vs J)) (.ite rd87 (.jump 1 bGf ⟨[(16,bQv)],[],[(3,bJv)]⟩) (.ret (.s (.int .i64 (.lit 0))) [⟨5,[.run .u8 (.lit 554) bJs 0],true,some 1,false⟩,⟨98,[.one (.slc 0 (.lit 0) (.lit 554) (.op (.lit 0))),.one (.int .i64 (.lit 554)),.one (.int .i64 (.lit 554)),.run .i64 (.lit 16) bJt 0,.one (.int .i64 (.lit 0))],true,none,false⟩,⟨79,[.one (.int .u16 (.v 0)),.one (.int .u16 (.v 1)),.one (.int .u16 (.v 2)),.one (.int .u16 (.v 3)),.one (.int .u16 (.v 4)),.one (.int .u16 (.v 5)),.one (.int .u16 (.v 6)),.one (.int .u16 (.v 7)),.one (.int .u16 (.v 8)),.one (.int .u16 (.lit 0)),.one (.int .u16 (.lit 0)),.one (.int .u16 (.v 11)),.one (.int .u16 (.v 12)),.one (.int .u8 (.v 13)),.one (.int .u8 (.v 14)),.one (.int .u8 (.v 15)),.run .u16 (.lit 4) bJu 0,.run .u16 (.lit 256) (.av 3) 0],true,none,false⟩,⟨55,[.one (.ptr 1 (.lit 0))],true,none,false⟩,⟨33,[.one (.int .i64 (.lit 0))],true,none,false⟩,⟨5,[.run .u8 (.lit 512) bBS 0],true,some 1,false⟩])):=by
 simp only [LT.holds]
 simp only [rdJ] at hJ
 obtain ⟨l0,m0,hinv⟩:=hJ
 refine ⟨fun b5=>?_,fun b5=>?_⟩
 ·
   refine ⟨rfl,⟨(E.i (rdV i0 i1 i2 i3 i4 i5 i6 i7 i8 i9 i10 i11 i12 i13 i14 i15 r f g d w vs J) bQv),(E.a (rdV i0 i1 i2 i3 i4 i5 i6 i7 i8 i9 i10 i11 i12 i13 i14 i15 r f g d w vs J) bJv),rfl,?_⟩,?_⟩
   ·simp only [rdJ]
    have hc:r≤255:=of_decide_eq_true b5
    have q:=R2 r.toNat
    have hb:∀ e,E.i (rdV i0 i1 i2 i3 i4 i5 i6 i7 i8 i9 i10 i11 i12 i13 i14 i15 r f g d w vs J) (.sel (.app 50 (.cons (.av 2) .nil)) e)=nL d (E.i (rdV i0 i1 i2 i3 i4 i5 i6 i7 i8 i9 i10 i11 i12 i13 i14 i15 r f g d w vs J) e).toNat:=fun e=>by
     rw [dE,bDh hIa]
     rfl
    have hw:E.i (rdV i0 i1 i2 i3 i4 i5 i6 i7 i8 i9 i10 i11 i12 i13 i14 i15 r f g d w vs J) rd94=d r.toNat:=by
     have h:=bBY (A:=d) (k:=r.toNat) q
     have e0:(r*2).toNat=2*r.toNat:=by omega
     have e1:(r*2+1).toNat=2*r.toNat+1:=by omega
     have hb0:=hb (.mul (.v 16) (.lit 2))
     have hb1:=hb (.add (.mul (.v 16) (.lit 2)) (.lit 1))
     rw [show E.i (rdV i0 i1 i2 i3 i4 i5 i6 i7 i8 i9 i10 i11 i12 i13 i14 i15 r f g d w vs J) (.mul (.v 16) (.lit 2))=r*2 from rfl,e0] at hb0
     rw [show E.i (rdV i0 i1 i2 i3 i4 i5 i6 i7 i8 i9 i10 i11 i12 i13 i14 i15 r f g d w vs J) (.add (.mul (.v 16) (.lit 2)) (.lit 1))=r*2+1 from rfl,e1] at hb1
     show E.i (rdV i0 i1 i2 i3 i4 i5 i6 i7 i8 i9 i10 i11 i12 i13 i14 i15 r f g d w vs J) (.sel (.app 50 (.cons (.av 2) .nil)) (.mul (.v 16) (.lit 2)))+E.i (rdV i0 i1 i2 i3 i4 i5 i6 i7 i8 i9 i10 i11 i12 i13 i14 i15 r f g d w vs J) (.sel (.app 50 (.cons (.av 2) .nil)) (.add (.mul (.v 16) (.lit 2)) (.lit 1)))*256=d r.toNat
     rw [hb0,hb1]
     exact h
    have hu:∀ j,E.a (rdV i0 i1 i2 i3 i4 i5 i6 i7 i8 i9 i10 i11 i12 i13 i14 i15 r f g d w vs J) bJv j=if j=r.toNat then d r.toNat else w j:=fun j=>by
     rw [← hw]
     rfl
    refine ⟨(show 0≤r+1∧r+1≤256 by omega),fun j=>?_,fun j h=>?_⟩
    ·rw [hu j]
     have:=m0 j;split <;> omega
    ·have h:(j:Int)<r+1:=h
     rw [hu j]
     by_cases e:j=r.toNat
     ·rw [if_pos e,e]
     ·rw [if_neg e];exact hinv j (by omega)
   ·have hc:r≤255:=of_decide_eq_true b5
    exact Nat.lt_of_le_of_lt (Nat.le_of_eq (m:=(256-(r+1)).toNat) (by kernel_rfl)) (Nat.lt_of_lt_of_eq (show (256-(r+1)).toNat<(256-r).toNat by omega) (by kernel_rfl))
 ·
   refine ⟨rfl,?_,?_⟩
   all_goals
    repeat' (first | exact rfl | exact trivial | exact fun _ _=>rfl | refine And.intro ?_ ?_ | refine Or.inr ?_)
   all_goals have hc:¬ (r≤255):=of_decide_eq_false (show decide (r≤255)=false from b5)
   all_goals first
    | exact fun j hj=>(show w (0+j)=d (0+j) from hinv (0+j) (by have hj:j<256:=hj;omega))
    | exact fun j hj=>(by
       have hj:j<4:=hj
       rcases (show j=0∨j=1∨j=2∨j=3 by omega) with rfl | rfl | rfl | rfl <;> rfl)
theorem rdat (xs:Nat→Nat→Ext):fB Try.prog (Iv xs) 47 16 0 3 (kN rdH rdL rdM rdN rdR (some rdO)):=by
 refine aDu (u:=0) (bMU xs) (by kernel_rfl) rdst (by decide) rfl (fun ρ j ρ'=>∃(i0 i1 i2 i3 i4 i5 i6 i7 i8 i9 i10 i11 i12 i13 i14 i15:Int) (f g d:Nat→Int),∃ vs J,ρ=(⟨[i0,i1,i2,i3,i4,i5,i6,i7,i8,i9,i10,i11,i12,i13,i14,i15],[],[f,g,d],vs,J⟩:Env)∧(fun j ρ'=>∃ (r:Int) (w:Nat→Int),ρ'=(rdV i0 i1 i2 i3 i4 i5 i6 i7 i8 i9 i10 i11 i12 i13 i14 i15 r f g d w vs J)∧rdJ i0 i1 i2 i3 i4 i5 i6 i7 i8 i9 i10 i11 i12 i13 i14 i15 r f g d w j) j ρ') bGg ?_
 intro ρ hI hz hH hn
 obtain ⟨ys,zs,Ys,vs,J⟩:=ρ
 obtain ⟨z1,z2,z3⟩:=hz
 simp only at z1 z2 z3 hI
 obtain ⟨i0,ys0,rfl,c5⟩:=aJ z1
 obtain ⟨i1,ys1,rfl,c6⟩:=aJ c5
 obtain ⟨i2,ys2,rfl,c7⟩:=aJ c6
 obtain ⟨i3,ys3,rfl,c8⟩:=aJ c7
 obtain ⟨i4,ys4,rfl,c9⟩:=aJ c8
 obtain ⟨i5,ys5,rfl,d0⟩:=aJ c9
 obtain ⟨i6,ys6,rfl,d1⟩:=aJ d0
 obtain ⟨i7,ys7,rfl,d2⟩:=aJ d1
 obtain ⟨i8,ys8,rfl,d3⟩:=aJ d2
 obtain ⟨i9,ys9,rfl,d4⟩:=aJ d3
 obtain ⟨i10,ys10,rfl,b7⟩:=aJ d4
 obtain ⟨i11,ys11,rfl,b8⟩:=aJ b7
 obtain ⟨i12,ys12,rfl,b9⟩:=aJ b8
 obtain ⟨i13,ys13,rfl,c0⟩:=aJ b9
 obtain ⟨i14,ys14,rfl,c1⟩:=aJ c0
 obtain ⟨i15,ys15,rfl,c2⟩:=aJ c1
 obtain rfl:=List.eq_nil_of_length_eq_zero c2
 obtain rfl:=List.eq_nil_of_length_eq_zero z2
 obtain ⟨f,Ys0,rfl,d5⟩:=aJ z3
 obtain ⟨g,Ys1,rfl,d6⟩:=aJ d5
 obtain ⟨d,Ys2,rfl,d7⟩:=aJ d6
 obtain rfl:=List.eq_nil_of_length_eq_zero d7
 have r0:0≤i0∧i0≤2047:=hH.e (.v 0,(0,2047)) (by simp [rdH])
 have r1:0≤i1∧i1≤65535:=hH.e (.v 1,(0,65535)) (by simp [rdH])
 have r2:0≤i2∧i2≤65535:=hH.e (.v 2,(0,65535)) (by simp [rdH])
 have r3:0≤i3∧i3≤65535:=hH.e (.v 3,(0,65535)) (by simp [rdH])
 have r4:0≤i4∧i4≤65535:=hH.e (.v 4,(0,65535)) (by simp [rdH])
 have r5:0≤i5∧i5≤255:=hH.e (.v 5,(0,255)) (by simp [rdH])
 have r6:0≤i6∧i6≤1023:=hH.e (.v 6,(0,1023)) (by simp [rdH])
 have r7:0≤i7∧i7≤65535:=hH.e (.v 7,(0,65535)) (by simp [rdH])
 have r8:0≤i8∧i8≤65535:=hH.e (.v 8,(0,65535)) (by simp [rdH])
 have r9:0≤i9∧i9≤65535:=hH.e (.v 9,(0,65535)) (by simp [rdH])
 have W:0≤i10∧i10≤65535:=hH.e (.v 10,(0,65535)) (by simp [rdH])
 have X:0≤i11∧i11≤65535:=hH.e (.v 11,(0,65535)) (by simp [rdH])
 have Y:0≤i12∧i12≤65535:=hH.e (.v 12,(0,65535)) (by simp [rdH])
 have Z:0≤i13∧i13≤63:=hH.e (.v 13,(0,63)) (by simp [rdH])
 have a0:0≤i14∧i14≤63:=hH.e (.v 14,(0,63)) (by simp [rdH])
 have a1:0≤i15∧i15≤3:=hH.e (.v 15,(0,3)) (by simp [rdH])
 have R0:∀ j,0≤f j∧f j≤255:=fun j=>hH.a (0,(0,255)) (by simp [rdH]) j
 have R1:∀ j,0≤g j∧g j≤2047:=fun j=>hH.a (1,(0,2047)) (by simp [rdH]) j
 have R2:∀ j,0≤d j∧d j≤65535:=fun j=>hH.a (2,(0,65535)) (by simp [rdH]) j
 have hfi:∀ p ∈ rdH.fi,∀ is bs xs,inR p.2 (J.fi p.1 is bs xs):=hH.fi
 have hfa:∀ p ∈ rdH.fa,∀ is bs xs j,inR p.2 (J.fa p.1 is bs xs j):=hH.fa
 have hIi:J.fi=Ifi:=by rw [hI];rfl
 have hIb:J.fb=Ifb:=by rw [hI];rfl
 have hIa:J.fa=Ifa:=by rw [hI];rfl
 refine ⟨(rdV i0 i1 i2 i3 i4 i5 i6 i7 i8 i9 i10 i11 i12 i13 i14 i15 0 f g d (fun _=>0) vs J),rfl,⟨rfl,rfl,rfl⟩,?_,fun ι=>rfl,?_,?_,?_⟩
 ·
   refine ⟨by simp [rdH],?_,?_,?_,?_,by simp [rdH]⟩
   ·intro p hp
    simp only [rdH,List.mem_cons,List.not_mem_nil,or_false] at hp
    rcases hp with rfl | rfl | rfl | rfl | rfl | rfl | rfl | rfl | rfl | rfl | rfl | rfl | rfl | rfl | rfl | rfl
    ·exact r0
    ·exact r1
    ·exact r2
    ·exact r3
    ·exact r4
    ·exact r5
    ·exact r6
    ·exact r7
    ·exact r8
    ·exact r9
    ·exact W
    ·exact X
    ·exact Y
    ·exact Z
    ·exact a0
    ·exact a1
   ·intro p hp
    simp only [rdH,List.mem_cons,List.not_mem_nil,or_false] at hp
    rcases hp with rfl | rfl | rfl
    ·exact R0
    ·exact R1
    ·exact R2
   ·exact hfi
   ·exact hfa
 ·repeat' (first | exact rfl | exact trivial | exact fun _ _=>rfl | refine And.intro ?_ ?_ | refine Or.inr ?_)
 ·refine LT.dM (fun v' m' h=>h) (fun j todo ρ' h=>⟨h.1,i0,i1,i2,i3,i4,i5,i6,i7,i8,i9,i10,i11,i12,i13,i14,i15,f,g,d,vs,J,rfl,h.2⟩) (rdvcS i0 i1 i2 i3 i4 i5 i6 i7 i8 i9 i10 i11 i12 i13 i14 i15 f g d vs J r0 r1 r2 r3 r4 r5 r6 r7 r8 r9 W X Y Z a0 a1 R0 R1 R2 hfi hfa hIi hIb hIa)
 ·intro j h ρ' hj hI' hz' hInv
  obtain ⟨i0',i1',i2',i3',i4',i5',i6',i7',i8',i9',i10',i11',i12',i13',i14',i15',A0',A1',A2',vs',J',he,r,w,hρ,hJ⟩:=hInv
  cases he
  subst hρ
  rcases j with _ | _ | j
  ·simp only [aIL,List.getElem?_cons_zero,List.getElem?_cons_succ,Option.some.injEq] at hj;subst hj
   refine ⟨aTK.H,rdok0 i0 i1 i2 i3 i4 i5 i6 i7 i8 i9 i10 i11 i12 i13 i14 i15 r f g d w vs J r0 r1 r2 r3 r4 r5 r6 r7 r8 r9 W X Y Z a0 a1 R0 R1 R2 hfi hfa hIi hIb hIa hJ,_,rdsg0,?_⟩
   exact LT.dM (fun v' m' h=>h) (fun j todo ρ' h=>⟨h.1,⟨i0,i1,i2,i3,i4,i5,i6,i7,i8,i9,i10,i11,i12,i13,i14,i15,f,g,d,vs,J,rfl,h.2.1⟩,h.2.2⟩) (rdvc0 i0 i1 i2 i3 i4 i5 i6 i7 i8 i9 i10 i11 i12 i13 i14 i15 r f g d w vs J r0 r1 r2 r3 r4 r5 r6 r7 r8 r9 W X Y Z a0 a1 R0 R1 R2 hfi hfa hIi hIb hIa hJ)
  ·simp only [aIL,List.getElem?_cons_zero,List.getElem?_cons_succ,Option.some.injEq] at hj;subst hj
   refine ⟨aTL.H,rdok1 i0 i1 i2 i3 i4 i5 i6 i7 i8 i9 i10 i11 i12 i13 i14 i15 r f g d w vs J r0 r1 r2 r3 r4 r5 r6 r7 r8 r9 W X Y Z a0 a1 R0 R1 R2 hfi hfa hIi hIb hIa hJ,_,rdsg1,?_⟩
   exact LT.dM (fun v' m' h=>h) (fun j todo ρ' h=>⟨h.1,⟨i0,i1,i2,i3,i4,i5,i6,i7,i8,i9,i10,i11,i12,i13,i14,i15,f,g,d,vs,J,rfl,h.2.1⟩,h.2.2⟩) (rdvc1 i0 i1 i2 i3 i4 i5 i6 i7 i8 i9 i10 i11 i12 i13 i14 i15 r f g d w vs J r0 r1 r2 r3 r4 r5 r6 r7 r8 r9 W X Y Z a0 a1 R0 R1 R2 hfi hfa hIi hIb hIa hJ)
  ·simp [aIL] at hj
def rdS:Go.Sx.Spec:=fG (fC 16 0 3 rdL rdM) rdH rdL rdM rdN (rdR) (some rdO)
theorem rdok (xs:Nat→Nat→Ext):aW Try.prog (Iv xs) 47 rdS:=fF (rdat xs) (dY _ _ _ _ _ _)
theorem uK (is:List Int) (bs:List Bool) (ys:List (Nat→Int)):∀ k,k<16→Ifi (70+k) is bs ys=(bHm is ys).l.getD k 0%stM.getD k 1:=yM ⟨rfl,rfl,rfl,rfl,rfl,rfl,rfl,rfl,rfl,rfl,rfl,rfl,rfl,rfl,rfl,rfl⟩
theorem aIm (xs:Nat→Nat→Ext):∀ p ∈ [((10:Nat),((0:Int),(4294967295:Int))),(40,(0,65535)),(41,(0,63)),(70,(0,2047)),(71,(0,65535)),(72,(0,65535)),(73,(0,65535)),(74,(0,65535)),(75,(0,255)),(76,(0,1023)),(77,(0,65535)),(78,(0,65535)),(79,(0,65535)),(80,(0,65535)),(81,(0,65535)),(82,(0,65535)),(83,(0,63)),(84,(0,63)),(85,(0,3))],∀ is bs ys,inR p.2 ((Iv xs).fi p.1 is bs ys):=by
 intro p hp is bs ys
 simp only [List.mem_cons,List.not_mem_nil,or_false] at hp
 rcases hp with rfl | rfl | rfl | rfl | rfl | rfl | rfl | rfl | rfl | rfl | rfl | rfl | rfl | rfl | rfl | rfl | rfl | rfl | rfl
 ·exact yA _ _
 ·exact dR (m:=65536) (by decide) (by decide) _
 ·exact dR (m:=64) (by decide) (by decide) _
 ·show inR _ (Ifi (70+0) is bs ys)
  rw [uK is bs ys 0 (by decide)]
  exact dR (m:=2048) (by decide) (by decide) _
 ·show inR _ (Ifi (70+1) is bs ys)
  rw [uK is bs ys 1 (by decide)]
  exact dR (m:=65536) (by decide) (by decide) _
 ·show inR _ (Ifi (70+2) is bs ys)
  rw [uK is bs ys 2 (by decide)]
  exact dR (m:=65536) (by decide) (by decide) _
 ·show inR _ (Ifi (70+3) is bs ys)
  rw [uK is bs ys 3 (by decide)]
  exact dR (m:=65536) (by decide) (by decide) _
 ·show inR _ (Ifi (70+4) is bs ys)
  rw [uK is bs ys 4 (by decide)]
  exact dR (m:=65536) (by decide) (by decide) _
 ·show inR _ (Ifi (70+5) is bs ys)
  rw [uK is bs ys 5 (by decide)]
  exact dR (m:=256) (by decide) (by decide) _
 ·show inR _ (Ifi (70+6) is bs ys)
  rw [uK is bs ys 6 (by decide)]
  exact dR (m:=1024) (by decide) (by decide) _
 ·show inR _ (Ifi (70+7) is bs ys)
  rw [uK is bs ys 7 (by decide)]
  exact dR (m:=65536) (by decide) (by decide) _
 ·show inR _ (Ifi (70+8) is bs ys)
  rw [uK is bs ys 8 (by decide)]
  exact dR (m:=65536) (by decide) (by decide) _
 ·show inR _ (Ifi (70+9) is bs ys)
  rw [uK is bs ys 9 (by decide)]
  exact dR (m:=65536) (by decide) (by decide) _
 ·show inR _ (Ifi (70+10) is bs ys)
  rw [uK is bs ys 10 (by decide)]
  exact dR (m:=65536) (by decide) (by decide) _
 ·show inR _ (Ifi (70+11) is bs ys)
  rw [uK is bs ys 11 (by decide)]
  exact dR (m:=65536) (by decide) (by decide) _
 ·show inR _ (Ifi (70+12) is bs ys)
  rw [uK is bs ys 12 (by decide)]
  exact dR (m:=65536) (by decide) (by decide) _
 ·show inR _ (Ifi (70+13) is bs ys)
  rw [uK is bs ys 13 (by decide)]
  exact dR (m:=64) (by decide) (by decide) _
 ·show inR _ (Ifi (70+14) is bs ys)
  rw [uK is bs ys 14 (by decide)]
  exact dR (m:=64) (by decide) (by decide) _
 ·show inR _ (Ifi (70+15) is bs ys)
  rw [uK is bs ys 15 (by decide)]
  exact dR (m:=4) (by decide) (by decide) _
theorem aIl (xs:Nat→Nat→Ext):∀ p ∈ [((20:Nat),((0:Int),(255:Int))),(50,(0,255)),(90,(0,2047)),(91,(0,65535))],∀ is bs ys j,inR p.2 ((Iv xs).fa p.1 is bs ys j):=by
 intro p hp is bs ys j
 simp only [List.mem_cons,List.not_mem_nil,or_false] at hp
 rcases hp with rfl | rfl | rfl | rfl
 ·exact dR (m:=256) (by decide) (by decide) _
 ·exact aTQ _ j
 ·exact dR (m:=2048) (by decide) (by decide) _
 ·exact dR (m:=65536) (by decide) (by decide) _
end Go.Proofs.Ytcckecfjjccffaa
