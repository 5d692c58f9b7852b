/- A contract of the signal chip: what is made of an accumulator, case by case. No condition. -/
import Derived.Test.YtcckecfjjccffaaSga
namespace Go.Proofs.Ytcckecfjjccffaa
open Go.Sx Go.ChangeShapes Go.WideShapes Go.ChangeAt Go.RowKit
set_option linter.unusedVariables false
set_option linter.unusedSimpArgs false
set_option maxRecDepth 100000
noncomputable def SH:Ctx:=aHE Try.prog [] (ctx [(74,orS gaS (orS gbS (gcS))),(103,saS),(101,laS)]) 3000 40 12
noncomputable def SHh:aV:=aCv Try.prog [] (ctx [(74,orS gaS (orS gbS (gcS))),(103,saS),(101,laS)]) 3000 40 12
theorem SH_ok (xs:Nat→Nat→Ext):cA Try.prog (Iv xs) SH:=nC (kP (fun p hp=>by
 simp only [List.mem_cons,List.not_mem_nil,or_false] at hp
 rcases hp with rfl | rfl | rfl
 ·exact jE (gaok xs) (jE (gbok xs) (gcok xs))
 ·exact saok xs
 ·exact laok xs
 )) (by kernel_rfl) 3000 40 12
def cP:E:=.ite (.eq (.v 18) (.lit 0)) (.sel (.av 2) (.v 5)) (.ite (.eq (.v 18) (.lit 1)) (.v 16) (.ite (.eq (.v 18) (.lit 2)) (.v 9) (.v 10)))
def ctA:E:=.ite (.eq (.v 20) (.lit 0)) (.app 40 (.cons (.v 19) (.cons (.v 1) (.cons cP (.cons (.mod (.div (.v 14) (.lit 4)) (.lit 2)) .nil))))) (.v 1)
def ctB:E:=.ite (.eq (.v 20) (.lit 0)) (.v 2) (.app 40 (.cons (.v 19) (.cons (.v 2) (.cons cP (.cons (.mod (.div (.v 13) (.lit 4)) (.lit 2)) .nil)))))
def bAd:E:=.ite (.eq (.v 20) (.lit 0)) (.app 41 (.cons (.v 13) (.cons (.v 19) (.cons (.v 1) (.cons cP (.cons (.mod (.div (.v 14) (.lit 4)) (.lit 2)) .nil)))))) (.v 13)
def bAe:E:=.ite (.eq (.v 20) (.lit 0)) (.v 14) (.app 41 (.cons (.v 14) (.cons (.v 19) (.cons (.v 2) (.cons cP (.cons (.mod (.div (.v 13) (.lit 4)) (.lit 2)) .nil))))))
def ctH:Hyp:=⟨[(.v 0,(0,2047)),(.v 1,(0,65535)),(.v 2,(0,65535)),(.v 3,(0,65535)),(.v 4,(0,65535)),(.v 5,(0,255)),(.v 6,(0,1023)),(.v 7,(0,65535)),(.v 8,(0,65535)),(.v 9,(0,65535)),(.v 10,(0,65535)),(.v 11,(0,65535)),(.v 12,(0,65535)),(.v 13,(0,63)),(.v 14,(0,63)),(.v 15,(0,3)),(.v 16,(0,65535)),(.v 17,(0,3)),(.v 18,(0,3)),(.v 19,(0,15)),(.v 20,(0,1)),(.v 21,(0,3)),(.v 22,(0,15)),(.v 23,(0,1)),(.v 24,(0,15)),(.v 25,(0,15)),(.v 26,(0,511)),(.v 27,(0,2047)),(.v 28,(0,65535))],[(0,(0,255)),(1,(0,2047)),(2,(0,65535))],[(40,(0,65535)),(41,(0,63))],[],[],[]⟩
def ctL:List SV:=[.s (.ptr 1 (.lit 0)),.agg [.one (.int .u8 (.v 17)),.one (.int .u8 (.v 18)),.one (.int .u8 (.v 19)),.one (.int .u8 (.v 20)),.one (.int .u8 (.v 21)),.one (.int .u8 (.v 22)),.one (.int .u8 (.v 23)),.one (.int .u8 (.v 24)),.one (.int .u8 (.v 25)),.one (.int .u16 (.v 26)),.one (.int .u16 (.v 27)),.one (.int .u16 (.v 28))],.s (.int .u16 (.v 16))]
def ctM:Mem:=[⟨5,[.run .u8 (.lit 8192) (.av 0) 0],true,some 1,false⟩,⟨81,[.one (.int .u16 (.v 0)),.one (.int .u16 (.v 1)),.one (.int .u16 (.v 2)),.one (.int .u16 (.v 3)),.one (.int .u16 (.v 4)),.one (.int .u16 (.v 5)),.one (.int .u16 (.v 6)),.one (.int .u16 (.v 7)),.one (.int .u16 (.v 8)),.one (.int .u16 (.v 9)),.one (.int .u16 (.v 10)),.one (.int .u16 (.v 11)),.one (.int .u16 (.v 12)),.one (.int .u8 (.v 13)),.one (.int .u8 (.v 14)),.one (.int .u8 (.v 15)),.run .u16 (.lit 4) (.av 1) 0,.run .u16 (.lit 256) (.av 2) 0,.one (.slc 0 (.lit 0) (.lit 8192) (.op (.lit 0)))],true,none,false⟩]
def ctO:Mem:=[⟨5,[.run .u8 (.lit 8192) (.av 0) 0],true,some 1,false⟩,⟨81,[.one (.int .u16 (.v 0)),.one (.int .u16 (ctA)),.one (.int .u16 (ctB)),.one (.int .u16 (.v 3)),.one (.int .u16 (.v 4)),.one (.int .u16 (.v 5)),.one (.int .u16 (.v 6)),.one (.int .u16 (.v 7)),.one (.int .u16 (.v 8)),.one (.int .u16 (.v 9)),.one (.int .u16 (.v 10)),.one (.int .u16 (.v 11)),.one (.int .u16 (.v 12)),.one (.int .u8 (bAd)),.one (.int .u8 (bAe)),.one (.int .u8 (.v 15)),.run .u16 (.lit 4) (.av 1) 0,.run .u16 (.lit 256) (.av 2) 0,.one (.slc 0 (.lit 0) (.lit 8192) (.op (.lit 0)))],true,none,false⟩]
def ctS:Go.Sx.Spec:=fC (fK 29 0 3 ctL ctM) ctH ctL ctM [] (.tup []) (some ctO)
theorem cy2:(∀ (c p q:Prop) [Decidable c],(if c then p else q)=((c∧p)∨(¬ c∧q))):=by intro c p q _;by_cases h:c <;> simp [h]
theorem aEs (o:BinOp) (ho:o=.and∨o=.or∨o=.xor) (q p:Int) (hq:0≤q∧q≤65535) (hp:0≤p∧p≤65535):0≤aN o .u16 q p∧aN o .u16 q p≤65535:=by
 obtain ⟨n,rfl⟩:=Int.eq_ofNat_of_zero_le hq.1
 obtain ⟨m,rfl⟩:=Int.eq_ofNat_of_zero_le hp.1
 have h:=Go.Sx.bits_nat (k:=.u16) (by decide) (n:=n) (m:=m) (by omega) (by omega)
 have l1:n &&& m≤n:=Nat.and_le_left
 have l2:n ||| m<2 ^ 16:=Nat.or_lt_two_pow (by omega) (by omega)
 have l3:n ^^^ m<2 ^ 16:=Nat.xor_lt_two_pow (by omega) (by omega)
 rcases ho with rfl | rfl | rfl
 ·rw [show aN .and .u16 (n:Int) (m:Int)=((n &&& m:Nat):Int) from h.1];omega
 ·rw [show aN .or .u16 (n:Int) (m:Int)=((n ||| m:Nat):Int) from h.2.1];omega
 ·rw [show aN .xor .u16 (n:Int) (m:Int)=((n ^^^ m:Nat):Int) from h.2.2];omega
theorem cy1:(∀ (c:Prop) [Decidable c] (p q:Bool),((if c then p else q)=true)=((c∧p=true)∨(¬ c∧q=true))):=by intro c _ p q;by_cases h:c <;> simp [h]
theorem bJh (xs:Nat→Nat→Ext) (ρ:Env) (hI:ρ.I=Iv xs) (a b c d:E):E.i ρ (.app 40 (.cons a (.cons b (.cons c (.cons d .nil)))))=sgV (E.i ρ a) (E.i ρ b) (E.i ρ c) (E.i ρ d)%65536:=by
 show ρ.I.fi 40 _ _ _=_
 rw [hI];rfl
theorem bJi (xs:Nat→Nat→Ext) (ρ:Env) (hI:ρ.I=Iv xs) (w a b c d:E):E.i ρ (.app 41 (.cons w (.cons a (.cons b (.cons c (.cons d .nil))))))=sgF (E.i ρ w) (E.i ρ a) (E.i ρ b) (E.i ρ c) (E.i ρ d)%64:=by
 show ρ.I.fi 41 _ _ _=_
 rw [hI];rfl
theorem ctT0 (xs:Nat→Nat→Ext) (ρ:Env) (hI:ρ.I=Iv xs) (k:Int) (hk:E.i ρ (.v 19)=k) (ha:E.i ρ (.v 20)=0):E.i ρ ctA=sgV k (ρ.i.getD 1 0) (E.i ρ cP) (ρ.i.getD 14 0 / 4%2)%65536∧E.i ρ bAd=sgF (ρ.i.getD 13 0) k (ρ.i.getD 1 0) (E.i ρ cP) (ρ.i.getD 14 0 / 4%2)%64∧E.i ρ ctB=E.i ρ (.v 2)∧E.i ρ bAe=E.i ρ (.v 14):=by
 have hb:E.b ρ (.eq (.v 20) (.lit 0))=true:=by rw [eR,ha];rfl
 simp only [ctA,ctB,bAd,bAe]
 rw [aT,aT,aT,aT]
 simp only [hb,Bool.false_eq_true,if_true,if_false,bJh xs ρ hI,bJi xs ρ hI,hk]
 exact ⟨rfl,rfl,trivial,trivial⟩
theorem ctT1 (xs:Nat→Nat→Ext) (ρ:Env) (hI:ρ.I=Iv xs) (k:Int) (hk:E.i ρ (.v 19)=k) (ha:E.i ρ (.v 20)=1):E.i ρ ctB=sgV k (ρ.i.getD 2 0) (E.i ρ cP) (ρ.i.getD 13 0 / 4%2)%65536∧E.i ρ bAe=sgF (ρ.i.getD 14 0) k (ρ.i.getD 2 0) (E.i ρ cP) (ρ.i.getD 13 0 / 4%2)%64∧E.i ρ ctA=E.i ρ (.v 1)∧E.i ρ bAd=E.i ρ (.v 13):=by
 have hb:E.b ρ (.eq (.v 20) (.lit 0))=false:=by rw [eR,ha];rfl
 simp only [ctA,ctB,bAd,bAe]
 rw [aT,aT,aT,aT]
 simp only [hb,Bool.false_eq_true,if_true,if_false,bJh xs ρ hI,bJi xs ρ hI,hk]
 exact ⟨rfl,rfl,trivial,trivial⟩
theorem ctR (ρ:Env) (hH:ctH.ok ρ):(0≤ρ.i.getD 1 0∧ρ.i.getD 1 0≤65535)∧(0≤ρ.i.getD 2 0∧ρ.i.getD 2 0≤65535)∧(0≤ρ.i.getD 13 0∧ρ.i.getD 13 0≤63)∧(0≤ρ.i.getD 14 0∧ρ.i.getD 14 0≤63)∧(0≤ρ.i.getD 18 0∧ρ.i.getD 18 0≤3)∧(0≤E.i ρ cP∧E.i ρ cP≤65535):=by
 have r (n:Nat) (b:Int) (h:(E.v n,((0:Int),b)) ∈ ctH.e):0≤ρ.i.getD n 0∧ρ.i.getD n 0≤b:=hH.e _ h
 have r9:=r 9 65535 (by simp [ctH])
 have r10:=r 10 65535 (by simp [ctH])
 have r16:=r 16 65535 (by simp [ctH])
 refine ⟨r 1 _ (by simp [ctH]),r 2 _ (by simp [ctH]),r 13 _ (by simp [ctH]),r 14 _ (by simp [ctH]),r 18 _ (by simp [ctH]),?_⟩
 have h:0≤E.a ρ (.av 2) (ρ.i.getD 5 0).toNat∧E.a ρ (.av 2) (ρ.i.getD 5 0).toNat≤65535:=hH.a (2,(0,65535)) (by simp [ctH]) _
 clear hH r
 simp only [cP,sgm,sgn]
 repeat' split
 all_goals first | omega | exact h
def ctl (k a:Int):List SV:=[.s (.ptr 1 (.lit 0)),.agg [.one (.int .u8 (.v 17)),.one (.int .u8 (.v 18)),.one (.int .u8 (.lit k)),.one (.int .u8 (.lit a)),.one (.int .u8 (.v 21)),.one (.int .u8 (.v 22)),.one (.int .u8 (.v 23)),.one (.int .u8 (.v 24)),.one (.int .u8 (.v 25)),.one (.int .u16 (.v 26)),.one (.int .u16 (.v 27)),.one (.int .u16 (.v 28))],.s (.int .u16 (.v 16))]
def ctw (u y z A:E):Mem:=[⟨5,[.run .u8 (.lit 8192) (.av 0) 0],true,some 1,false⟩,⟨81,[.one (.int .u16 (.v 0)),.one (.int .u16 u),.one (.int .u16 y),.one (.int .u16 (.v 3)),.one (.int .u16 (.v 4)),.one (.int .u16 (.v 5)),.one (.int .u16 (.v 6)),.one (.int .u16 (.v 7)),.one (.int .u16 (.v 8)),.one (.int .u16 (.v 9)),.one (.int .u16 (.v 10)),.one (.int .u16 (.v 11)),.one (.int .u16 (.v 12)),.one (.int .u8 z),.one (.int .u8 A),.one (.int .u8 (.v 15)),.run .u16 (.lit 4) (.av 1) 0,.run .u16 (.lit 256) (.av 2) 0,.one (.slc 0 (.lit 0) (.lit 8192) (.op (.lit 0)))],true,none,false⟩]
theorem ctwE (ρ:Env) (u y z A:E) (h1:E.i ρ u=E.i ρ ctA) (h2:E.i ρ y=E.i ρ ctB) (h3:E.i ρ z=E.i ρ bAd) (h4:E.i ρ A=E.i ρ bAe):mR ρ ρ (ctw u y z A) ctO:=by
 repeat' (first | with_reducible exact h1 | with_reducible exact h2 | with_reducible exact h3 | with_reducible exact h4 | with_reducible rfl | exact trivial | exact fun _ _=>rfl | refine And.intro ?_ ?_ | refine Or.inr ?_ | exact rfl)
theorem iI (ρ:Env) (k a:Int) (hk:E.i ρ (.v 19)=k) (ha:E.i ρ (.v 20)=a):∀ ι,(ctl k a).map (SV.aC ρ ι)=ctL.map (SV.aC ρ ι):=by
 intro ι;simp only [ctl,ctL,List.map_cons,List.map_nil,SV.aC,cellsOf,List.flatMap_cons,Seg.cells,S.aC,hk,ha,aF]
theorem tL (xs:Nat→Nat→Ext) (ρ:Env) (hI:ρ.I=Iv xs) (k:Int) (hk:E.i ρ (.v 19)=k) (ha:E.i ρ (.v 20)=0) (V F:E) (h:E.i ρ V=sgV k (ρ.i.getD 1 0) (E.i ρ cP) (ρ.i.getD 14 0 / 4%2)%65536∧E.i ρ F=sgF (ρ.i.getD 13 0) k (ρ.i.getD 1 0) (E.i ρ cP) (ρ.i.getD 14 0 / 4%2)%64):mR ρ ρ (ctw V (.v 2) F (.v 14)) ctO:=by
 obtain ⟨t1,t2,t3,t4⟩:=ctT0 xs ρ hI k hk ha
 exact ctwE ρ _ _ _ _ (h.1.trans t1.symm) t3.symm (h.2.trans t2.symm) t4.symm
theorem bME (ρ:Env) (hH:ctH.ok ρ):E.i ρ (.v 1)=sgV 0 (ρ.i.getD 1 0) (E.i ρ cP) (ρ.i.getD 14 0 / 4%2)%65536∧E.i ρ (.v 13)=sgF (ρ.i.getD 13 0) 0 (ρ.i.getD 1 0) (E.i ρ cP) (ρ.i.getD 14 0 / 4%2)%64:=by
 obtain ⟨l,t,g,j,_⟩:=ctR ρ hH
 rw [show sgV 0 (ρ.i.getD 1 0) (E.i ρ cP) _=ρ.i.getD 1 0 from rfl,show sgF (ρ.i.getD 13 0) 0 (ρ.i.getD 1 0) (E.i ρ cP) _=ρ.i.getD 13 0 from rfl,i_v,i_v];omega
theorem bMk:enter Try.prog SH SHh 3000 40 54 ctH (ctl 0 0) ctM=some ([],.tup [],none):=by kernel_rfl
def aVD:E:=.eq (.v 18) (.lit 0)
def aVE:E:=.sel (.av 2) (.v 5)
def aVF:E:=.eq (.v 18) (.lit 1)
def aVG:E:=.eq (.v 18) (.lit 2)
def aVH:E:=.ite aVG (.v 9) (.v 10)
def aVI:E:=.ite aVF (.v 16) aVH
def aHb:E:=.ite aVD aVE aVI
def sI:E:=.bits .or .u16 (.v 1) aHb
def aVJ:E:=.le sI (.lit 32767)
def aVK:E:=.ite aVJ (.lit 0) (.lit 1)
def aKK:E:=.le (.v 13) (.lit 31)
def aKL:E:=.le (.lit 32768) sI
def aKM:E:=.div (.v 13) (.lit 2)
def aKN:E:=.mod aKM (.lit 2)
def aKO:E:=.eq aKN (.lit 0)
def aKP:E:=.not aKO
def aKQ:E:=.ite aKK aKL aKP
def aKR:E:=.ite aKQ (.lit 2) (.lit 0)
def aKS:E:=.add aVK aKR
def aKT:E:=.eq sI (.lit 0)
def aKU:E:=.ite aKT (.lit 8) (.lit 0)
def aBf:E:=.add aKS aKU
theorem bMG (ρ:Env) (hH:ctH.ok ρ):E.i ρ sI=sgV 1 (ρ.i.getD 1 0) (E.i ρ cP) (ρ.i.getD 14 0 / 4%2)%65536∧E.i ρ aBf=sgF (ρ.i.getD 13 0) 1 (ρ.i.getD 1 0) (E.i ρ cP) (ρ.i.getD 14 0 / 4%2)%64:=by
 obtain ⟨l,t,g,j,f,hr⟩:=ctR ρ hH
 have hp:E.i ρ aHb=E.i ρ cP:=by
  simp only [aVD,aVE,aVF,aVG,aVH,aVI,aHb,cP,sgm,sgn]
  (try (generalize ρ.i.getD 18 0=w at *;rcases (show w=0∨w=1∨w=2∨w=3 by omega) with h | h | h | h <;> subst h <;> simp))
 generalize E.i ρ cP=p at *
 simp only [sI,aVJ,aVK,aKK,aKL,aKM,aKN,aKO,aKP,aKQ,aKR,aKS,aKT,aKU,aBf,sgm,sgn,hp,sgV,sgF]
 simp only [Int.reduceEq,if_false,if_true]
 simp only [cy1,cy2,sgn]
 clear hH hp f
 generalize ρ.i.getD 1 0=q at *
 generalize ρ.i.getD 13 0=w at *
 generalize ρ.i.getD 14 0=cc at *
 have hb:=aEs .or (by simp) q p l hr
 generalize aN .or .u16 q p=x at *
 refine ⟨by omega,?_⟩
 refine (Int.emod_eq_of_lt ?_ ?_).symm <;> (repeat' split) <;> omega
theorem bMm:enter Try.prog SH SHh 3000 40 54 ctH (ctl 1 0) ctM=some ([],.tup [],some (ctw sI (.v 2) aBf (.v 14))):=by kernel_rfl
def aVT:E:=.eq (.v 18) (.lit 0)
def aVU:E:=.sel (.av 2) (.v 5)
def aVV:E:=.eq (.v 18) (.lit 1)
def aVW:E:=.eq (.v 18) (.lit 2)
def aVX:E:=.ite aVW (.v 9) (.v 10)
def aVY:E:=.ite aVV (.v 16) aVX
def aHd:E:=.ite aVT aVU aVY
def sK:E:=.bits .and .u16 (.v 1) aHd
def aVZ:E:=.le sK (.lit 32767)
def aWa:E:=.ite aVZ (.lit 0) (.lit 1)
def aLg:E:=.le (.v 13) (.lit 31)
def aLh:E:=.le (.lit 32768) sK
def aLi:E:=.div (.v 13) (.lit 2)
def aLj:E:=.mod aLi (.lit 2)
def aLk:E:=.eq aLj (.lit 0)
def aLl:E:=.not aLk
def aLm:E:=.ite aLg aLh aLl
def aLn:E:=.ite aLm (.lit 2) (.lit 0)
def aLo:E:=.add aWa aLn
def aLp:E:=.eq sK (.lit 0)
def aLq:E:=.ite aLp (.lit 8) (.lit 0)
def aBh:E:=.add aLo aLq
theorem bMI (ρ:Env) (hH:ctH.ok ρ):E.i ρ sK=sgV 2 (ρ.i.getD 1 0) (E.i ρ cP) (ρ.i.getD 14 0 / 4%2)%65536∧E.i ρ aBh=sgF (ρ.i.getD 13 0) 2 (ρ.i.getD 1 0) (E.i ρ cP) (ρ.i.getD 14 0 / 4%2)%64:=by
 obtain ⟨l,t,g,j,f,hr⟩:=ctR ρ hH
 have hp:E.i ρ aHd=E.i ρ cP:=by
  simp only [aVT,aVU,aVV,aVW,aVX,aVY,aHd,cP,sgm,sgn]
  (try (generalize ρ.i.getD 18 0=w at *;rcases (show w=0∨w=1∨w=2∨w=3 by omega) with h | h | h | h <;> subst h <;> simp))
 generalize E.i ρ cP=p at *
 simp only [sK,aVZ,aWa,aLg,aLh,aLi,aLj,aLk,aLl,aLm,aLn,aLo,aLp,aLq,aBh,sgm,sgn,hp,sgV,sgF]
 simp only [Int.reduceEq,if_false,if_true]
 simp only [cy1,cy2,sgn]
 clear hH hp f
 generalize ρ.i.getD 1 0=q at *
 generalize ρ.i.getD 13 0=w at *
 generalize ρ.i.getD 14 0=cc at *
 have hb:=aEs .and (by simp) q p l hr
 generalize aN .and .u16 q p=x at *
 refine ⟨by omega,?_⟩
 refine (Int.emod_eq_of_lt ?_ ?_).symm <;> (repeat' split) <;> omega
theorem bMo:enter Try.prog SH SHh 3000 40 54 ctH (ctl 2 0) ctM=some ([],.tup [],some (ctw sK (.v 2) aBh (.v 14))):=by kernel_rfl
def aWj:E:=.eq (.v 18) (.lit 0)
def aWk:E:=.sel (.av 2) (.v 5)
def aWl:E:=.eq (.v 18) (.lit 1)
def aWm:E:=.eq (.v 18) (.lit 2)
def aWn:E:=.ite aWm (.v 9) (.v 10)
def aWo:E:=.ite aWl (.v 16) aWn
def aHf:E:=.ite aWj aWk aWo
def sM:E:=.bits .xor .u16 (.v 1) aHf
def aWp:E:=.le sM (.lit 32767)
def aWq:E:=.ite aWp (.lit 0) (.lit 1)
def aLC:E:=.le (.v 13) (.lit 31)
def aLD:E:=.le (.lit 32768) sM
def aLE:E:=.div (.v 13) (.lit 2)
def aLF:E:=.mod aLE (.lit 2)
def aLG:E:=.eq aLF (.lit 0)
def aLH:E:=.not aLG
def aLI:E:=.ite aLC aLD aLH
def aLJ:E:=.ite aLI (.lit 2) (.lit 0)
def aLK:E:=.add aWq aLJ
def aLL:E:=.eq sM (.lit 0)
def aLM:E:=.ite aLL (.lit 8) (.lit 0)
def aBj:E:=.add aLK aLM
theorem bMK (ρ:Env) (hH:ctH.ok ρ):E.i ρ sM=sgV 3 (ρ.i.getD 1 0) (E.i ρ cP) (ρ.i.getD 14 0 / 4%2)%65536∧E.i ρ aBj=sgF (ρ.i.getD 13 0) 3 (ρ.i.getD 1 0) (E.i ρ cP) (ρ.i.getD 14 0 / 4%2)%64:=by
 obtain ⟨l,t,g,j,f,hr⟩:=ctR ρ hH
 have hp:E.i ρ aHf=E.i ρ cP:=by
  simp only [aWj,aWk,aWl,aWm,aWn,aWo,aHf,cP,sgm,sgn]
  (try (generalize ρ.i.getD 18 0=w at *;rcases (show w=0∨w=1∨w=2∨w=3 by omega) with h | h | h | h <;> subst h <;> simp))
 generalize E.i ρ cP=p at *
 simp only [sM,aWp,aWq,aLC,aLD,aLE,aLF,aLG,aLH,aLI,aLJ,aLK,aLL,aLM,aBj,sgm,sgn,hp,sgV,sgF]
 simp only [Int.reduceEq,if_false,if_true]
 simp only [cy1,cy2,sgn]
 clear hH hp f
 generalize ρ.i.getD 1 0=q at *
 generalize ρ.i.getD 13 0=w at *
 generalize ρ.i.getD 14 0=cc at *
 have hb:=aEs .xor (by simp) q p l hr
 generalize aN .xor .u16 q p=x at *
 refine ⟨by omega,?_⟩
 refine (Int.emod_eq_of_lt ?_ ?_).symm <;> (repeat' split) <;> omega
theorem bMq:enter Try.prog SH SHh 3000 40 54 ctH (ctl 3 0) ctM=some ([],.tup [],some (ctw sM (.v 2) aBj (.v 14))):=by kernel_rfl
def aWz:E:=.eq (.v 18) (.lit 0)
def aWA:E:=.sel (.av 2) (.v 5)
def aWB:E:=.eq (.v 18) (.lit 1)
def aWC:E:=.eq (.v 18) (.lit 2)
def aWD:E:=.ite aWC (.v 9) (.v 10)
def aWE:E:=.ite aWB (.v 16) aWD
def oZ:E:=.ite aWz aWA aWE
def aHh:E:=.sub (.v 1) oZ
def aAh:E:=.mod aHh (.lit 65536)
def aWF:E:=.div aHh (.lit 32768)
def aBl:E:=.mod aWF (.lit 2)
def aBm:E:=.le (.v 13) (.lit 31)
def aLY:E:=.eq aBl (.lit 0)
def aLZ:E:=.not aLY
def aMa:E:=.div (.v 13) (.lit 2)
def aMb:E:=.mod aMa (.lit 2)
def aMc:E:=.eq aMb (.lit 0)
def aMd:E:=.not aMc
def aMe:E:=.ite aBm aLZ aMd
def aMf:E:=.ite aMe (.lit 2) (.lit 0)
def aMg:E:=.add aBl aMf
def aMh:E:=.lt (.v 1) oZ
def aMi:E:=.ite aMh (.lit 4) (.lit 0)
def aMj:E:=.add aMg aMi
def aMk:E:=.eq aAh (.lit 0)
def aMl:E:=.ite aMk (.lit 8) (.lit 0)
def aMm:E:=.add aMj aMl
def aMn:E:=.le (.v 1) (.lit 32767)
def aMo:E:=.add (.v 1) (.lit (-65536))
def aMp:E:=.ite aMn (.v 1) aMo
def aMq:E:=.le oZ (.lit 32767)
def aMr:E:=.add oZ (.lit (-65536))
def aMs:E:=.ite aMq oZ aMr
def aBn:E:=.sub aMp aMs
def aMt:E:=.le (.lit 32768) aBn
def aMu:E:=.le aBn (.lit (-32769))
def aBo:E:=.or aMt aMu
def aMv:E:=.ite aBo (.lit 16) (.lit 0)
def aMw:E:=.add aMm aMv
def aMx:E:=.le (.lit 32) (.v 13)
def aMy:E:=.ite aBo aBm aMx
def aMz:E:=.ite aMy (.lit 32) (.lit 0)
def aBp:E:=.add aMw aMz
theorem bMM (ρ:Env) (hH:ctH.ok ρ):E.i ρ aAh=sgV 4 (ρ.i.getD 1 0) (E.i ρ cP) (ρ.i.getD 14 0 / 4%2)%65536∧E.i ρ aBp=sgF (ρ.i.getD 13 0) 4 (ρ.i.getD 1 0) (E.i ρ cP) (ρ.i.getD 14 0 / 4%2)%64:=by
 obtain ⟨l,t,g,j,f,hr⟩:=ctR ρ hH
 have hp:E.i ρ oZ=E.i ρ cP:=by
  simp only [aWz,aWA,aWB,aWC,aWD,aWE,oZ,cP,sgm,sgn]
  (try (generalize ρ.i.getD 18 0=w at *;rcases (show w=0∨w=1∨w=2∨w=3 by omega) with h | h | h | h <;> subst h <;> simp))
 generalize E.i ρ cP=p at *
 simp only [aHh,aAh,aWF,aBl,aBm,aLY,aLZ,aMa,aMb,aMc,aMd,aMe,aMf,aMg,aMh,aMi,aMj,aMk,aMl,aMm,aMn,aMo,aMp,aMq,aMr,aMs,aBn,aMt,aMu,aBo,aMv,aMw,aMx,aMy,aMz,aBp,sgm,sgn,hp,sgV,sgF]
 simp only [Int.reduceEq,if_false,if_true]
 simp only [cy1,cy2,sgn]
 clear hH hp f
 generalize ρ.i.getD 1 0=q at *
 generalize ρ.i.getD 13 0=w at *
 generalize ρ.i.getD 14 0=cc at *
 refine ⟨by omega,?_⟩
 refine (Int.emod_eq_of_lt ?_ ?_).symm <;> (repeat' split) <;> omega
theorem bMs:enter Try.prog SH SHh 3000 40 54 ctH (ctl 4 0) ctM=some ([],.tup [],some (ctw aAh (.v 2) aBp (.v 14))):=by kernel_rfl
def aWN:E:=.eq (.v 18) (.lit 0)
def aWO:E:=.sel (.av 2) (.v 5)
def aWP:E:=.eq (.v 18) (.lit 1)
def aWQ:E:=.eq (.v 18) (.lit 2)
def aWR:E:=.ite aWQ (.v 9) (.v 10)
def aWS:E:=.ite aWP (.v 16) aWR
def sO:E:=.ite aWN aWO aWS
def aAj:E:=.add (.v 1) sO
def aAk:E:=.mod aAj (.lit 65536)
def aWT:E:=.div aAj (.lit 32768)
def aBv:E:=.mod aWT (.lit 2)
def aBw:E:=.le (.v 13) (.lit 31)
def aNc:E:=.eq aBv (.lit 0)
def aNd:E:=.not aNc
def aNe:E:=.div (.v 13) (.lit 2)
def aNf:E:=.mod aNe (.lit 2)
def aNg:E:=.eq aNf (.lit 0)
def aNh:E:=.not aNg
def aNi:E:=.ite aBw aNd aNh
def aNj:E:=.ite aNi (.lit 2) (.lit 0)
def aNk:E:=.add aBv aNj
def aNl:E:=.le aAj (.lit 65535)
def aNm:E:=.ite aNl (.lit 0) (.lit 4)
def aNn:E:=.add aNk aNm
def aNo:E:=.eq aAk (.lit 0)
def aNp:E:=.ite aNo (.lit 8) (.lit 0)
def aNq:E:=.add aNn aNp
def aNr:E:=.le (.v 1) (.lit 32767)
def aNs:E:=.add (.v 1) (.lit (-65536))
def aNt:E:=.ite aNr (.v 1) aNs
def aNu:E:=.le sO (.lit 32767)
def aNv:E:=.add sO (.lit (-65536))
def aNw:E:=.ite aNu sO aNv
def aBx:E:=.add aNt aNw
def aNx:E:=.le (.lit 32768) aBx
def aNy:E:=.le aBx (.lit (-32769))
def aBy:E:=.or aNx aNy
def aNz:E:=.ite aBy (.lit 16) (.lit 0)
def aNA:E:=.add aNq aNz
def aNB:E:=.le (.lit 32) (.v 13)
def aNC:E:=.ite aBy aBw aNB
def aND:E:=.ite aNC (.lit 32) (.lit 0)
def aBz:E:=.add aNA aND
theorem bMO (ρ:Env) (hH:ctH.ok ρ):E.i ρ aAk=sgV 5 (ρ.i.getD 1 0) (E.i ρ cP) (ρ.i.getD 14 0 / 4%2)%65536∧E.i ρ aBz=sgF (ρ.i.getD 13 0) 5 (ρ.i.getD 1 0) (E.i ρ cP) (ρ.i.getD 14 0 / 4%2)%64:=by
 obtain ⟨l,t,g,j,f,hr⟩:=ctR ρ hH
 have hp:E.i ρ sO=E.i ρ cP:=by
  simp only [aWN,aWO,aWP,aWQ,aWR,aWS,sO,cP,sgm,sgn]
  (try (generalize ρ.i.getD 18 0=w at *;rcases (show w=0∨w=1∨w=2∨w=3 by omega) with h | h | h | h <;> subst h <;> simp))
 generalize E.i ρ cP=p at *
 simp only [aAj,aAk,aWT,aBv,aBw,aNc,aNd,aNe,aNf,aNg,aNh,aNi,aNj,aNk,aNl,aNm,aNn,aNo,aNp,aNq,aNr,aNs,aNt,aNu,aNv,aNw,aBx,aNx,aNy,aBy,aNz,aNA,aNB,aNC,aND,aBz,sgm,sgn,hp,sgV,sgF]
 simp only [Int.reduceEq,if_false,if_true]
 simp only [cy1,cy2,sgn]
 clear hH hp f
 generalize ρ.i.getD 1 0=q at *
 generalize ρ.i.getD 13 0=w at *
 generalize ρ.i.getD 14 0=cc at *
 refine ⟨by omega,?_⟩
 refine (Int.emod_eq_of_lt ?_ ?_).symm <;> (repeat' split) <;> omega
theorem bMu:enter Try.prog SH SHh 3000 40 54 ctH (ctl 5 0) ctM=some ([],.tup [],some (ctw aAk (.v 2) aBz (.v 14))):=by kernel_rfl
def aXb:E:=.eq (.v 18) (.lit 0)
def aXc:E:=.sel (.av 2) (.v 5)
def aXd:E:=.eq (.v 18) (.lit 1)
def aXe:E:=.eq (.v 18) (.lit 2)
def aXf:E:=.ite aXe (.v 9) (.v 10)
def aXg:E:=.ite aXd (.v 16) aXf
def pB:E:=.ite aXb aXc aXg
def aXh:E:=.sub (.v 1) pB
def aXi:E:=.div (.v 14) (.lit 4)
def aHj:E:=.mod aXi (.lit 2)
def aBF:E:=.sub aXh aHj
def vP:E:=.mod aBF (.lit 65536)
def aOg:E:=.div aBF (.lit 32768)
def aBG:E:=.mod aOg (.lit 2)
def aBH:E:=.le (.v 13) (.lit 31)
def aOh:E:=.eq aBG (.lit 0)
def aOi:E:=.not aOh
def aOj:E:=.div (.v 13) (.lit 2)
def aOk:E:=.mod aOj (.lit 2)
def aOl:E:=.eq aOk (.lit 0)
def aOm:E:=.not aOl
def aOn:E:=.ite aBH aOi aOm
def aOo:E:=.ite aOn (.lit 2) (.lit 0)
def aOp:E:=.add aBG aOo
def aOq:E:=.add pB aHj
def aOr:E:=.lt (.v 1) aOq
def aOs:E:=.ite aOr (.lit 4) (.lit 0)
def aOt:E:=.add aOp aOs
def aOu:E:=.eq vP (.lit 0)
def aOv:E:=.ite aOu (.lit 8) (.lit 0)
def aOw:E:=.add aOt aOv
def aOx:E:=.le (.v 1) (.lit 32767)
def aOy:E:=.add (.v 1) (.lit (-65536))
def aOz:E:=.ite aOx (.v 1) aOy
def aOA:E:=.le pB (.lit 32767)
def aOB:E:=.add pB (.lit (-65536))
def aOC:E:=.ite aOA pB aOB
def aBI:E:=.sub aOz aOC
def aOD:E:=.le (.lit 32768) aBI
def aOE:E:=.le aBI (.lit (-32769))
def aBJ:E:=.or aOD aOE
def aOF:E:=.ite aBJ (.lit 16) (.lit 0)
def aOG:E:=.add aOw aOF
def aOH:E:=.le (.lit 32) (.v 13)
def aOI:E:=.ite aBJ aBH aOH
def aOJ:E:=.ite aOI (.lit 32) (.lit 0)
def aBK:E:=.add aOG aOJ
theorem bMQ (ρ:Env) (hH:ctH.ok ρ):E.i ρ vP=sgV 6 (ρ.i.getD 1 0) (E.i ρ cP) (ρ.i.getD 14 0 / 4%2)%65536∧E.i ρ aBK=sgF (ρ.i.getD 13 0) 6 (ρ.i.getD 1 0) (E.i ρ cP) (ρ.i.getD 14 0 / 4%2)%64:=by
 obtain ⟨l,t,g,j,f,hr⟩:=ctR ρ hH
 have hp:E.i ρ pB=E.i ρ cP:=by
  simp only [aXb,aXc,aXd,aXe,aXf,aXg,pB,cP,sgm,sgn]
  (try (generalize ρ.i.getD 18 0=w at *;rcases (show w=0∨w=1∨w=2∨w=3 by omega) with h | h | h | h <;> subst h <;> simp))
 generalize E.i ρ cP=p at *
 simp only [aXh,aXi,aHj,aBF,vP,aOg,aBG,aBH,aOh,aOi,aOj,aOk,aOl,aOm,aOn,aOo,aOp,aOq,aOr,aOs,aOt,aOu,aOv,aOw,aOx,aOy,aOz,aOA,aOB,aOC,aBI,aOD,aOE,aBJ,aOF,aOG,aOH,aOI,aOJ,aBK,sgm,sgn,hp,sgV,sgF]
 simp only [Int.reduceEq,if_false,if_true]
 simp only [cy1,cy2,sgn]
 clear hH hp f
 generalize ρ.i.getD 1 0=q at *
 generalize ρ.i.getD 13 0=w at *
 generalize ρ.i.getD 14 0=cc at *
 refine ⟨by omega,?_⟩
 refine (Int.emod_eq_of_lt ?_ ?_).symm <;> (repeat' split) <;> omega
theorem bMw:enter Try.prog SH SHh 3000 40 54 ctH (ctl 6 0) ctM=some ([],.tup [],some (ctw vP (.v 2) aBK (.v 14))):=by kernel_rfl
def aXr:E:=.eq (.v 18) (.lit 0)
def aXs:E:=.sel (.av 2) (.v 5)
def aXt:E:=.eq (.v 18) (.lit 1)
def aXu:E:=.eq (.v 18) (.lit 2)
def aXv:E:=.ite aXu (.v 9) (.v 10)
def aXw:E:=.ite aXt (.v 16) aXv
def sQ:E:=.ite aXr aXs aXw
def aXx:E:=.add (.v 1) sQ
def aXy:E:=.div (.v 14) (.lit 4)
def aXz:E:=.mod aXy (.lit 2)
def vR:E:=.add aXx aXz
def vS:E:=.mod vR (.lit 65536)
def aPo:E:=.div vR (.lit 32768)
def aBR:E:=.mod aPo (.lit 2)
def aBS:E:=.le (.v 13) (.lit 31)
def aPp:E:=.eq aBR (.lit 0)
def aPq:E:=.not aPp
def aPr:E:=.div (.v 13) (.lit 2)
def aPs:E:=.mod aPr (.lit 2)
def aPt:E:=.eq aPs (.lit 0)
def aPu:E:=.not aPt
def aPv:E:=.ite aBS aPq aPu
def aPw:E:=.ite aPv (.lit 2) (.lit 0)
def aPx:E:=.add aBR aPw
def aPy:E:=.le vR (.lit 65535)
def aPz:E:=.ite aPy (.lit 0) (.lit 4)
def aPA:E:=.add aPx aPz
def aPB:E:=.eq vS (.lit 0)
def aPC:E:=.ite aPB (.lit 8) (.lit 0)
def aPD:E:=.add aPA aPC
def aPE:E:=.le (.v 1) (.lit 32767)
def aPF:E:=.add (.v 1) (.lit (-65536))
def aPG:E:=.ite aPE (.v 1) aPF
def aPH:E:=.le sQ (.lit 32767)
def aPI:E:=.add sQ (.lit (-65536))
def aPJ:E:=.ite aPH sQ aPI
def aBT:E:=.add aPG aPJ
def aPK:E:=.le (.lit 32768) aBT
def aPL:E:=.le aBT (.lit (-32769))
def aBU:E:=.or aPK aPL
def aPM:E:=.ite aBU (.lit 16) (.lit 0)
def aPN:E:=.add aPD aPM
def aPO:E:=.le (.lit 32) (.v 13)
def aPP:E:=.ite aBU aBS aPO
def aPQ:E:=.ite aPP (.lit 32) (.lit 0)
def aBV:E:=.add aPN aPQ
theorem bMS (ρ:Env) (hH:ctH.ok ρ):E.i ρ vS=sgV 7 (ρ.i.getD 1 0) (E.i ρ cP) (ρ.i.getD 14 0 / 4%2)%65536∧E.i ρ aBV=sgF (ρ.i.getD 13 0) 7 (ρ.i.getD 1 0) (E.i ρ cP) (ρ.i.getD 14 0 / 4%2)%64:=by
 obtain ⟨l,t,g,j,f,hr⟩:=ctR ρ hH
 have hp:E.i ρ sQ=E.i ρ cP:=by
  simp only [aXr,aXs,aXt,aXu,aXv,aXw,sQ,cP,sgm,sgn]
  (try (generalize ρ.i.getD 18 0=w at *;rcases (show w=0∨w=1∨w=2∨w=3 by omega) with h | h | h | h <;> subst h <;> simp))
 generalize E.i ρ cP=p at *
 simp only [aXx,aXy,aXz,vR,vS,aPo,aBR,aBS,aPp,aPq,aPr,aPs,aPt,aPu,aPv,aPw,aPx,aPy,aPz,aPA,aPB,aPC,aPD,aPE,aPF,aPG,aPH,aPI,aPJ,aBT,aPK,aPL,aBU,aPM,aPN,aPO,aPP,aPQ,aBV,sgm,sgn,hp,sgV,sgF]
 simp only [Int.reduceEq,if_false,if_true]
 simp only [cy1,cy2,sgn]
 clear hH hp f
 generalize ρ.i.getD 1 0=q at *
 generalize ρ.i.getD 13 0=w at *
 generalize ρ.i.getD 14 0=cc at *
 refine ⟨by omega,?_⟩
 refine (Int.emod_eq_of_lt ?_ ?_).symm <;> (repeat' split) <;> omega
theorem bMy:enter Try.prog SH SHh 3000 40 54 ctH (ctl 7 0) ctM=some ([],.tup [],some (ctw vS (.v 2) aBV (.v 14))):=by kernel_rfl
def aXJ:E:=.add (.v 1) (.lit 65535)
def aAn:E:=.mod aXJ (.lit 65536)
def aXK:E:=.add (.v 1) (.lit 32767)
def aXL:E:=.div aXK (.lit 32768)
def aXM:E:=.add aXL (.lit 1)
def aHl:E:=.mod aXM (.lit 2)
def aHm:E:=.le (.v 13) (.lit 31)
def aXN:E:=.eq aHl (.lit 0)
def aXO:E:=.not aXN
def aXP:E:=.div (.v 13) (.lit 2)
def aQu:E:=.mod aXP (.lit 2)
def aQv:E:=.eq aQu (.lit 0)
def aQw:E:=.not aQv
def aQx:E:=.ite aHm aXO aQw
def aQy:E:=.ite aQx (.lit 2) (.lit 0)
def aQz:E:=.add aHl aQy
def aQA:E:=.le (.v 1) (.lit 0)
def aQB:E:=.ite aQA (.lit 4) (.lit 0)
def aQC:E:=.add aQz aQB
def aQD:E:=.eq aAn (.lit 0)
def aQE:E:=.ite aQD (.lit 8) (.lit 0)
def aQF:E:=.add aQC aQE
def aQG:E:=.le (.v 1) (.lit 32767)
def aQH:E:=.add (.v 1) (.lit (-65536))
def aQI:E:=.ite aQG (.v 1) aQH
def aQJ:E:=.add aQI (.lit (-1))
def aCb:E:=.le aQJ (.lit (-32769))
def aQK:E:=.ite aCb (.lit 16) (.lit 0)
def aQL:E:=.add aQF aQK
def aQM:E:=.le (.lit 32) (.v 13)
def aQN:E:=.ite aCb aHm aQM
def aQO:E:=.ite aQN (.lit 32) (.lit 0)
def aCc:E:=.add aQL aQO
theorem bMU (ρ:Env) (hH:ctH.ok ρ):E.i ρ aAn=sgV 8 (ρ.i.getD 1 0) (E.i ρ cP) (ρ.i.getD 14 0 / 4%2)%65536∧E.i ρ aCc=sgF (ρ.i.getD 13 0) 8 (ρ.i.getD 1 0) (E.i ρ cP) (ρ.i.getD 14 0 / 4%2)%64:=by
 obtain ⟨l,t,g,j,f,hr⟩:=ctR ρ hH
 generalize E.i ρ cP=p at *
 simp only [aXJ,aAn,aXK,aXL,aXM,aHl,aHm,aXN,aXO,aXP,aQu,aQv,aQw,aQx,aQy,aQz,aQA,aQB,aQC,aQD,aQE,aQF,aQG,aQH,aQI,aQJ,aCb,aQK,aQL,aQM,aQN,aQO,aCc,sgm,sgn,sgV,sgF]
 simp only [Int.reduceEq,if_false,if_true]
 simp only [cy1,cy2,sgn]
 clear hH f
 generalize ρ.i.getD 1 0=q at *
 generalize ρ.i.getD 13 0=w at *
 generalize ρ.i.getD 14 0=cc at *
 refine ⟨by omega,?_⟩
 refine (Int.emod_eq_of_lt ?_ ?_).symm <;> (repeat' split) <;> omega
theorem bMA:enter Try.prog SH SHh 3000 40 54 ctH (ctl 8 0) ctM=some ([],.tup [],some (ctw aAn (.v 2) aCc (.v 14))):=by kernel_rfl
def aAp:E:=.add (.v 1) (.lit 1)
def aAq:E:=.mod aAp (.lit 65536)
def aXX:E:=.div aAp (.lit 32768)
def aHp:E:=.mod aXX (.lit 2)
def aHq:E:=.le (.v 13) (.lit 31)
def aXY:E:=.eq aHp (.lit 0)
def aXZ:E:=.not aXY
def aYa:E:=.div (.v 13) (.lit 2)
def aYb:E:=.mod aYa (.lit 2)
def aYc:E:=.eq aYb (.lit 0)
def aRk:E:=.not aYc
def aRl:E:=.ite aHq aXZ aRk
def aRm:E:=.ite aRl (.lit 2) (.lit 0)
def aRn:E:=.add aHp aRm
def aRo:E:=.le aAp (.lit 65535)
def aRp:E:=.ite aRo (.lit 0) (.lit 4)
def aRq:E:=.add aRn aRp
def aRr:E:=.eq aAq (.lit 0)
def aRs:E:=.ite aRr (.lit 8) (.lit 0)
def aRt:E:=.add aRq aRs
def aRu:E:=.le (.v 1) (.lit 32767)
def aRv:E:=.add (.v 1) (.lit (-65536))
def aRw:E:=.ite aRu (.v 1) aRv
def aCf:E:=.add aRw (.lit 1)
def aRx:E:=.le (.lit 32768) aCf
def aRy:E:=.le aCf (.lit (-32769))
def aCg:E:=.or aRx aRy
def aRz:E:=.ite aCg (.lit 16) (.lit 0)
def aRA:E:=.add aRt aRz
def aRB:E:=.le (.lit 32) (.v 13)
def aRC:E:=.ite aCg aHq aRB
def aRD:E:=.ite aRC (.lit 32) (.lit 0)
def aCh:E:=.add aRA aRD
theorem bMW (ρ:Env) (hH:ctH.ok ρ):E.i ρ aAq=sgV 9 (ρ.i.getD 1 0) (E.i ρ cP) (ρ.i.getD 14 0 / 4%2)%65536∧E.i ρ aCh=sgF (ρ.i.getD 13 0) 9 (ρ.i.getD 1 0) (E.i ρ cP) (ρ.i.getD 14 0 / 4%2)%64:=by
 obtain ⟨l,t,g,j,f,hr⟩:=ctR ρ hH
 generalize E.i ρ cP=p at *
 simp only [aAp,aAq,aXX,aHp,aHq,aXY,aXZ,aYa,aYb,aYc,aRk,aRl,aRm,aRn,aRo,aRp,aRq,aRr,aRs,aRt,aRu,aRv,aRw,aCf,aRx,aRy,aCg,aRz,aRA,aRB,aRC,aRD,aCh,sgm,sgn,sgV,sgF]
 simp only [Int.reduceEq,if_false,if_true]
 simp only [cy1,cy2,sgn]
 clear hH f
 generalize ρ.i.getD 1 0=q at *
 generalize ρ.i.getD 13 0=w at *
 generalize ρ.i.getD 14 0=cc at *
 refine ⟨by omega,?_⟩
 refine (Int.emod_eq_of_lt ?_ ?_).symm <;> (repeat' split) <;> omega
theorem bMC:enter Try.prog SH SHh 3000 40 54 ctH (ctl 9 0) ctM=some ([],.tup [],some (ctw aAq (.v 2) aCh (.v 14))):=by kernel_rfl
def nS:E:=.sub (.lit 65535) (.v 1)
def aIG:E:=.le nS (.lit 32767)
def aIH:E:=.ite aIG (.lit 0) (.lit 1)
def aII:E:=.le (.v 13) (.lit 31)
def aIJ:E:=.le (.lit 32768) nS
def aIK:E:=.div (.v 13) (.lit 2)
def aIL:E:=.mod aIK (.lit 2)
def aIM:E:=.eq aIL (.lit 0)
def aIN:E:=.not aIM
def aIO:E:=.ite aII aIJ aIN
def aEv:E:=.ite aIO (.lit 2) (.lit 0)
def aEw:E:=.add aIH aEv
def aEx:E:=.eq nS (.lit 0)
def aEy:E:=.ite aEx (.lit 8) (.lit 0)
def xJ:E:=.add aEw aEy
theorem bGF (ρ:Env) (hH:ctH.ok ρ):E.i ρ nS=sgV 10 (ρ.i.getD 1 0) (E.i ρ cP) (ρ.i.getD 14 0 / 4%2)%65536∧E.i ρ xJ=sgF (ρ.i.getD 13 0) 10 (ρ.i.getD 1 0) (E.i ρ cP) (ρ.i.getD 14 0 / 4%2)%64:=by
 obtain ⟨l,t,g,j,f,hr⟩:=ctR ρ hH
 generalize E.i ρ cP=p at *
 simp only [nS,aIG,aIH,aII,aIJ,aIK,aIL,aIM,aIN,aIO,aEv,aEw,aEx,aEy,xJ,sgm,sgn,sgV,sgF]
 simp only [Int.reduceEq,if_false,if_true]
 simp only [cy1,cy2,sgn]
 clear hH f
 generalize ρ.i.getD 1 0=q at *
 generalize ρ.i.getD 13 0=w at *
 generalize ρ.i.getD 14 0=cc at *
 refine ⟨by omega,?_⟩
 refine (Int.emod_eq_of_lt ?_ ?_).symm <;> (repeat' split) <;> omega
theorem bGt:enter Try.prog SH SHh 3000 40 54 ctH (ctl 10 0) ctM=some ([],.tup [],some (ctw nS (.v 2) xJ (.v 14))):=by kernel_rfl
def aIY:E:=.div (.v 1) (.lit 2)
def aIZ:E:=.div (.v 1) (.lit 32768)
def aJa:E:=.mul aIZ (.lit 32768)
def nU:E:=.add aIY aJa
def aJb:E:=.le nU (.lit 32767)
def aJc:E:=.ite aJb (.lit 0) (.lit 1)
def aJd:E:=.le (.v 13) (.lit 31)
def aJe:E:=.le (.lit 32768) nU
def aJf:E:=.div (.v 13) (.lit 2)
def aJg:E:=.mod aJf (.lit 2)
def aED:E:=.eq aJg (.lit 0)
def aEE:E:=.not aED
def aEF:E:=.ite aJd aJe aEE
def aEG:E:=.ite aEF (.lit 2) (.lit 0)
def aEH:E:=.add aJc aEG
def aEI:E:=.mod (.v 1) (.lit 2)
def aEJ:E:=.eq aEI (.lit 0)
def aEK:E:=.ite aEJ (.lit 0) (.lit 4)
def aEL:E:=.add aEH aEK
def aEM:E:=.eq nU (.lit 0)
def aEN:E:=.ite aEM (.lit 8) (.lit 0)
def xL:E:=.add aEL aEN
theorem bGH (ρ:Env) (hH:ctH.ok ρ):E.i ρ nU=sgV 11 (ρ.i.getD 1 0) (E.i ρ cP) (ρ.i.getD 14 0 / 4%2)%65536∧E.i ρ xL=sgF (ρ.i.getD 13 0) 11 (ρ.i.getD 1 0) (E.i ρ cP) (ρ.i.getD 14 0 / 4%2)%64:=by
 obtain ⟨l,t,g,j,f,hr⟩:=ctR ρ hH
 generalize E.i ρ cP=p at *
 simp only [aIY,aIZ,aJa,nU,aJb,aJc,aJd,aJe,aJf,aJg,aED,aEE,aEF,aEG,aEH,aEI,aEJ,aEK,aEL,aEM,aEN,xL,sgm,sgn,sgV,sgF]
 simp only [Int.reduceEq,if_false,if_true]
 simp only [cy1,cy2,sgn]
 clear hH f
 generalize ρ.i.getD 1 0=q at *
 generalize ρ.i.getD 13 0=w at *
 generalize ρ.i.getD 14 0=cc at *
 refine ⟨by omega,?_⟩
 refine (Int.emod_eq_of_lt ?_ ?_).symm <;> (repeat' split) <;> omega
theorem bGv:enter Try.prog SH SHh 3000 40 54 ctH (ctl 11 0) ctM=some ([],.tup [],some (ctw nU (.v 2) xL (.v 14))):=by kernel_rfl
def aJq:E:=.mod (.v 1) (.lit 32768)
def aJr:E:=.mul aJq (.lit 2)
def aJs:E:=.div (.v 14) (.lit 4)
def aJt:E:=.mod aJs (.lit 2)
def nW:E:=.add aJr aJt
def aJu:E:=.le nW (.lit 32767)
def aJv:E:=.ite aJu (.lit 0) (.lit 1)
def aJw:E:=.le (.v 13) (.lit 31)
def aJx:E:=.le (.lit 32768) nW
def aJy:E:=.div (.v 13) (.lit 2)
def aEZ:E:=.mod aJy (.lit 2)
def aFa:E:=.eq aEZ (.lit 0)
def aFb:E:=.not aFa
def aFc:E:=.ite aJw aJx aFb
def aFd:E:=.ite aFc (.lit 2) (.lit 0)
def aFe:E:=.add aJv aFd
def aFf:E:=.le (.v 1) (.lit 32767)
def aFg:E:=.ite aFf (.lit 0) (.lit 4)
def aFh:E:=.add aFe aFg
def aFi:E:=.eq nW (.lit 0)
def aFj:E:=.ite aFi (.lit 8) (.lit 0)
def xN:E:=.add aFh aFj
theorem bGJ (ρ:Env) (hH:ctH.ok ρ):E.i ρ nW=sgV 12 (ρ.i.getD 1 0) (E.i ρ cP) (ρ.i.getD 14 0 / 4%2)%65536∧E.i ρ xN=sgF (ρ.i.getD 13 0) 12 (ρ.i.getD 1 0) (E.i ρ cP) (ρ.i.getD 14 0 / 4%2)%64:=by
 obtain ⟨l,t,g,j,f,hr⟩:=ctR ρ hH
 generalize E.i ρ cP=p at *
 simp only [aJq,aJr,aJs,aJt,nW,aJu,aJv,aJw,aJx,aJy,aEZ,aFa,aFb,aFc,aFd,aFe,aFf,aFg,aFh,aFi,aFj,xN,sgm,sgn,sgV,sgF]
 simp only [Int.reduceEq,if_false,if_true]
 simp only [cy1,cy2,sgn]
 clear hH f
 generalize ρ.i.getD 1 0=q at *
 generalize ρ.i.getD 13 0=w at *
 generalize ρ.i.getD 14 0=cc at *
 refine ⟨by omega,?_⟩
 refine (Int.emod_eq_of_lt ?_ ?_).symm <;> (repeat' split) <;> omega
theorem bGx:enter Try.prog SH SHh 3000 40 54 ctH (ctl 12 0) ctM=some ([],.tup [],some (ctw nW (.v 2) xN (.v 14))):=by kernel_rfl
def aJI:E:=.mod (.v 1) (.lit 16384)
def aJJ:E:=.mul aJI (.lit 4)
def qM:E:=.add aJJ (.lit 3)
def aJK:E:=.le qM (.lit 32767)
def aJL:E:=.ite aJK (.lit 0) (.lit 1)
def aJM:E:=.le (.v 13) (.lit 31)
def aJN:E:=.le (.lit 32768) qM
def aJO:E:=.div (.v 13) (.lit 2)
def aJP:E:=.mod aJO (.lit 2)
def aJQ:E:=.eq aJP (.lit 0)
def aFv:E:=.not aJQ
def aFw:E:=.ite aJM aJN aFv
def aFx:E:=.ite aFw (.lit 2) (.lit 0)
def xP:E:=.add aJL aFx
theorem bGL (ρ:Env) (hH:ctH.ok ρ):E.i ρ qM=sgV 13 (ρ.i.getD 1 0) (E.i ρ cP) (ρ.i.getD 14 0 / 4%2)%65536∧E.i ρ xP=sgF (ρ.i.getD 13 0) 13 (ρ.i.getD 1 0) (E.i ρ cP) (ρ.i.getD 14 0 / 4%2)%64:=by
 obtain ⟨l,t,g,j,f,hr⟩:=ctR ρ hH
 generalize E.i ρ cP=p at *
 simp only [aJI,aJJ,qM,aJK,aJL,aJM,aJN,aJO,aJP,aJQ,aFv,aFw,aFx,xP,sgm,sgn,sgV,sgF]
 simp only [Int.reduceEq,if_false,if_true]
 simp only [cy1,cy2,sgn]
 clear hH f
 generalize ρ.i.getD 1 0=q at *
 generalize ρ.i.getD 13 0=w at *
 generalize ρ.i.getD 14 0=cc at *
 refine ⟨by omega,?_⟩
 refine (Int.emod_eq_of_lt ?_ ?_).symm <;> (repeat' split) <;> omega
theorem bGz:enter Try.prog SH SHh 3000 40 54 ctH (ctl 13 0) ctM=some ([],.tup [],some (ctw qM (.v 2) xP (.v 14))):=by kernel_rfl
def aKa:E:=.mod (.v 1) (.lit 4096)
def aKb:E:=.mul aKa (.lit 16)
def qO:E:=.add aKb (.lit 15)
def aKc:E:=.le qO (.lit 32767)
def aKd:E:=.ite aKc (.lit 0) (.lit 1)
def aKe:E:=.le (.v 13) (.lit 31)
def aKf:E:=.le (.lit 32768) qO
def aKg:E:=.div (.v 13) (.lit 2)
def aKh:E:=.mod aKg (.lit 2)
def aKi:E:=.eq aKh (.lit 0)
def aFB:E:=.not aKi
def aFC:E:=.ite aKe aKf aFB
def aFD:E:=.ite aFC (.lit 2) (.lit 0)
def xR:E:=.add aKd aFD
theorem bGN (ρ:Env) (hH:ctH.ok ρ):E.i ρ qO=sgV 14 (ρ.i.getD 1 0) (E.i ρ cP) (ρ.i.getD 14 0 / 4%2)%65536∧E.i ρ xR=sgF (ρ.i.getD 13 0) 14 (ρ.i.getD 1 0) (E.i ρ cP) (ρ.i.getD 14 0 / 4%2)%64:=by
 obtain ⟨l,t,g,j,f,hr⟩:=ctR ρ hH
 generalize E.i ρ cP=p at *
 simp only [aKa,aKb,qO,aKc,aKd,aKe,aKf,aKg,aKh,aKi,aFB,aFC,aFD,xR,sgm,sgn,sgV,sgF]
 simp only [Int.reduceEq,if_false,if_true]
 simp only [cy1,cy2,sgn]
 clear hH f
 generalize ρ.i.getD 1 0=q at *
 generalize ρ.i.getD 13 0=w at *
 generalize ρ.i.getD 14 0=cc at *
 refine ⟨by omega,?_⟩
 refine (Int.emod_eq_of_lt ?_ ?_).symm <;> (repeat' split) <;> omega
theorem bGB:enter Try.prog SH SHh 3000 40 54 ctH (ctl 14 0) ctM=some ([],.tup [],some (ctw qO (.v 2) xR (.v 14))):=by kernel_rfl
def aKs:E:=.mod (.v 1) (.lit 256)
def aKt:E:=.mul aKs (.lit 256)
def aKu:E:=.div (.v 1) (.lit 256)
def nY:E:=.add aKt aKu
def aKv:E:=.le nY (.lit 32767)
def aKw:E:=.ite aKv (.lit 0) (.lit 1)
def aKx:E:=.le (.v 13) (.lit 31)
def aKy:E:=.le (.lit 32768) nY
def aKz:E:=.div (.v 13) (.lit 2)
def aKA:E:=.mod aKz (.lit 2)
def aFH:E:=.eq aKA (.lit 0)
def aFI:E:=.not aFH
def aFJ:E:=.ite aKx aKy aFI
def aFK:E:=.ite aFJ (.lit 2) (.lit 0)
def aFL:E:=.add aKw aFK
def aFM:E:=.eq nY (.lit 0)
def aFN:E:=.ite aFM (.lit 8) (.lit 0)
def xT:E:=.add aFL aFN
theorem bGP (ρ:Env) (hH:ctH.ok ρ):E.i ρ nY=sgV 15 (ρ.i.getD 1 0) (E.i ρ cP) (ρ.i.getD 14 0 / 4%2)%65536∧E.i ρ xT=sgF (ρ.i.getD 13 0) 15 (ρ.i.getD 1 0) (E.i ρ cP) (ρ.i.getD 14 0 / 4%2)%64:=by
 obtain ⟨l,t,g,j,f,hr⟩:=ctR ρ hH
 generalize E.i ρ cP=p at *
 simp only [aKs,aKt,aKu,nY,aKv,aKw,aKx,aKy,aKz,aKA,aFH,aFI,aFJ,aFK,aFL,aFM,aFN,xT,sgm,sgn,sgV,sgF]
 simp only [Int.reduceEq,if_false,if_true]
 simp only [cy1,cy2,sgn]
 clear hH f
 generalize ρ.i.getD 1 0=q at *
 generalize ρ.i.getD 13 0=w at *
 generalize ρ.i.getD 14 0=cc at *
 refine ⟨by omega,?_⟩
 refine (Int.emod_eq_of_lt ?_ ?_).symm <;> (repeat' split) <;> omega
theorem bGD:enter Try.prog SH SHh 3000 40 54 ctH (ctl 15 0) ctM=some ([],.tup [],some (ctw nY (.v 2) xT (.v 14))):=by kernel_rfl
theorem tM (xs:Nat→Nat→Ext) (ρ:Env) (hI:ρ.I=Iv xs) (k:Int) (hk:E.i ρ (.v 19)=k) (ha:E.i ρ (.v 20)=1) (V F:E) (h:E.i ρ V=sgV k (ρ.i.getD 2 0) (E.i ρ cP) (ρ.i.getD 13 0 / 4%2)%65536∧E.i ρ F=sgF (ρ.i.getD 14 0) k (ρ.i.getD 2 0) (E.i ρ cP) (ρ.i.getD 13 0 / 4%2)%64):mR ρ ρ (ctw (.v 1) V (.v 13) F) ctO:=by
 obtain ⟨t1,t2,t3,t4⟩:=ctT1 xs ρ hI k hk ha
 exact ctwE ρ _ _ _ _ t3.symm (h.1.trans t1.symm) t4.symm (h.2.trans t2.symm)
theorem bMF (ρ:Env) (hH:ctH.ok ρ):E.i ρ (.v 2)=sgV 0 (ρ.i.getD 2 0) (E.i ρ cP) (ρ.i.getD 13 0 / 4%2)%65536∧E.i ρ (.v 14)=sgF (ρ.i.getD 14 0) 0 (ρ.i.getD 2 0) (E.i ρ cP) (ρ.i.getD 13 0 / 4%2)%64:=by
 obtain ⟨l,t,g,j,_⟩:=ctR ρ hH
 rw [show sgV 0 (ρ.i.getD 2 0) (E.i ρ cP) _=ρ.i.getD 2 0 from rfl,show sgF (ρ.i.getD 14 0) 0 (ρ.i.getD 2 0) (E.i ρ cP) _=ρ.i.getD 14 0 from rfl,i_v,i_v];omega
theorem bMl:enter Try.prog SH SHh 3000 40 54 ctH (ctl 0 1) ctM=some ([],.tup [],none):=by kernel_rfl
def aVL:E:=.eq (.v 18) (.lit 0)
def aVM:E:=.sel (.av 2) (.v 5)
def aVN:E:=.eq (.v 18) (.lit 1)
def aVO:E:=.eq (.v 18) (.lit 2)
def aVP:E:=.ite aVO (.v 9) (.v 10)
def aVQ:E:=.ite aVN (.v 16) aVP
def aHc:E:=.ite aVL aVM aVQ
def sJ:E:=.bits .or .u16 (.v 2) aHc
def aVR:E:=.le sJ (.lit 32767)
def aVS:E:=.ite aVR (.lit 0) (.lit 1)
def aKV:E:=.le (.v 14) (.lit 31)
def aKW:E:=.le (.lit 32768) sJ
def aKX:E:=.div (.v 14) (.lit 2)
def aKY:E:=.mod aKX (.lit 2)
def aKZ:E:=.eq aKY (.lit 0)
def aLa:E:=.not aKZ
def aLb:E:=.ite aKV aKW aLa
def aLc:E:=.ite aLb (.lit 2) (.lit 0)
def aLd:E:=.add aVS aLc
def aLe:E:=.eq sJ (.lit 0)
def aLf:E:=.ite aLe (.lit 8) (.lit 0)
def aBg:E:=.add aLd aLf
theorem bMH (ρ:Env) (hH:ctH.ok ρ):E.i ρ sJ=sgV 1 (ρ.i.getD 2 0) (E.i ρ cP) (ρ.i.getD 13 0 / 4%2)%65536∧E.i ρ aBg=sgF (ρ.i.getD 14 0) 1 (ρ.i.getD 2 0) (E.i ρ cP) (ρ.i.getD 13 0 / 4%2)%64:=by
 obtain ⟨l,t,g,j,f,hr⟩:=ctR ρ hH
 have hp:E.i ρ aHc=E.i ρ cP:=by
  simp only [aVL,aVM,aVN,aVO,aVP,aVQ,aHc,cP,sgm,sgn]
  (try (generalize ρ.i.getD 18 0=w at *;rcases (show w=0∨w=1∨w=2∨w=3 by omega) with h | h | h | h <;> subst h <;> simp))
 generalize E.i ρ cP=p at *
 simp only [sJ,aVR,aVS,aKV,aKW,aKX,aKY,aKZ,aLa,aLb,aLc,aLd,aLe,aLf,aBg,sgm,sgn,hp,sgV,sgF]
 simp only [Int.reduceEq,if_false,if_true]
 simp only [cy1,cy2,sgn]
 clear hH hp f
 generalize ρ.i.getD 2 0=q at *
 generalize ρ.i.getD 14 0=w at *
 generalize ρ.i.getD 13 0=cc at *
 have hb:=aEs .or (by simp) q p t hr
 generalize aN .or .u16 q p=x at *
 refine ⟨by omega,?_⟩
 refine (Int.emod_eq_of_lt ?_ ?_).symm <;> (repeat' split) <;> omega
theorem bMn:enter Try.prog SH SHh 3000 40 54 ctH (ctl 1 1) ctM=some ([],.tup [],some (ctw (.v 1) sJ (.v 13) aBg)):=by kernel_rfl
def aWb:E:=.eq (.v 18) (.lit 0)
def aWc:E:=.sel (.av 2) (.v 5)
def aWd:E:=.eq (.v 18) (.lit 1)
def aWe:E:=.eq (.v 18) (.lit 2)
def aWf:E:=.ite aWe (.v 9) (.v 10)
def aWg:E:=.ite aWd (.v 16) aWf
def aHe:E:=.ite aWb aWc aWg
def sL:E:=.bits .and .u16 (.v 2) aHe
def aWh:E:=.le sL (.lit 32767)
def aWi:E:=.ite aWh (.lit 0) (.lit 1)
def aLr:E:=.le (.v 14) (.lit 31)
def aLs:E:=.le (.lit 32768) sL
def aLt:E:=.div (.v 14) (.lit 2)
def aLu:E:=.mod aLt (.lit 2)
def aLv:E:=.eq aLu (.lit 0)
def aLw:E:=.not aLv
def aLx:E:=.ite aLr aLs aLw
def aLy:E:=.ite aLx (.lit 2) (.lit 0)
def aLz:E:=.add aWi aLy
def aLA:E:=.eq sL (.lit 0)
def aLB:E:=.ite aLA (.lit 8) (.lit 0)
def aBi:E:=.add aLz aLB
theorem bMJ (ρ:Env) (hH:ctH.ok ρ):E.i ρ sL=sgV 2 (ρ.i.getD 2 0) (E.i ρ cP) (ρ.i.getD 13 0 / 4%2)%65536∧E.i ρ aBi=sgF (ρ.i.getD 14 0) 2 (ρ.i.getD 2 0) (E.i ρ cP) (ρ.i.getD 13 0 / 4%2)%64:=by
 obtain ⟨l,t,g,j,f,hr⟩:=ctR ρ hH
 have hp:E.i ρ aHe=E.i ρ cP:=by
  simp only [aWb,aWc,aWd,aWe,aWf,aWg,aHe,cP,sgm,sgn]
  (try (generalize ρ.i.getD 18 0=w at *;rcases (show w=0∨w=1∨w=2∨w=3 by omega) with h | h | h | h <;> subst h <;> simp))
 generalize E.i ρ cP=p at *
 simp only [sL,aWh,aWi,aLr,aLs,aLt,aLu,aLv,aLw,aLx,aLy,aLz,aLA,aLB,aBi,sgm,sgn,hp,sgV,sgF]
 simp only [Int.reduceEq,if_false,if_true]
 simp only [cy1,cy2,sgn]
 clear hH hp f
 generalize ρ.i.getD 2 0=q at *
 generalize ρ.i.getD 14 0=w at *
 generalize ρ.i.getD 13 0=cc at *
 have hb:=aEs .and (by simp) q p t hr
 generalize aN .and .u16 q p=x at *
 refine ⟨by omega,?_⟩
 refine (Int.emod_eq_of_lt ?_ ?_).symm <;> (repeat' split) <;> omega
theorem bMp:enter Try.prog SH SHh 3000 40 54 ctH (ctl 2 1) ctM=some ([],.tup [],some (ctw (.v 1) sL (.v 13) aBi)):=by kernel_rfl
def aWr:E:=.eq (.v 18) (.lit 0)
def aWs:E:=.sel (.av 2) (.v 5)
def aWt:E:=.eq (.v 18) (.lit 1)
def aWu:E:=.eq (.v 18) (.lit 2)
def aWv:E:=.ite aWu (.v 9) (.v 10)
def aWw:E:=.ite aWt (.v 16) aWv
def aHg:E:=.ite aWr aWs aWw
def sN:E:=.bits .xor .u16 (.v 2) aHg
def aWx:E:=.le sN (.lit 32767)
def aWy:E:=.ite aWx (.lit 0) (.lit 1)
def aLN:E:=.le (.v 14) (.lit 31)
def aLO:E:=.le (.lit 32768) sN
def aLP:E:=.div (.v 14) (.lit 2)
def aLQ:E:=.mod aLP (.lit 2)
def aLR:E:=.eq aLQ (.lit 0)
def aLS:E:=.not aLR
def aLT:E:=.ite aLN aLO aLS
def aLU:E:=.ite aLT (.lit 2) (.lit 0)
def aLV:E:=.add aWy aLU
def aLW:E:=.eq sN (.lit 0)
def aLX:E:=.ite aLW (.lit 8) (.lit 0)
def aBk:E:=.add aLV aLX
theorem bML (ρ:Env) (hH:ctH.ok ρ):E.i ρ sN=sgV 3 (ρ.i.getD 2 0) (E.i ρ cP) (ρ.i.getD 13 0 / 4%2)%65536∧E.i ρ aBk=sgF (ρ.i.getD 14 0) 3 (ρ.i.getD 2 0) (E.i ρ cP) (ρ.i.getD 13 0 / 4%2)%64:=by
 obtain ⟨l,t,g,j,f,hr⟩:=ctR ρ hH
 have hp:E.i ρ aHg=E.i ρ cP:=by
  simp only [aWr,aWs,aWt,aWu,aWv,aWw,aHg,cP,sgm,sgn]
  (try (generalize ρ.i.getD 18 0=w at *;rcases (show w=0∨w=1∨w=2∨w=3 by omega) with h | h | h | h <;> subst h <;> simp))
 generalize E.i ρ cP=p at *
 simp only [sN,aWx,aWy,aLN,aLO,aLP,aLQ,aLR,aLS,aLT,aLU,aLV,aLW,aLX,aBk,sgm,sgn,hp,sgV,sgF]
 simp only [Int.reduceEq,if_false,if_true]
 simp only [cy1,cy2,sgn]
 clear hH hp f
 generalize ρ.i.getD 2 0=q at *
 generalize ρ.i.getD 14 0=w at *
 generalize ρ.i.getD 13 0=cc at *
 have hb:=aEs .xor (by simp) q p t hr
 generalize aN .xor .u16 q p=x at *
 refine ⟨by omega,?_⟩
 refine (Int.emod_eq_of_lt ?_ ?_).symm <;> (repeat' split) <;> omega
theorem bMr:enter Try.prog SH SHh 3000 40 54 ctH (ctl 3 1) ctM=some ([],.tup [],some (ctw (.v 1) sN (.v 13) aBk)):=by kernel_rfl
def aWG:E:=.eq (.v 18) (.lit 0)
def aWH:E:=.sel (.av 2) (.v 5)
def aWI:E:=.eq (.v 18) (.lit 1)
def aWJ:E:=.eq (.v 18) (.lit 2)
def aWK:E:=.ite aWJ (.v 9) (.v 10)
def aWL:E:=.ite aWI (.v 16) aWK
def pA:E:=.ite aWG aWH aWL
def aHi:E:=.sub (.v 2) pA
def aAi:E:=.mod aHi (.lit 65536)
def aWM:E:=.div aHi (.lit 32768)
def aBq:E:=.mod aWM (.lit 2)
def aBr:E:=.le (.v 14) (.lit 31)
def aMA:E:=.eq aBq (.lit 0)
def aMB:E:=.not aMA
def aMC:E:=.div (.v 14) (.lit 2)
def aMD:E:=.mod aMC (.lit 2)
def aME:E:=.eq aMD (.lit 0)
def aMF:E:=.not aME
def aMG:E:=.ite aBr aMB aMF
def aMH:E:=.ite aMG (.lit 2) (.lit 0)
def aMI:E:=.add aBq aMH
def aMJ:E:=.lt (.v 2) pA
def aMK:E:=.ite aMJ (.lit 4) (.lit 0)
def aML:E:=.add aMI aMK
def aMM:E:=.eq aAi (.lit 0)
def aMN:E:=.ite aMM (.lit 8) (.lit 0)
def aMO:E:=.add aML aMN
def aMP:E:=.le (.v 2) (.lit 32767)
def aMQ:E:=.add (.v 2) (.lit (-65536))
def aMR:E:=.ite aMP (.v 2) aMQ
def aMS:E:=.le pA (.lit 32767)
def aMT:E:=.add pA (.lit (-65536))
def aMU:E:=.ite aMS pA aMT
def aBs:E:=.sub aMR aMU
def aMV:E:=.le (.lit 32768) aBs
def aMW:E:=.le aBs (.lit (-32769))
def aBt:E:=.or aMV aMW
def aMX:E:=.ite aBt (.lit 16) (.lit 0)
def aMY:E:=.add aMO aMX
def aMZ:E:=.le (.lit 32) (.v 14)
def aNa:E:=.ite aBt aBr aMZ
def aNb:E:=.ite aNa (.lit 32) (.lit 0)
def aBu:E:=.add aMY aNb
theorem bMN (ρ:Env) (hH:ctH.ok ρ):E.i ρ aAi=sgV 4 (ρ.i.getD 2 0) (E.i ρ cP) (ρ.i.getD 13 0 / 4%2)%65536∧E.i ρ aBu=sgF (ρ.i.getD 14 0) 4 (ρ.i.getD 2 0) (E.i ρ cP) (ρ.i.getD 13 0 / 4%2)%64:=by
 obtain ⟨l,t,g,j,f,hr⟩:=ctR ρ hH
 have hp:E.i ρ pA=E.i ρ cP:=by
  simp only [aWG,aWH,aWI,aWJ,aWK,aWL,pA,cP,sgm,sgn]
  (try (generalize ρ.i.getD 18 0=w at *;rcases (show w=0∨w=1∨w=2∨w=3 by omega) with h | h | h | h <;> subst h <;> simp))
 generalize E.i ρ cP=p at *
 simp only [aHi,aAi,aWM,aBq,aBr,aMA,aMB,aMC,aMD,aME,aMF,aMG,aMH,aMI,aMJ,aMK,aML,aMM,aMN,aMO,aMP,aMQ,aMR,aMS,aMT,aMU,aBs,aMV,aMW,aBt,aMX,aMY,aMZ,aNa,aNb,aBu,sgm,sgn,hp,sgV,sgF]
 simp only [Int.reduceEq,if_false,if_true]
 simp only [cy1,cy2,sgn]
 clear hH hp f
 generalize ρ.i.getD 2 0=q at *
 generalize ρ.i.getD 14 0=w at *
 generalize ρ.i.getD 13 0=cc at *
 refine ⟨by omega,?_⟩
 refine (Int.emod_eq_of_lt ?_ ?_).symm <;> (repeat' split) <;> omega
theorem bMt:enter Try.prog SH SHh 3000 40 54 ctH (ctl 4 1) ctM=some ([],.tup [],some (ctw (.v 1) aAi (.v 13) aBu)):=by kernel_rfl
def aWU:E:=.eq (.v 18) (.lit 0)
def aWV:E:=.sel (.av 2) (.v 5)
def aWW:E:=.eq (.v 18) (.lit 1)
def aWX:E:=.eq (.v 18) (.lit 2)
def aWY:E:=.ite aWX (.v 9) (.v 10)
def aWZ:E:=.ite aWW (.v 16) aWY
def sP:E:=.ite aWU aWV aWZ
def aAl:E:=.add (.v 2) sP
def aAm:E:=.mod aAl (.lit 65536)
def aXa:E:=.div aAl (.lit 32768)
def aBA:E:=.mod aXa (.lit 2)
def aBB:E:=.le (.v 14) (.lit 31)
def aNE:E:=.eq aBA (.lit 0)
def aNF:E:=.not aNE
def aNG:E:=.div (.v 14) (.lit 2)
def aNH:E:=.mod aNG (.lit 2)
def aNI:E:=.eq aNH (.lit 0)
def aNJ:E:=.not aNI
def aNK:E:=.ite aBB aNF aNJ
def aNL:E:=.ite aNK (.lit 2) (.lit 0)
def aNM:E:=.add aBA aNL
def aNN:E:=.le aAl (.lit 65535)
def aNO:E:=.ite aNN (.lit 0) (.lit 4)
def aNP:E:=.add aNM aNO
def aNQ:E:=.eq aAm (.lit 0)
def aNR:E:=.ite aNQ (.lit 8) (.lit 0)
def aNS:E:=.add aNP aNR
def aNT:E:=.le (.v 2) (.lit 32767)
def aNU:E:=.add (.v 2) (.lit (-65536))
def aNV:E:=.ite aNT (.v 2) aNU
def aNW:E:=.le sP (.lit 32767)
def aNX:E:=.add sP (.lit (-65536))
def aNY:E:=.ite aNW sP aNX
def aBC:E:=.add aNV aNY
def aNZ:E:=.le (.lit 32768) aBC
def aOa:E:=.le aBC (.lit (-32769))
def aBD:E:=.or aNZ aOa
def aOb:E:=.ite aBD (.lit 16) (.lit 0)
def aOc:E:=.add aNS aOb
def aOd:E:=.le (.lit 32) (.v 14)
def aOe:E:=.ite aBD aBB aOd
def aOf:E:=.ite aOe (.lit 32) (.lit 0)
def aBE:E:=.add aOc aOf
theorem bMP (ρ:Env) (hH:ctH.ok ρ):E.i ρ aAm=sgV 5 (ρ.i.getD 2 0) (E.i ρ cP) (ρ.i.getD 13 0 / 4%2)%65536∧E.i ρ aBE=sgF (ρ.i.getD 14 0) 5 (ρ.i.getD 2 0) (E.i ρ cP) (ρ.i.getD 13 0 / 4%2)%64:=by
 obtain ⟨l,t,g,j,f,hr⟩:=ctR ρ hH
 have hp:E.i ρ sP=E.i ρ cP:=by
  simp only [aWU,aWV,aWW,aWX,aWY,aWZ,sP,cP,sgm,sgn]
  (try (generalize ρ.i.getD 18 0=w at *;rcases (show w=0∨w=1∨w=2∨w=3 by omega) with h | h | h | h <;> subst h <;> simp))
 generalize E.i ρ cP=p at *
 simp only [aAl,aAm,aXa,aBA,aBB,aNE,aNF,aNG,aNH,aNI,aNJ,aNK,aNL,aNM,aNN,aNO,aNP,aNQ,aNR,aNS,aNT,aNU,aNV,aNW,aNX,aNY,aBC,aNZ,aOa,aBD,aOb,aOc,aOd,aOe,aOf,aBE,sgm,sgn,hp,sgV,sgF]
 simp only [Int.reduceEq,if_false,if_true]
 simp only [cy1,cy2,sgn]
 clear hH hp f
 generalize ρ.i.getD 2 0=q at *
 generalize ρ.i.getD 14 0=w at *
 generalize ρ.i.getD 13 0=cc at *
 refine ⟨by omega,?_⟩
 refine (Int.emod_eq_of_lt ?_ ?_).symm <;> (repeat' split) <;> omega
theorem bMv:enter Try.prog SH SHh 3000 40 54 ctH (ctl 5 1) ctM=some ([],.tup [],some (ctw (.v 1) aAm (.v 13) aBE)):=by kernel_rfl
def aXj:E:=.eq (.v 18) (.lit 0)
def aXk:E:=.sel (.av 2) (.v 5)
def aXl:E:=.eq (.v 18) (.lit 1)
def aXm:E:=.eq (.v 18) (.lit 2)
def aXn:E:=.ite aXm (.v 9) (.v 10)
def aXo:E:=.ite aXl (.v 16) aXn
def pC:E:=.ite aXj aXk aXo
def aXp:E:=.sub (.v 2) pC
def aXq:E:=.div (.v 13) (.lit 4)
def aHk:E:=.mod aXq (.lit 2)
def aBL:E:=.sub aXp aHk
def vQ:E:=.mod aBL (.lit 65536)
def aOK:E:=.div aBL (.lit 32768)
def aBM:E:=.mod aOK (.lit 2)
def aBN:E:=.le (.v 14) (.lit 31)
def aOL:E:=.eq aBM (.lit 0)
def aOM:E:=.not aOL
def aON:E:=.div (.v 14) (.lit 2)
def aOO:E:=.mod aON (.lit 2)
def aOP:E:=.eq aOO (.lit 0)
def aOQ:E:=.not aOP
def aOR:E:=.ite aBN aOM aOQ
def aOS:E:=.ite aOR (.lit 2) (.lit 0)
def aOT:E:=.add aBM aOS
def aOU:E:=.add pC aHk
def aOV:E:=.lt (.v 2) aOU
def aOW:E:=.ite aOV (.lit 4) (.lit 0)
def aOX:E:=.add aOT aOW
def aOY:E:=.eq vQ (.lit 0)
def aOZ:E:=.ite aOY (.lit 8) (.lit 0)
def aPa:E:=.add aOX aOZ
def aPb:E:=.le (.v 2) (.lit 32767)
def aPc:E:=.add (.v 2) (.lit (-65536))
def aPd:E:=.ite aPb (.v 2) aPc
def aPe:E:=.le pC (.lit 32767)
def aPf:E:=.add pC (.lit (-65536))
def aPg:E:=.ite aPe pC aPf
def aBO:E:=.sub aPd aPg
def aPh:E:=.le (.lit 32768) aBO
def aPi:E:=.le aBO (.lit (-32769))
def aBP:E:=.or aPh aPi
def aPj:E:=.ite aBP (.lit 16) (.lit 0)
def aPk:E:=.add aPa aPj
def aPl:E:=.le (.lit 32) (.v 14)
def aPm:E:=.ite aBP aBN aPl
def aPn:E:=.ite aPm (.lit 32) (.lit 0)
def aBQ:E:=.add aPk aPn
theorem bMR (ρ:Env) (hH:ctH.ok ρ):E.i ρ vQ=sgV 6 (ρ.i.getD 2 0) (E.i ρ cP) (ρ.i.getD 13 0 / 4%2)%65536∧E.i ρ aBQ=sgF (ρ.i.getD 14 0) 6 (ρ.i.getD 2 0) (E.i ρ cP) (ρ.i.getD 13 0 / 4%2)%64:=by
 obtain ⟨l,t,g,j,f,hr⟩:=ctR ρ hH
 have hp:E.i ρ pC=E.i ρ cP:=by
  simp only [aXj,aXk,aXl,aXm,aXn,aXo,pC,cP,sgm,sgn]
  (try (generalize ρ.i.getD 18 0=w at *;rcases (show w=0∨w=1∨w=2∨w=3 by omega) with h | h | h | h <;> subst h <;> simp))
 generalize E.i ρ cP=p at *
 simp only [aXp,aXq,aHk,aBL,vQ,aOK,aBM,aBN,aOL,aOM,aON,aOO,aOP,aOQ,aOR,aOS,aOT,aOU,aOV,aOW,aOX,aOY,aOZ,aPa,aPb,aPc,aPd,aPe,aPf,aPg,aBO,aPh,aPi,aBP,aPj,aPk,aPl,aPm,aPn,aBQ,sgm,sgn,hp,sgV,sgF]
 simp only [Int.reduceEq,if_false,if_true]
 simp only [cy1,cy2,sgn]
 clear hH hp f
 generalize ρ.i.getD 2 0=q at *
 generalize ρ.i.getD 14 0=w at *
 generalize ρ.i.getD 13 0=cc at *
 refine ⟨by omega,?_⟩
 refine (Int.emod_eq_of_lt ?_ ?_).symm <;> (repeat' split) <;> omega
theorem bMx:enter Try.prog SH SHh 3000 40 54 ctH (ctl 6 1) ctM=some ([],.tup [],some (ctw (.v 1) vQ (.v 13) aBQ)):=by kernel_rfl
def aXA:E:=.eq (.v 18) (.lit 0)
def aXB:E:=.sel (.av 2) (.v 5)
def aXC:E:=.eq (.v 18) (.lit 1)
def aXD:E:=.eq (.v 18) (.lit 2)
def aXE:E:=.ite aXD (.v 9) (.v 10)
def aXF:E:=.ite aXC (.v 16) aXE
def sR:E:=.ite aXA aXB aXF
def aXG:E:=.add (.v 2) sR
def aXH:E:=.div (.v 13) (.lit 4)
def aXI:E:=.mod aXH (.lit 2)
def vT:E:=.add aXG aXI
def vU:E:=.mod vT (.lit 65536)
def aPR:E:=.div vT (.lit 32768)
def aBW:E:=.mod aPR (.lit 2)
def aBX:E:=.le (.v 14) (.lit 31)
def aPS:E:=.eq aBW (.lit 0)
def aPT:E:=.not aPS
def aPU:E:=.div (.v 14) (.lit 2)
def aPV:E:=.mod aPU (.lit 2)
def aPW:E:=.eq aPV (.lit 0)
def aPX:E:=.not aPW
def aPY:E:=.ite aBX aPT aPX
def aPZ:E:=.ite aPY (.lit 2) (.lit 0)
def aQa:E:=.add aBW aPZ
def aQb:E:=.le vT (.lit 65535)
def aQc:E:=.ite aQb (.lit 0) (.lit 4)
def aQd:E:=.add aQa aQc
def aQe:E:=.eq vU (.lit 0)
def aQf:E:=.ite aQe (.lit 8) (.lit 0)
def aQg:E:=.add aQd aQf
def aQh:E:=.le (.v 2) (.lit 32767)
def aQi:E:=.add (.v 2) (.lit (-65536))
def aQj:E:=.ite aQh (.v 2) aQi
def aQk:E:=.le sR (.lit 32767)
def aQl:E:=.add sR (.lit (-65536))
def aQm:E:=.ite aQk sR aQl
def aBY:E:=.add aQj aQm
def aQn:E:=.le (.lit 32768) aBY
def aQo:E:=.le aBY (.lit (-32769))
def aBZ:E:=.or aQn aQo
def aQp:E:=.ite aBZ (.lit 16) (.lit 0)
def aQq:E:=.add aQg aQp
def aQr:E:=.le (.lit 32) (.v 14)
def aQs:E:=.ite aBZ aBX aQr
def aQt:E:=.ite aQs (.lit 32) (.lit 0)
def aCa:E:=.add aQq aQt
theorem bMT (ρ:Env) (hH:ctH.ok ρ):E.i ρ vU=sgV 7 (ρ.i.getD 2 0) (E.i ρ cP) (ρ.i.getD 13 0 / 4%2)%65536∧E.i ρ aCa=sgF (ρ.i.getD 14 0) 7 (ρ.i.getD 2 0) (E.i ρ cP) (ρ.i.getD 13 0 / 4%2)%64:=by
 obtain ⟨l,t,g,j,f,hr⟩:=ctR ρ hH
 have hp:E.i ρ sR=E.i ρ cP:=by
  simp only [aXA,aXB,aXC,aXD,aXE,aXF,sR,cP,sgm,sgn]
  (try (generalize ρ.i.getD 18 0=w at *;rcases (show w=0∨w=1∨w=2∨w=3 by omega) with h | h | h | h <;> subst h <;> simp))
 generalize E.i ρ cP=p at *
 simp only [aXG,aXH,aXI,vT,vU,aPR,aBW,aBX,aPS,aPT,aPU,aPV,aPW,aPX,aPY,aPZ,aQa,aQb,aQc,aQd,aQe,aQf,aQg,aQh,aQi,aQj,aQk,aQl,aQm,aBY,aQn,aQo,aBZ,aQp,aQq,aQr,aQs,aQt,aCa,sgm,sgn,hp,sgV,sgF]
 simp only [Int.reduceEq,if_false,if_true]
 simp only [cy1,cy2,sgn]
 clear hH hp f
 generalize ρ.i.getD 2 0=q at *
 generalize ρ.i.getD 14 0=w at *
 generalize ρ.i.getD 13 0=cc at *
 refine ⟨by omega,?_⟩
 refine (Int.emod_eq_of_lt ?_ ?_).symm <;> (repeat' split) <;> omega
theorem bMz:enter Try.prog SH SHh 3000 40 54 ctH (ctl 7 1) ctM=some ([],.tup [],some (ctw (.v 1) vU (.v 13) aCa)):=by kernel_rfl
def aXQ:E:=.add (.v 2) (.lit 65535)
def aAo:E:=.mod aXQ (.lit 65536)
def aXR:E:=.add (.v 2) (.lit 32767)
def aXS:E:=.div aXR (.lit 32768)
def aXT:E:=.add aXS (.lit 1)
def aHn:E:=.mod aXT (.lit 2)
def aHo:E:=.le (.v 14) (.lit 31)
def aXU:E:=.eq aHn (.lit 0)
def aXV:E:=.not aXU
def aXW:E:=.div (.v 14) (.lit 2)
def aQP:E:=.mod aXW (.lit 2)
def aQQ:E:=.eq aQP (.lit 0)
def aQR:E:=.not aQQ
def aQS:E:=.ite aHo aXV aQR
def aQT:E:=.ite aQS (.lit 2) (.lit 0)
def aQU:E:=.add aHn aQT
def aQV:E:=.le (.v 2) (.lit 0)
def aQW:E:=.ite aQV (.lit 4) (.lit 0)
def aQX:E:=.add aQU aQW
def aQY:E:=.eq aAo (.lit 0)
def aQZ:E:=.ite aQY (.lit 8) (.lit 0)
def aRa:E:=.add aQX aQZ
def aRb:E:=.le (.v 2) (.lit 32767)
def aRc:E:=.add (.v 2) (.lit (-65536))
def aRd:E:=.ite aRb (.v 2) aRc
def aRe:E:=.add aRd (.lit (-1))
def aCd:E:=.le aRe (.lit (-32769))
def aRf:E:=.ite aCd (.lit 16) (.lit 0)
def aRg:E:=.add aRa aRf
def aRh:E:=.le (.lit 32) (.v 14)
def aRi:E:=.ite aCd aHo aRh
def aRj:E:=.ite aRi (.lit 32) (.lit 0)
def aCe:E:=.add aRg aRj
theorem bMV (ρ:Env) (hH:ctH.ok ρ):E.i ρ aAo=sgV 8 (ρ.i.getD 2 0) (E.i ρ cP) (ρ.i.getD 13 0 / 4%2)%65536∧E.i ρ aCe=sgF (ρ.i.getD 14 0) 8 (ρ.i.getD 2 0) (E.i ρ cP) (ρ.i.getD 13 0 / 4%2)%64:=by
 obtain ⟨l,t,g,j,f,hr⟩:=ctR ρ hH
 generalize E.i ρ cP=p at *
 simp only [aXQ,aAo,aXR,aXS,aXT,aHn,aHo,aXU,aXV,aXW,aQP,aQQ,aQR,aQS,aQT,aQU,aQV,aQW,aQX,aQY,aQZ,aRa,aRb,aRc,aRd,aRe,aCd,aRf,aRg,aRh,aRi,aRj,aCe,sgm,sgn,sgV,sgF]
 simp only [Int.reduceEq,if_false,if_true]
 simp only [cy1,cy2,sgn]
 clear hH f
 generalize ρ.i.getD 2 0=q at *
 generalize ρ.i.getD 14 0=w at *
 generalize ρ.i.getD 13 0=cc at *
 refine ⟨by omega,?_⟩
 refine (Int.emod_eq_of_lt ?_ ?_).symm <;> (repeat' split) <;> omega
theorem bMB:enter Try.prog SH SHh 3000 40 54 ctH (ctl 8 1) ctM=some ([],.tup [],some (ctw (.v 1) aAo (.v 13) aCe)):=by kernel_rfl
def aAr:E:=.add (.v 2) (.lit 1)
def aAs:E:=.mod aAr (.lit 65536)
def aYd:E:=.div aAr (.lit 32768)
def aHr:E:=.mod aYd (.lit 2)
def aHs:E:=.le (.v 14) (.lit 31)
def aYe:E:=.eq aHr (.lit 0)
def aYf:E:=.not aYe
def aYg:E:=.div (.v 14) (.lit 2)
def aYh:E:=.mod aYg (.lit 2)
def aYi:E:=.eq aYh (.lit 0)
def aRE:E:=.not aYi
def aRF:E:=.ite aHs aYf aRE
def aRG:E:=.ite aRF (.lit 2) (.lit 0)
def aRH:E:=.add aHr aRG
def aRI:E:=.le aAr (.lit 65535)
def aRJ:E:=.ite aRI (.lit 0) (.lit 4)
def aRK:E:=.add aRH aRJ
def aRL:E:=.eq aAs (.lit 0)
def aRM:E:=.ite aRL (.lit 8) (.lit 0)
def aRN:E:=.add aRK aRM
def aRO:E:=.le (.v 2) (.lit 32767)
def aRP:E:=.add (.v 2) (.lit (-65536))
def aRQ:E:=.ite aRO (.v 2) aRP
def aCi:E:=.add aRQ (.lit 1)
def aRR:E:=.le (.lit 32768) aCi
def aRS:E:=.le aCi (.lit (-32769))
def aCj:E:=.or aRR aRS
def aRT:E:=.ite aCj (.lit 16) (.lit 0)
def aRU:E:=.add aRN aRT
def aRV:E:=.le (.lit 32) (.v 14)
def aRW:E:=.ite aCj aHs aRV
def aRX:E:=.ite aRW (.lit 32) (.lit 0)
def aCk:E:=.add aRU aRX
theorem bMX (ρ:Env) (hH:ctH.ok ρ):E.i ρ aAs=sgV 9 (ρ.i.getD 2 0) (E.i ρ cP) (ρ.i.getD 13 0 / 4%2)%65536∧E.i ρ aCk=sgF (ρ.i.getD 14 0) 9 (ρ.i.getD 2 0) (E.i ρ cP) (ρ.i.getD 13 0 / 4%2)%64:=by
 obtain ⟨l,t,g,j,f,hr⟩:=ctR ρ hH
 generalize E.i ρ cP=p at *
 simp only [aAr,aAs,aYd,aHr,aHs,aYe,aYf,aYg,aYh,aYi,aRE,aRF,aRG,aRH,aRI,aRJ,aRK,aRL,aRM,aRN,aRO,aRP,aRQ,aCi,aRR,aRS,aCj,aRT,aRU,aRV,aRW,aRX,aCk,sgm,sgn,sgV,sgF]
 simp only [Int.reduceEq,if_false,if_true]
 simp only [cy1,cy2,sgn]
 clear hH f
 generalize ρ.i.getD 2 0=q at *
 generalize ρ.i.getD 14 0=w at *
 generalize ρ.i.getD 13 0=cc at *
 refine ⟨by omega,?_⟩
 refine (Int.emod_eq_of_lt ?_ ?_).symm <;> (repeat' split) <;> omega
theorem bMD:enter Try.prog SH SHh 3000 40 54 ctH (ctl 9 1) ctM=some ([],.tup [],some (ctw (.v 1) aAs (.v 13) aCk)):=by kernel_rfl
def nT:E:=.sub (.lit 65535) (.v 2)
def aIP:E:=.le nT (.lit 32767)
def aIQ:E:=.ite aIP (.lit 0) (.lit 1)
def aIR:E:=.le (.v 14) (.lit 31)
def aIS:E:=.le (.lit 32768) nT
def aIT:E:=.div (.v 14) (.lit 2)
def aIU:E:=.mod aIT (.lit 2)
def aIV:E:=.eq aIU (.lit 0)
def aIW:E:=.not aIV
def aIX:E:=.ite aIR aIS aIW
def aEz:E:=.ite aIX (.lit 2) (.lit 0)
def aEA:E:=.add aIQ aEz
def aEB:E:=.eq nT (.lit 0)
def aEC:E:=.ite aEB (.lit 8) (.lit 0)
def xK:E:=.add aEA aEC
theorem bGG (ρ:Env) (hH:ctH.ok ρ):E.i ρ nT=sgV 10 (ρ.i.getD 2 0) (E.i ρ cP) (ρ.i.getD 13 0 / 4%2)%65536∧E.i ρ xK=sgF (ρ.i.getD 14 0) 10 (ρ.i.getD 2 0) (E.i ρ cP) (ρ.i.getD 13 0 / 4%2)%64:=by
 obtain ⟨l,t,g,j,f,hr⟩:=ctR ρ hH
 generalize E.i ρ cP=p at *
 simp only [nT,aIP,aIQ,aIR,aIS,aIT,aIU,aIV,aIW,aIX,aEz,aEA,aEB,aEC,xK,sgm,sgn,sgV,sgF]
 simp only [Int.reduceEq,if_false,if_true]
 simp only [cy1,cy2,sgn]
 clear hH f
 generalize ρ.i.getD 2 0=q at *
 generalize ρ.i.getD 14 0=w at *
 generalize ρ.i.getD 13 0=cc at *
 refine ⟨by omega,?_⟩
 refine (Int.emod_eq_of_lt ?_ ?_).symm <;> (repeat' split) <;> omega
theorem bGu:enter Try.prog SH SHh 3000 40 54 ctH (ctl 10 1) ctM=some ([],.tup [],some (ctw (.v 1) nT (.v 13) xK)):=by kernel_rfl
def aJh:E:=.div (.v 2) (.lit 2)
def aJi:E:=.div (.v 2) (.lit 32768)
def aJj:E:=.mul aJi (.lit 32768)
def nV:E:=.add aJh aJj
def aJk:E:=.le nV (.lit 32767)
def aJl:E:=.ite aJk (.lit 0) (.lit 1)
def aJm:E:=.le (.v 14) (.lit 31)
def aJn:E:=.le (.lit 32768) nV
def aJo:E:=.div (.v 14) (.lit 2)
def aJp:E:=.mod aJo (.lit 2)
def aEO:E:=.eq aJp (.lit 0)
def aEP:E:=.not aEO
def aEQ:E:=.ite aJm aJn aEP
def aER:E:=.ite aEQ (.lit 2) (.lit 0)
def aES:E:=.add aJl aER
def aET:E:=.mod (.v 2) (.lit 2)
def aEU:E:=.eq aET (.lit 0)
def aEV:E:=.ite aEU (.lit 0) (.lit 4)
def aEW:E:=.add aES aEV
def aEX:E:=.eq nV (.lit 0)
def aEY:E:=.ite aEX (.lit 8) (.lit 0)
def xM:E:=.add aEW aEY
theorem bGI (ρ:Env) (hH:ctH.ok ρ):E.i ρ nV=sgV 11 (ρ.i.getD 2 0) (E.i ρ cP) (ρ.i.getD 13 0 / 4%2)%65536∧E.i ρ xM=sgF (ρ.i.getD 14 0) 11 (ρ.i.getD 2 0) (E.i ρ cP) (ρ.i.getD 13 0 / 4%2)%64:=by
 obtain ⟨l,t,g,j,f,hr⟩:=ctR ρ hH
 generalize E.i ρ cP=p at *
 simp only [aJh,aJi,aJj,nV,aJk,aJl,aJm,aJn,aJo,aJp,aEO,aEP,aEQ,aER,aES,aET,aEU,aEV,aEW,aEX,aEY,xM,sgm,sgn,sgV,sgF]
 simp only [Int.reduceEq,if_false,if_true]
 simp only [cy1,cy2,sgn]
 clear hH f
 generalize ρ.i.getD 2 0=q at *
 generalize ρ.i.getD 14 0=w at *
 generalize ρ.i.getD 13 0=cc at *
 refine ⟨by omega,?_⟩
 refine (Int.emod_eq_of_lt ?_ ?_).symm <;> (repeat' split) <;> omega
theorem bGw:enter Try.prog SH SHh 3000 40 54 ctH (ctl 11 1) ctM=some ([],.tup [],some (ctw (.v 1) nV (.v 13) xM)):=by kernel_rfl
def aJz:E:=.mod (.v 2) (.lit 32768)
def aJA:E:=.mul aJz (.lit 2)
def aJB:E:=.div (.v 13) (.lit 4)
def aJC:E:=.mod aJB (.lit 2)
def nX:E:=.add aJA aJC
def aJD:E:=.le nX (.lit 32767)
def aJE:E:=.ite aJD (.lit 0) (.lit 1)
def aJF:E:=.le (.v 14) (.lit 31)
def aJG:E:=.le (.lit 32768) nX
def aJH:E:=.div (.v 14) (.lit 2)
def aFk:E:=.mod aJH (.lit 2)
def aFl:E:=.eq aFk (.lit 0)
def aFm:E:=.not aFl
def aFn:E:=.ite aJF aJG aFm
def aFo:E:=.ite aFn (.lit 2) (.lit 0)
def aFp:E:=.add aJE aFo
def aFq:E:=.le (.v 2) (.lit 32767)
def aFr:E:=.ite aFq (.lit 0) (.lit 4)
def aFs:E:=.add aFp aFr
def aFt:E:=.eq nX (.lit 0)
def aFu:E:=.ite aFt (.lit 8) (.lit 0)
def xO:E:=.add aFs aFu
theorem bGK (ρ:Env) (hH:ctH.ok ρ):E.i ρ nX=sgV 12 (ρ.i.getD 2 0) (E.i ρ cP) (ρ.i.getD 13 0 / 4%2)%65536∧E.i ρ xO=sgF (ρ.i.getD 14 0) 12 (ρ.i.getD 2 0) (E.i ρ cP) (ρ.i.getD 13 0 / 4%2)%64:=by
 obtain ⟨l,t,g,j,f,hr⟩:=ctR ρ hH
 generalize E.i ρ cP=p at *
 simp only [aJz,aJA,aJB,aJC,nX,aJD,aJE,aJF,aJG,aJH,aFk,aFl,aFm,aFn,aFo,aFp,aFq,aFr,aFs,aFt,aFu,xO,sgm,sgn,sgV,sgF]
 simp only [Int.reduceEq,if_false,if_true]
 simp only [cy1,cy2,sgn]
 clear hH f
 generalize ρ.i.getD 2 0=q at *
 generalize ρ.i.getD 14 0=w at *
 generalize ρ.i.getD 13 0=cc at *
 refine ⟨by omega,?_⟩
 refine (Int.emod_eq_of_lt ?_ ?_).symm <;> (repeat' split) <;> omega
theorem bGy:enter Try.prog SH SHh 3000 40 54 ctH (ctl 12 1) ctM=some ([],.tup [],some (ctw (.v 1) nX (.v 13) xO)):=by kernel_rfl
def aJR:E:=.mod (.v 2) (.lit 16384)
def aJS:E:=.mul aJR (.lit 4)
def qN:E:=.add aJS (.lit 3)
def aJT:E:=.le qN (.lit 32767)
def aJU:E:=.ite aJT (.lit 0) (.lit 1)
def aJV:E:=.le (.v 14) (.lit 31)
def aJW:E:=.le (.lit 32768) qN
def aJX:E:=.div (.v 14) (.lit 2)
def aJY:E:=.mod aJX (.lit 2)
def aJZ:E:=.eq aJY (.lit 0)
def aFy:E:=.not aJZ
def aFz:E:=.ite aJV aJW aFy
def aFA:E:=.ite aFz (.lit 2) (.lit 0)
def xQ:E:=.add aJU aFA
theorem bGM (ρ:Env) (hH:ctH.ok ρ):E.i ρ qN=sgV 13 (ρ.i.getD 2 0) (E.i ρ cP) (ρ.i.getD 13 0 / 4%2)%65536∧E.i ρ xQ=sgF (ρ.i.getD 14 0) 13 (ρ.i.getD 2 0) (E.i ρ cP) (ρ.i.getD 13 0 / 4%2)%64:=by
 obtain ⟨l,t,g,j,f,hr⟩:=ctR ρ hH
 generalize E.i ρ cP=p at *
 simp only [aJR,aJS,qN,aJT,aJU,aJV,aJW,aJX,aJY,aJZ,aFy,aFz,aFA,xQ,sgm,sgn,sgV,sgF]
 simp only [Int.reduceEq,if_false,if_true]
 simp only [cy1,cy2,sgn]
 clear hH f
 generalize ρ.i.getD 2 0=q at *
 generalize ρ.i.getD 14 0=w at *
 generalize ρ.i.getD 13 0=cc at *
 refine ⟨by omega,?_⟩
 refine (Int.emod_eq_of_lt ?_ ?_).symm <;> (repeat' split) <;> omega
theorem bGA:enter Try.prog SH SHh 3000 40 54 ctH (ctl 13 1) ctM=some ([],.tup [],some (ctw (.v 1) qN (.v 13) xQ)):=by kernel_rfl
def aKj:E:=.mod (.v 2) (.lit 4096)
def aKk:E:=.mul aKj (.lit 16)
def qP:E:=.add aKk (.lit 15)
def aKl:E:=.le qP (.lit 32767)
def aKm:E:=.ite aKl (.lit 0) (.lit 1)
def aKn:E:=.le (.v 14) (.lit 31)
def aKo:E:=.le (.lit 32768) qP
def aKp:E:=.div (.v 14) (.lit 2)
def aKq:E:=.mod aKp (.lit 2)
def aKr:E:=.eq aKq (.lit 0)
def aFE:E:=.not aKr
def aFF:E:=.ite aKn aKo aFE
def aFG:E:=.ite aFF (.lit 2) (.lit 0)
def xS:E:=.add aKm aFG
theorem bGO (ρ:Env) (hH:ctH.ok ρ):E.i ρ qP=sgV 14 (ρ.i.getD 2 0) (E.i ρ cP) (ρ.i.getD 13 0 / 4%2)%65536∧E.i ρ xS=sgF (ρ.i.getD 14 0) 14 (ρ.i.getD 2 0) (E.i ρ cP) (ρ.i.getD 13 0 / 4%2)%64:=by
 obtain ⟨l,t,g,j,f,hr⟩:=ctR ρ hH
 generalize E.i ρ cP=p at *
 simp only [aKj,aKk,qP,aKl,aKm,aKn,aKo,aKp,aKq,aKr,aFE,aFF,aFG,xS,sgm,sgn,sgV,sgF]
 simp only [Int.reduceEq,if_false,if_true]
 simp only [cy1,cy2,sgn]
 clear hH f
 generalize ρ.i.getD 2 0=q at *
 generalize ρ.i.getD 14 0=w at *
 generalize ρ.i.getD 13 0=cc at *
 refine ⟨by omega,?_⟩
 refine (Int.emod_eq_of_lt ?_ ?_).symm <;> (repeat' split) <;> omega
theorem bGC:enter Try.prog SH SHh 3000 40 54 ctH (ctl 14 1) ctM=some ([],.tup [],some (ctw (.v 1) qP (.v 13) xS)):=by kernel_rfl
def aKB:E:=.mod (.v 2) (.lit 256)
def aKC:E:=.mul aKB (.lit 256)
def aKD:E:=.div (.v 2) (.lit 256)
def nZ:E:=.add aKC aKD
def aKE:E:=.le nZ (.lit 32767)
def aKF:E:=.ite aKE (.lit 0) (.lit 1)
def aKG:E:=.le (.v 14) (.lit 31)
def aKH:E:=.le (.lit 32768) nZ
def aKI:E:=.div (.v 14) (.lit 2)
def aKJ:E:=.mod aKI (.lit 2)
def aFO:E:=.eq aKJ (.lit 0)
def aFP:E:=.not aFO
def aFQ:E:=.ite aKG aKH aFP
def aFR:E:=.ite aFQ (.lit 2) (.lit 0)
def aFS:E:=.add aKF aFR
def aFT:E:=.eq nZ (.lit 0)
def aFU:E:=.ite aFT (.lit 8) (.lit 0)
def xU:E:=.add aFS aFU
theorem bGQ (ρ:Env) (hH:ctH.ok ρ):E.i ρ nZ=sgV 15 (ρ.i.getD 2 0) (E.i ρ cP) (ρ.i.getD 13 0 / 4%2)%65536∧E.i ρ xU=sgF (ρ.i.getD 14 0) 15 (ρ.i.getD 2 0) (E.i ρ cP) (ρ.i.getD 13 0 / 4%2)%64:=by
 obtain ⟨l,t,g,j,f,hr⟩:=ctR ρ hH
 generalize E.i ρ cP=p at *
 simp only [aKB,aKC,aKD,nZ,aKE,aKF,aKG,aKH,aKI,aKJ,aFO,aFP,aFQ,aFR,aFS,aFT,aFU,xU,sgm,sgn,sgV,sgF]
 simp only [Int.reduceEq,if_false,if_true]
 simp only [cy1,cy2,sgn]
 clear hH f
 generalize ρ.i.getD 2 0=q at *
 generalize ρ.i.getD 14 0=w at *
 generalize ρ.i.getD 13 0=cc at *
 refine ⟨by omega,?_⟩
 refine (Int.emod_eq_of_lt ?_ ?_).symm <;> (repeat' split) <;> omega
theorem bGE:enter Try.prog SH SHh 3000 40 54 ctH (ctl 15 1) ctM=some ([],.tup [],some (ctw (.v 1) nZ (.v 13) xU)):=by kernel_rfl
theorem ctat (xs:Nat→Nat→Ext):fI Try.prog (Iv xs) 54 29 0 3 (iY ctH ctL ctM [] (.tup []) (some ctO)):=by
 refine bGU (s:=enter Try.prog SH SHh 3000 40 54) (bS (SH_ok xs) (by kernel_rfl) 3000 40) rfl (fun ρ hI hz hH hn=>?_)
 have r19:0≤E.i ρ (.v 19)∧E.i ρ (.v 19)≤15:=hH.e (.v 19,(0,15)) (by simp [ctH])
 have r20:0≤E.i ρ (.v 20)∧E.i ρ (.v 20)≤1:=hH.e (.v 20,(0,1)) (by simp [ctH])
 rcases (show E.i ρ (.v 20)=0∨E.i ρ (.v 20)=1 by omega) with ha | ha
 ·rcases (show E.i ρ (.v 19)=0∨E.i ρ (.v 19)=1∨E.i ρ (.v 19)=2∨E.i ρ (.v 19)=3∨E.i ρ (.v 19)=4∨E.i ρ (.v 19)=5∨E.i ρ (.v 19)=6∨E.i ρ (.v 19)=7∨E.i ρ (.v 19)=8∨E.i ρ (.v 19)=9∨E.i ρ (.v 19)=10∨E.i ρ (.v 19)=11∨E.i ρ (.v 19)=12∨E.i ρ (.v 19)=13∨E.i ρ (.v 19)=14∨E.i ρ (.v 19)=15 by omega) with hk | hk | hk | hk | hk | hk | hk | hk | hk | hk | hk | hk | hk | hk | hk | hk
  ·exact ⟨ctH,ctl 0 0,_,_,_,bMk,hH,iI ρ _ _ hk ha,rfl,hn,trivial,tL xs ρ hI _ hk ha _ _ (bME ρ hH)⟩
  ·exact ⟨ctH,ctl 1 0,_,_,_,bMm,hH,iI ρ _ _ hk ha,rfl,hn,trivial,tL xs ρ hI _ hk ha _ _ (bMG ρ hH)⟩
  ·exact ⟨ctH,ctl 2 0,_,_,_,bMo,hH,iI ρ _ _ hk ha,rfl,hn,trivial,tL xs ρ hI _ hk ha _ _ (bMI ρ hH)⟩
  ·exact ⟨ctH,ctl 3 0,_,_,_,bMq,hH,iI ρ _ _ hk ha,rfl,hn,trivial,tL xs ρ hI _ hk ha _ _ (bMK ρ hH)⟩
  ·exact ⟨ctH,ctl 4 0,_,_,_,bMs,hH,iI ρ _ _ hk ha,rfl,hn,trivial,tL xs ρ hI _ hk ha _ _ (bMM ρ hH)⟩
  ·exact ⟨ctH,ctl 5 0,_,_,_,bMu,hH,iI ρ _ _ hk ha,rfl,hn,trivial,tL xs ρ hI _ hk ha _ _ (bMO ρ hH)⟩
  ·exact ⟨ctH,ctl 6 0,_,_,_,bMw,hH,iI ρ _ _ hk ha,rfl,hn,trivial,tL xs ρ hI _ hk ha _ _ (bMQ ρ hH)⟩
  ·exact ⟨ctH,ctl 7 0,_,_,_,bMy,hH,iI ρ _ _ hk ha,rfl,hn,trivial,tL xs ρ hI _ hk ha _ _ (bMS ρ hH)⟩
  ·exact ⟨ctH,ctl 8 0,_,_,_,bMA,hH,iI ρ _ _ hk ha,rfl,hn,trivial,tL xs ρ hI _ hk ha _ _ (bMU ρ hH)⟩
  ·exact ⟨ctH,ctl 9 0,_,_,_,bMC,hH,iI ρ _ _ hk ha,rfl,hn,trivial,tL xs ρ hI _ hk ha _ _ (bMW ρ hH)⟩
  ·exact ⟨ctH,ctl 10 0,_,_,_,bGt,hH,iI ρ _ _ hk ha,rfl,hn,trivial,tL xs ρ hI _ hk ha _ _ (bGF ρ hH)⟩
  ·exact ⟨ctH,ctl 11 0,_,_,_,bGv,hH,iI ρ _ _ hk ha,rfl,hn,trivial,tL xs ρ hI _ hk ha _ _ (bGH ρ hH)⟩
  ·exact ⟨ctH,ctl 12 0,_,_,_,bGx,hH,iI ρ _ _ hk ha,rfl,hn,trivial,tL xs ρ hI _ hk ha _ _ (bGJ ρ hH)⟩
  ·exact ⟨ctH,ctl 13 0,_,_,_,bGz,hH,iI ρ _ _ hk ha,rfl,hn,trivial,tL xs ρ hI _ hk ha _ _ (bGL ρ hH)⟩
  ·exact ⟨ctH,ctl 14 0,_,_,_,bGB,hH,iI ρ _ _ hk ha,rfl,hn,trivial,tL xs ρ hI _ hk ha _ _ (bGN ρ hH)⟩
  ·exact ⟨ctH,ctl 15 0,_,_,_,bGD,hH,iI ρ _ _ hk ha,rfl,hn,trivial,tL xs ρ hI _ hk ha _ _ (bGP ρ hH)⟩
 ·rcases (show E.i ρ (.v 19)=0∨E.i ρ (.v 19)=1∨E.i ρ (.v 19)=2∨E.i ρ (.v 19)=3∨E.i ρ (.v 19)=4∨E.i ρ (.v 19)=5∨E.i ρ (.v 19)=6∨E.i ρ (.v 19)=7∨E.i ρ (.v 19)=8∨E.i ρ (.v 19)=9∨E.i ρ (.v 19)=10∨E.i ρ (.v 19)=11∨E.i ρ (.v 19)=12∨E.i ρ (.v 19)=13∨E.i ρ (.v 19)=14∨E.i ρ (.v 19)=15 by omega) with hk | hk | hk | hk | hk | hk | hk | hk | hk | hk | hk | hk | hk | hk | hk | hk
  ·exact ⟨ctH,ctl 0 1,_,_,_,bMl,hH,iI ρ _ _ hk ha,rfl,hn,trivial,tM xs ρ hI _ hk ha _ _ (bMF ρ hH)⟩
  ·exact ⟨ctH,ctl 1 1,_,_,_,bMn,hH,iI ρ _ _ hk ha,rfl,hn,trivial,tM xs ρ hI _ hk ha _ _ (bMH ρ hH)⟩
  ·exact ⟨ctH,ctl 2 1,_,_,_,bMp,hH,iI ρ _ _ hk ha,rfl,hn,trivial,tM xs ρ hI _ hk ha _ _ (bMJ ρ hH)⟩
  ·exact ⟨ctH,ctl 3 1,_,_,_,bMr,hH,iI ρ _ _ hk ha,rfl,hn,trivial,tM xs ρ hI _ hk ha _ _ (bML ρ hH)⟩
  ·exact ⟨ctH,ctl 4 1,_,_,_,bMt,hH,iI ρ _ _ hk ha,rfl,hn,trivial,tM xs ρ hI _ hk ha _ _ (bMN ρ hH)⟩
  ·exact ⟨ctH,ctl 5 1,_,_,_,bMv,hH,iI ρ _ _ hk ha,rfl,hn,trivial,tM xs ρ hI _ hk ha _ _ (bMP ρ hH)⟩
  ·exact ⟨ctH,ctl 6 1,_,_,_,bMx,hH,iI ρ _ _ hk ha,rfl,hn,trivial,tM xs ρ hI _ hk ha _ _ (bMR ρ hH)⟩
  ·exact ⟨ctH,ctl 7 1,_,_,_,bMz,hH,iI ρ _ _ hk ha,rfl,hn,trivial,tM xs ρ hI _ hk ha _ _ (bMT ρ hH)⟩
  ·exact ⟨ctH,ctl 8 1,_,_,_,bMB,hH,iI ρ _ _ hk ha,rfl,hn,trivial,tM xs ρ hI _ hk ha _ _ (bMV ρ hH)⟩
  ·exact ⟨ctH,ctl 9 1,_,_,_,bMD,hH,iI ρ _ _ hk ha,rfl,hn,trivial,tM xs ρ hI _ hk ha _ _ (bMX ρ hH)⟩
  ·exact ⟨ctH,ctl 10 1,_,_,_,bGu,hH,iI ρ _ _ hk ha,rfl,hn,trivial,tM xs ρ hI _ hk ha _ _ (bGG ρ hH)⟩
  ·exact ⟨ctH,ctl 11 1,_,_,_,bGw,hH,iI ρ _ _ hk ha,rfl,hn,trivial,tM xs ρ hI _ hk ha _ _ (bGI ρ hH)⟩
  ·exact ⟨ctH,ctl 12 1,_,_,_,bGy,hH,iI ρ _ _ hk ha,rfl,hn,trivial,tM xs ρ hI _ hk ha _ _ (bGK ρ hH)⟩
  ·exact ⟨ctH,ctl 13 1,_,_,_,bGA,hH,iI ρ _ _ hk ha,rfl,hn,trivial,tM xs ρ hI _ hk ha _ _ (bGM ρ hH)⟩
  ·exact ⟨ctH,ctl 14 1,_,_,_,bGC,hH,iI ρ _ _ hk ha,rfl,hn,trivial,tM xs ρ hI _ hk ha _ _ (bGO ρ hH)⟩
  ·exact ⟨ctH,ctl 15 1,_,_,_,bGE,hH,iI ρ _ _ hk ha,rfl,hn,trivial,tM xs ρ hI _ hk ha _ _ (bGQ ρ hH)⟩
theorem ctok (xs:Nat→Nat→Ext):aX Try.prog (Iv xs) 54 ctS:=fB (ctat xs) (dT _ _ _ _ _ _)
end Go.Proofs.Ytcckecfjjccffaa
