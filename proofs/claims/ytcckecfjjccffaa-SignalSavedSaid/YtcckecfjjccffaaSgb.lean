/- A contract of the signal chip: what is made of an accumulator, case by case. No condition. -/
import Derived.Test.YtcckecfjjccffaaSga
namespace Go.Proofs.Ytcckecfjjccffaa
open Go.Sx Go.ChangeShapes Go.WideShapes Go.ChangeAt Go.RowKit
set_option linter.unusedVariables false
set_option linter.unusedSimpArgs false
set_option maxRecDepth 100000
noncomputable def SH:Ctx:=aIr Try.prog [] (ctx [(74,orS gaS (orS gbS (gcS))),(103,saS),(101,laS)]) 3000 40 12
noncomputable def SHh:aU:=aDi Try.prog [] (ctx [(74,orS gaS (orS gbS (gcS))),(103,saS),(101,laS)]) 3000 40 12
theorem SH_ok (xs:Nat→Nat→Ext):bV Try.prog (Iv xs) SH:=nV (mP (fun p hp=>by
 simp only [List.mem_cons,List.not_mem_nil,or_false] at hp
 rcases hp with rfl | rfl | rfl
 ·exact jV (gaok xs) (jV (gbok xs) (gcok xs))
 ·exact saok xs
 ·exact laok xs
 )) (by kernel_rfl) 3000 40 12
def cP:E:=.ite (.eq (.v 18) (.lit 0)) (.sel (.av 2) (.v 5)) (.ite (.eq (.v 18) (.lit 1)) (.v 16) (.ite (.eq (.v 18) (.lit 2)) (.v 9) (.v 10)))
def ctA:E:=.ite (.eq (.v 20) (.lit 0)) (.app 40 (.cons (.v 19) (.cons (.v 1) (.cons cP (.cons (.mod (.div (.v 14) (.lit 4)) (.lit 2)) .nil))))) (.v 1)
def ctB:E:=.ite (.eq (.v 20) (.lit 0)) (.v 2) (.app 40 (.cons (.v 19) (.cons (.v 2) (.cons cP (.cons (.mod (.div (.v 13) (.lit 4)) (.lit 2)) .nil)))))
def bBi:E:=.ite (.eq (.v 20) (.lit 0)) (.app 41 (.cons (.v 13) (.cons (.v 19) (.cons (.v 1) (.cons cP (.cons (.mod (.div (.v 14) (.lit 4)) (.lit 2)) .nil)))))) (.v 13)
def bBj:E:=.ite (.eq (.v 20) (.lit 0)) (.v 14) (.app 41 (.cons (.v 14) (.cons (.v 19) (.cons (.v 2) (.cons cP (.cons (.mod (.div (.v 13) (.lit 4)) (.lit 2)) .nil))))))
def ctH:Hyp:=⟨[(.v 0,(0,2047)),(.v 1,(0,65535)),(.v 2,(0,65535)),(.v 3,(0,65535)),(.v 4,(0,65535)),(.v 5,(0,255)),(.v 6,(0,1023)),(.v 7,(0,65535)),(.v 8,(0,65535)),(.v 9,(0,65535)),(.v 10,(0,65535)),(.v 11,(0,65535)),(.v 12,(0,65535)),(.v 13,(0,63)),(.v 14,(0,63)),(.v 15,(0,3)),(.v 16,(0,65535)),(.v 17,(0,3)),(.v 18,(0,3)),(.v 19,(0,15)),(.v 20,(0,1)),(.v 21,(0,3)),(.v 22,(0,15)),(.v 23,(0,1)),(.v 24,(0,15)),(.v 25,(0,15)),(.v 26,(0,511)),(.v 27,(0,2047)),(.v 28,(0,65535))],[(0,(0,255)),(1,(0,2047)),(2,(0,65535))],[(40,(0,65535)),(41,(0,63))],[],[],[]⟩
def ctL:List SV:=[.s (.ptr 1 (.lit 0)),.agg [.one (.int .u8 (.v 17)),.one (.int .u8 (.v 18)),.one (.int .u8 (.v 19)),.one (.int .u8 (.v 20)),.one (.int .u8 (.v 21)),.one (.int .u8 (.v 22)),.one (.int .u8 (.v 23)),.one (.int .u8 (.v 24)),.one (.int .u8 (.v 25)),.one (.int .u16 (.v 26)),.one (.int .u16 (.v 27)),.one (.int .u16 (.v 28))],.s (.int .u16 (.v 16))]
def ctM:Mem:=[⟨5,[.run .u8 (.lit 8192) (.av 0) 0],true,some 1,false⟩,⟨81,[.one (.int .u16 (.v 0)),.one (.int .u16 (.v 1)),.one (.int .u16 (.v 2)),.one (.int .u16 (.v 3)),.one (.int .u16 (.v 4)),.one (.int .u16 (.v 5)),.one (.int .u16 (.v 6)),.one (.int .u16 (.v 7)),.one (.int .u16 (.v 8)),.one (.int .u16 (.v 9)),.one (.int .u16 (.v 10)),.one (.int .u16 (.v 11)),.one (.int .u16 (.v 12)),.one (.int .u8 (.v 13)),.one (.int .u8 (.v 14)),.one (.int .u8 (.v 15)),.run .u16 (.lit 4) (.av 1) 0,.run .u16 (.lit 256) (.av 2) 0,.one (.slc 0 (.lit 0) (.lit 8192) (.op (.lit 0)))],true,none,false⟩]
def ctO:Mem:=[⟨5,[.run .u8 (.lit 8192) (.av 0) 0],true,some 1,false⟩,⟨81,[.one (.int .u16 (.v 0)),.one (.int .u16 (ctA)),.one (.int .u16 (ctB)),.one (.int .u16 (.v 3)),.one (.int .u16 (.v 4)),.one (.int .u16 (.v 5)),.one (.int .u16 (.v 6)),.one (.int .u16 (.v 7)),.one (.int .u16 (.v 8)),.one (.int .u16 (.v 9)),.one (.int .u16 (.v 10)),.one (.int .u16 (.v 11)),.one (.int .u16 (.v 12)),.one (.int .u8 (bBi)),.one (.int .u8 (bBj)),.one (.int .u8 (.v 15)),.run .u16 (.lit 4) (.av 1) 0,.run .u16 (.lit 256) (.av 2) 0,.one (.slc 0 (.lit 0) (.lit 8192) (.op (.lit 0)))],true,none,false⟩]
def ctS:Go.Sx.Spec:=fG (fC 29 0 3 ctL ctM) ctH ctL ctM [] (.tup []) (some ctO)
theorem cy2:(∀ (c p q:Prop) [Decidable c],(if c then p else q)=((c∧p)∨(¬ c∧q))):=by intro c p q _;by_cases h:c <;> simp [h]
theorem aFf (o:BinOp) (ho:o=.and∨o=.or∨o=.xor) (q p:Int) (hq:0≤q∧q≤65535) (hp:0≤p∧p≤65535):0≤aK o .u16 q p∧aK o .u16 q p≤65535:=by
 obtain ⟨n,rfl⟩:=Int.eq_ofNat_of_zero_le hq.1
 obtain ⟨m,rfl⟩:=Int.eq_ofNat_of_zero_le hp.1
 have h:=Go.Sx.bits_nat (k:=.u16) (by decide) (n:=n) (m:=m) (by omega) (by omega)
 have l1:n &&& m≤n:=Nat.and_le_left
 have l2:n ||| m<2 ^ 16:=Nat.or_lt_two_pow (by omega) (by omega)
 have l3:n ^^^ m<2 ^ 16:=Nat.xor_lt_two_pow (by omega) (by omega)
 rcases ho with rfl | rfl | rfl
 ·rw [show aK .and .u16 (n:Int) (m:Int)=((n &&& m:Nat):Int) from h.1];omega
 ·rw [show aK .or .u16 (n:Int) (m:Int)=((n ||| m:Nat):Int) from h.2.1];omega
 ·rw [show aK .xor .u16 (n:Int) (m:Int)=((n ^^^ m:Nat):Int) from h.2.2];omega
theorem cy1:(∀ (c:Prop) [Decidable c] (p q:Bool),((if c then p else q)=true)=((c∧p=true)∨(¬ c∧q=true))):=by intro c _ p q;by_cases h:c <;> simp [h]
theorem bKk (xs:Nat→Nat→Ext) (ρ:Env) (hI:ρ.I=Iv xs) (a b c d:E):E.i ρ (.app 40 (.cons a (.cons b (.cons c (.cons d .nil)))))=sgV (E.i ρ a) (E.i ρ b) (E.i ρ c) (E.i ρ d)%65536:=by
 show ρ.I.fi 40 _ _ _=_
 rw [hI];rfl
theorem bKl (xs:Nat→Nat→Ext) (ρ:Env) (hI:ρ.I=Iv xs) (w a b c d:E):E.i ρ (.app 41 (.cons w (.cons a (.cons b (.cons c (.cons d .nil))))))=sgF (E.i ρ w) (E.i ρ a) (E.i ρ b) (E.i ρ c) (E.i ρ d)%64:=by
 show ρ.I.fi 41 _ _ _=_
 rw [hI];rfl
theorem ctT0 (xs:Nat→Nat→Ext) (ρ:Env) (hI:ρ.I=Iv xs) (k:Int) (hk:E.i ρ (.v 19)=k) (ha:E.i ρ (.v 20)=0):E.i ρ ctA=sgV k (ρ.i.getD 1 0) (E.i ρ cP) (ρ.i.getD 14 0 / 4%2)%65536∧E.i ρ bBi=sgF (ρ.i.getD 13 0) k (ρ.i.getD 1 0) (E.i ρ cP) (ρ.i.getD 14 0 / 4%2)%64∧E.i ρ ctB=E.i ρ (.v 2)∧E.i ρ bBj=E.i ρ (.v 14):=by
 have hb:E.b ρ (.eq (.v 20) (.lit 0))=true:=by rw [eU,ha];rfl
 simp only [ctA,ctB,bBi,bBj]
 rw [aQ,aQ,aQ,aQ]
 simp only [hb,Bool.false_eq_true,if_true,if_false,bKk xs ρ hI,bKl xs ρ hI,hk]
 exact ⟨rfl,rfl,trivial,trivial⟩
theorem ctT1 (xs:Nat→Nat→Ext) (ρ:Env) (hI:ρ.I=Iv xs) (k:Int) (hk:E.i ρ (.v 19)=k) (ha:E.i ρ (.v 20)=1):E.i ρ ctB=sgV k (ρ.i.getD 2 0) (E.i ρ cP) (ρ.i.getD 13 0 / 4%2)%65536∧E.i ρ bBj=sgF (ρ.i.getD 14 0) k (ρ.i.getD 2 0) (E.i ρ cP) (ρ.i.getD 13 0 / 4%2)%64∧E.i ρ ctA=E.i ρ (.v 1)∧E.i ρ bBi=E.i ρ (.v 13):=by
 have hb:E.b ρ (.eq (.v 20) (.lit 0))=false:=by rw [eU,ha];rfl
 simp only [ctA,ctB,bBi,bBj]
 rw [aQ,aQ,aQ,aQ]
 simp only [hb,Bool.false_eq_true,if_true,if_false,bKk xs ρ hI,bKl xs ρ hI,hk]
 exact ⟨rfl,rfl,trivial,trivial⟩
theorem ctR (ρ:Env) (hH:ctH.ok ρ):(0≤ρ.i.getD 1 0∧ρ.i.getD 1 0≤65535)∧(0≤ρ.i.getD 2 0∧ρ.i.getD 2 0≤65535)∧(0≤ρ.i.getD 13 0∧ρ.i.getD 13 0≤63)∧(0≤ρ.i.getD 14 0∧ρ.i.getD 14 0≤63)∧(0≤ρ.i.getD 18 0∧ρ.i.getD 18 0≤3)∧(0≤E.i ρ cP∧E.i ρ cP≤65535):=by
 have r (n:Nat) (b:Int) (h:(E.v n,((0:Int),b)) ∈ ctH.e):0≤ρ.i.getD n 0∧ρ.i.getD n 0≤b:=hH.e _ h
 have r9:=r 9 65535 (by simp [ctH])
 have r10:=r 10 65535 (by simp [ctH])
 have r16:=r 16 65535 (by simp [ctH])
 refine ⟨r 1 _ (by simp [ctH]),r 2 _ (by simp [ctH]),r 13 _ (by simp [ctH]),r 14 _ (by simp [ctH]),r 18 _ (by simp [ctH]),?_⟩
 have h:0≤E.a ρ (.av 2) (ρ.i.getD 5 0).toNat∧E.a ρ (.av 2) (ρ.i.getD 5 0).toNat≤65535:=hH.a (2,(0,65535)) (by simp [ctH]) _
 clear hH r
 simp only [cP,sgm,sgn]
 repeat' split
 all_goals first | omega | exact h
def ctl (k a:Int):List SV:=[.s (.ptr 1 (.lit 0)),.agg [.one (.int .u8 (.v 17)),.one (.int .u8 (.v 18)),.one (.int .u8 (.lit k)),.one (.int .u8 (.lit a)),.one (.int .u8 (.v 21)),.one (.int .u8 (.v 22)),.one (.int .u8 (.v 23)),.one (.int .u8 (.v 24)),.one (.int .u8 (.v 25)),.one (.int .u16 (.v 26)),.one (.int .u16 (.v 27)),.one (.int .u16 (.v 28))],.s (.int .u16 (.v 16))]
def ctw (u y z A:E):Mem:=[⟨5,[.run .u8 (.lit 8192) (.av 0) 0],true,some 1,false⟩,⟨81,[.one (.int .u16 (.v 0)),.one (.int .u16 u),.one (.int .u16 y),.one (.int .u16 (.v 3)),.one (.int .u16 (.v 4)),.one (.int .u16 (.v 5)),.one (.int .u16 (.v 6)),.one (.int .u16 (.v 7)),.one (.int .u16 (.v 8)),.one (.int .u16 (.v 9)),.one (.int .u16 (.v 10)),.one (.int .u16 (.v 11)),.one (.int .u16 (.v 12)),.one (.int .u8 z),.one (.int .u8 A),.one (.int .u8 (.v 15)),.run .u16 (.lit 4) (.av 1) 0,.run .u16 (.lit 256) (.av 2) 0,.one (.slc 0 (.lit 0) (.lit 8192) (.op (.lit 0)))],true,none,false⟩]
theorem ctwE (ρ:Env) (u y z A:E) (h1:E.i ρ u=E.i ρ ctA) (h2:E.i ρ y=E.i ρ ctB) (h3:E.i ρ z=E.i ρ bBi) (h4:E.i ρ A=E.i ρ bBj):nN ρ ρ (ctw u y z A) ctO:=by
 repeat' (first | with_reducible exact h1 | with_reducible exact h2 | with_reducible exact h3 | with_reducible exact h4 | with_reducible rfl | exact trivial | exact fun _ _=>rfl | refine And.intro ?_ ?_ | refine Or.inr ?_ | exact rfl)
theorem iE (ρ:Env) (k a:Int) (hk:E.i ρ (.v 19)=k) (ha:E.i ρ (.v 20)=a):∀ ι,(ctl k a).map (SV.aB ρ ι)=ctL.map (SV.aB ρ ι):=by
 intro ι;simp only [ctl,ctL,List.map_cons,List.map_nil,SV.aB,cellsOf,List.flatMap_cons,Seg.cells,S.aB,hk,ha,aC]
theorem uI (xs:Nat→Nat→Ext) (ρ:Env) (hI:ρ.I=Iv xs) (k:Int) (hk:E.i ρ (.v 19)=k) (ha:E.i ρ (.v 20)=0) (V F:E) (h:E.i ρ V=sgV k (ρ.i.getD 1 0) (E.i ρ cP) (ρ.i.getD 14 0 / 4%2)%65536∧E.i ρ F=sgF (ρ.i.getD 13 0) k (ρ.i.getD 1 0) (E.i ρ cP) (ρ.i.getD 14 0 / 4%2)%64):nN ρ ρ (ctw V (.v 2) F (.v 14)) ctO:=by
 obtain ⟨t1,t2,t3,t4⟩:=ctT0 xs ρ hI k hk ha
 exact ctwE ρ _ _ _ _ (h.1.trans t1.symm) t3.symm (h.2.trans t2.symm) t4.symm
theorem bNU (ρ:Env) (hH:ctH.ok ρ):E.i ρ (.v 1)=sgV 0 (ρ.i.getD 1 0) (E.i ρ cP) (ρ.i.getD 14 0 / 4%2)%65536∧E.i ρ (.v 13)=sgF (ρ.i.getD 13 0) 0 (ρ.i.getD 1 0) (E.i ρ cP) (ρ.i.getD 14 0 / 4%2)%64:=by
 obtain ⟨l,t,g,j,_⟩:=ctR ρ hH
 rw [show sgV 0 (ρ.i.getD 1 0) (E.i ρ cP) _=ρ.i.getD 1 0 from rfl,show sgF (ρ.i.getD 13 0) 0 (ρ.i.getD 1 0) (E.i ρ cP) _=ρ.i.getD 13 0 from rfl,i_v,i_v];omega
theorem bNA:enter Try.prog SH SHh 3000 40 54 ctH (ctl 0 0) ctM=some ([],.tup [],none):=by kernel_rfl
def aWG:E:=.eq (.v 18) (.lit 0)
def aWH:E:=.sel (.av 2) (.v 5)
def aWI:E:=.eq (.v 18) (.lit 1)
def aWJ:E:=.eq (.v 18) (.lit 2)
def aWK:E:=.ite aWJ (.v 9) (.v 10)
def aWL:E:=.ite aWI (.v 16) aWK
def aHM:E:=.ite aWG aWH aWL
def tG:E:=.bits .or .u16 (.v 1) aHM
def aWM:E:=.le tG (.lit 32767)
def aWN:E:=.ite aWM (.lit 0) (.lit 1)
def aLw:E:=.le (.v 13) (.lit 31)
def aLx:E:=.le (.lit 32768) tG
def aLy:E:=.div (.v 13) (.lit 2)
def aLz:E:=.mod aLy (.lit 2)
def aLA:E:=.eq aLz (.lit 0)
def aLB:E:=.not aLA
def aLC:E:=.ite aLw aLx aLB
def aLD:E:=.ite aLC (.lit 2) (.lit 0)
def aLE:E:=.add aWN aLD
def aLF:E:=.eq tG (.lit 0)
def aLG:E:=.ite aLF (.lit 8) (.lit 0)
def aBS:E:=.add aLE aLG
theorem bNW (ρ:Env) (hH:ctH.ok ρ):E.i ρ tG=sgV 1 (ρ.i.getD 1 0) (E.i ρ cP) (ρ.i.getD 14 0 / 4%2)%65536∧E.i ρ aBS=sgF (ρ.i.getD 13 0) 1 (ρ.i.getD 1 0) (E.i ρ cP) (ρ.i.getD 14 0 / 4%2)%64:=by
 obtain ⟨l,t,g,j,f,hr⟩:=ctR ρ hH
 have hp:E.i ρ aHM=E.i ρ cP:=by
  simp only [aWG,aWH,aWI,aWJ,aWK,aWL,aHM,cP,sgm,sgn]
  (try (generalize ρ.i.getD 18 0=w at *;rcases (show w=0∨w=1∨w=2∨w=3 by omega) with h | h | h | h <;> subst h <;> simp))
 generalize E.i ρ cP=p at *
 simp only [tG,aWM,aWN,aLw,aLx,aLy,aLz,aLA,aLB,aLC,aLD,aLE,aLF,aLG,aBS,sgm,sgn,hp,sgV,sgF]
 simp only [Int.reduceEq,if_false,if_true]
 simp only [cy1,cy2,sgn]
 clear hH hp f
 generalize ρ.i.getD 1 0=q at *
 generalize ρ.i.getD 13 0=w at *
 generalize ρ.i.getD 14 0=cc at *
 have hb:=aFf .or (by simp) q p l hr
 generalize aK .or .u16 q p=x at *
 refine ⟨by omega,?_⟩
 refine (Int.emod_eq_of_lt ?_ ?_).symm <;> (repeat' split) <;> omega
theorem bNC:enter Try.prog SH SHh 3000 40 54 ctH (ctl 1 0) ctM=some ([],.tup [],some (ctw tG (.v 2) aBS (.v 14))):=by kernel_rfl
def aWW:E:=.eq (.v 18) (.lit 0)
def aWX:E:=.sel (.av 2) (.v 5)
def aWY:E:=.eq (.v 18) (.lit 1)
def aWZ:E:=.eq (.v 18) (.lit 2)
def aXa:E:=.ite aWZ (.v 9) (.v 10)
def aXb:E:=.ite aWY (.v 16) aXa
def aHO:E:=.ite aWW aWX aXb
def tI:E:=.bits .and .u16 (.v 1) aHO
def aXc:E:=.le tI (.lit 32767)
def aXd:E:=.ite aXc (.lit 0) (.lit 1)
def aLS:E:=.le (.v 13) (.lit 31)
def aLT:E:=.le (.lit 32768) tI
def aLU:E:=.div (.v 13) (.lit 2)
def aLV:E:=.mod aLU (.lit 2)
def aLW:E:=.eq aLV (.lit 0)
def aLX:E:=.not aLW
def aLY:E:=.ite aLS aLT aLX
def aLZ:E:=.ite aLY (.lit 2) (.lit 0)
def aMa:E:=.add aXd aLZ
def aMb:E:=.eq tI (.lit 0)
def aMc:E:=.ite aMb (.lit 8) (.lit 0)
def aBU:E:=.add aMa aMc
theorem bNY (ρ:Env) (hH:ctH.ok ρ):E.i ρ tI=sgV 2 (ρ.i.getD 1 0) (E.i ρ cP) (ρ.i.getD 14 0 / 4%2)%65536∧E.i ρ aBU=sgF (ρ.i.getD 13 0) 2 (ρ.i.getD 1 0) (E.i ρ cP) (ρ.i.getD 14 0 / 4%2)%64:=by
 obtain ⟨l,t,g,j,f,hr⟩:=ctR ρ hH
 have hp:E.i ρ aHO=E.i ρ cP:=by
  simp only [aWW,aWX,aWY,aWZ,aXa,aXb,aHO,cP,sgm,sgn]
  (try (generalize ρ.i.getD 18 0=w at *;rcases (show w=0∨w=1∨w=2∨w=3 by omega) with h | h | h | h <;> subst h <;> simp))
 generalize E.i ρ cP=p at *
 simp only [tI,aXc,aXd,aLS,aLT,aLU,aLV,aLW,aLX,aLY,aLZ,aMa,aMb,aMc,aBU,sgm,sgn,hp,sgV,sgF]
 simp only [Int.reduceEq,if_false,if_true]
 simp only [cy1,cy2,sgn]
 clear hH hp f
 generalize ρ.i.getD 1 0=q at *
 generalize ρ.i.getD 13 0=w at *
 generalize ρ.i.getD 14 0=cc at *
 have hb:=aFf .and (by simp) q p l hr
 generalize aK .and .u16 q p=x at *
 refine ⟨by omega,?_⟩
 refine (Int.emod_eq_of_lt ?_ ?_).symm <;> (repeat' split) <;> omega
theorem bNE:enter Try.prog SH SHh 3000 40 54 ctH (ctl 2 0) ctM=some ([],.tup [],some (ctw tI (.v 2) aBU (.v 14))):=by kernel_rfl
def aXm:E:=.eq (.v 18) (.lit 0)
def aXn:E:=.sel (.av 2) (.v 5)
def aXo:E:=.eq (.v 18) (.lit 1)
def aXp:E:=.eq (.v 18) (.lit 2)
def aXq:E:=.ite aXp (.v 9) (.v 10)
def aXr:E:=.ite aXo (.v 16) aXq
def aHQ:E:=.ite aXm aXn aXr
def tK:E:=.bits .xor .u16 (.v 1) aHQ
def aXs:E:=.le tK (.lit 32767)
def aXt:E:=.ite aXs (.lit 0) (.lit 1)
def aMo:E:=.le (.v 13) (.lit 31)
def aMp:E:=.le (.lit 32768) tK
def aMq:E:=.div (.v 13) (.lit 2)
def aMr:E:=.mod aMq (.lit 2)
def aMs:E:=.eq aMr (.lit 0)
def aMt:E:=.not aMs
def aMu:E:=.ite aMo aMp aMt
def aMv:E:=.ite aMu (.lit 2) (.lit 0)
def aMw:E:=.add aXt aMv
def aMx:E:=.eq tK (.lit 0)
def aMy:E:=.ite aMx (.lit 8) (.lit 0)
def aBW:E:=.add aMw aMy
theorem bOa (ρ:Env) (hH:ctH.ok ρ):E.i ρ tK=sgV 3 (ρ.i.getD 1 0) (E.i ρ cP) (ρ.i.getD 14 0 / 4%2)%65536∧E.i ρ aBW=sgF (ρ.i.getD 13 0) 3 (ρ.i.getD 1 0) (E.i ρ cP) (ρ.i.getD 14 0 / 4%2)%64:=by
 obtain ⟨l,t,g,j,f,hr⟩:=ctR ρ hH
 have hp:E.i ρ aHQ=E.i ρ cP:=by
  simp only [aXm,aXn,aXo,aXp,aXq,aXr,aHQ,cP,sgm,sgn]
  (try (generalize ρ.i.getD 18 0=w at *;rcases (show w=0∨w=1∨w=2∨w=3 by omega) with h | h | h | h <;> subst h <;> simp))
 generalize E.i ρ cP=p at *
 simp only [tK,aXs,aXt,aMo,aMp,aMq,aMr,aMs,aMt,aMu,aMv,aMw,aMx,aMy,aBW,sgm,sgn,hp,sgV,sgF]
 simp only [Int.reduceEq,if_false,if_true]
 simp only [cy1,cy2,sgn]
 clear hH hp f
 generalize ρ.i.getD 1 0=q at *
 generalize ρ.i.getD 13 0=w at *
 generalize ρ.i.getD 14 0=cc at *
 have hb:=aFf .xor (by simp) q p l hr
 generalize aK .xor .u16 q p=x at *
 refine ⟨by omega,?_⟩
 refine (Int.emod_eq_of_lt ?_ ?_).symm <;> (repeat' split) <;> omega
theorem bNG:enter Try.prog SH SHh 3000 40 54 ctH (ctl 3 0) ctM=some ([],.tup [],some (ctw tK (.v 2) aBW (.v 14))):=by kernel_rfl
def aXC:E:=.eq (.v 18) (.lit 0)
def aXD:E:=.sel (.av 2) (.v 5)
def aXE:E:=.eq (.v 18) (.lit 1)
def aXF:E:=.eq (.v 18) (.lit 2)
def aXG:E:=.ite aXF (.v 9) (.v 10)
def aXH:E:=.ite aXE (.v 16) aXG
def pT:E:=.ite aXC aXD aXH
def aHS:E:=.sub (.v 1) pT
def aAT:E:=.mod aHS (.lit 65536)
def aXI:E:=.div aHS (.lit 32768)
def aBY:E:=.mod aXI (.lit 2)
def aBZ:E:=.le (.v 13) (.lit 31)
def aMK:E:=.eq aBY (.lit 0)
def aML:E:=.not aMK
def aMM:E:=.div (.v 13) (.lit 2)
def aMN:E:=.mod aMM (.lit 2)
def aMO:E:=.eq aMN (.lit 0)
def aMP:E:=.not aMO
def aMQ:E:=.ite aBZ aML aMP
def aMR:E:=.ite aMQ (.lit 2) (.lit 0)
def aMS:E:=.add aBY aMR
def aMT:E:=.lt (.v 1) pT
def aMU:E:=.ite aMT (.lit 4) (.lit 0)
def aMV:E:=.add aMS aMU
def aMW:E:=.eq aAT (.lit 0)
def aMX:E:=.ite aMW (.lit 8) (.lit 0)
def aMY:E:=.add aMV aMX
def aMZ:E:=.le (.v 1) (.lit 32767)
def aNa:E:=.add (.v 1) (.lit (-65536))
def aNb:E:=.ite aMZ (.v 1) aNa
def aNc:E:=.le pT (.lit 32767)
def aNd:E:=.add pT (.lit (-65536))
def aNe:E:=.ite aNc pT aNd
def aCa:E:=.sub aNb aNe
def aNf:E:=.le (.lit 32768) aCa
def aNg:E:=.le aCa (.lit (-32769))
def aCb:E:=.or aNf aNg
def aNh:E:=.ite aCb (.lit 16) (.lit 0)
def aNi:E:=.add aMY aNh
def aNj:E:=.le (.lit 32) (.v 13)
def aNk:E:=.ite aCb aBZ aNj
def aNl:E:=.ite aNk (.lit 32) (.lit 0)
def aCc:E:=.add aNi aNl
theorem bOc (ρ:Env) (hH:ctH.ok ρ):E.i ρ aAT=sgV 4 (ρ.i.getD 1 0) (E.i ρ cP) (ρ.i.getD 14 0 / 4%2)%65536∧E.i ρ aCc=sgF (ρ.i.getD 13 0) 4 (ρ.i.getD 1 0) (E.i ρ cP) (ρ.i.getD 14 0 / 4%2)%64:=by
 obtain ⟨l,t,g,j,f,hr⟩:=ctR ρ hH
 have hp:E.i ρ pT=E.i ρ cP:=by
  simp only [aXC,aXD,aXE,aXF,aXG,aXH,pT,cP,sgm,sgn]
  (try (generalize ρ.i.getD 18 0=w at *;rcases (show w=0∨w=1∨w=2∨w=3 by omega) with h | h | h | h <;> subst h <;> simp))
 generalize E.i ρ cP=p at *
 simp only [aHS,aAT,aXI,aBY,aBZ,aMK,aML,aMM,aMN,aMO,aMP,aMQ,aMR,aMS,aMT,aMU,aMV,aMW,aMX,aMY,aMZ,aNa,aNb,aNc,aNd,aNe,aCa,aNf,aNg,aCb,aNh,aNi,aNj,aNk,aNl,aCc,sgm,sgn,hp,sgV,sgF]
 simp only [Int.reduceEq,if_false,if_true]
 simp only [cy1,cy2,sgn]
 clear hH hp f
 generalize ρ.i.getD 1 0=q at *
 generalize ρ.i.getD 13 0=w at *
 generalize ρ.i.getD 14 0=cc at *
 refine ⟨by omega,?_⟩
 refine (Int.emod_eq_of_lt ?_ ?_).symm <;> (repeat' split) <;> omega
theorem bNI:enter Try.prog SH SHh 3000 40 54 ctH (ctl 4 0) ctM=some ([],.tup [],some (ctw aAT (.v 2) aCc (.v 14))):=by kernel_rfl
def aXQ:E:=.eq (.v 18) (.lit 0)
def aXR:E:=.sel (.av 2) (.v 5)
def aXS:E:=.eq (.v 18) (.lit 1)
def aXT:E:=.eq (.v 18) (.lit 2)
def aXU:E:=.ite aXT (.v 9) (.v 10)
def aXV:E:=.ite aXS (.v 16) aXU
def tM:E:=.ite aXQ aXR aXV
def aAV:E:=.add (.v 1) tM
def aAW:E:=.mod aAV (.lit 65536)
def aXW:E:=.div aAV (.lit 32768)
def aCi:E:=.mod aXW (.lit 2)
def aCj:E:=.le (.v 13) (.lit 31)
def aNO:E:=.eq aCi (.lit 0)
def aNP:E:=.not aNO
def aNQ:E:=.div (.v 13) (.lit 2)
def aNR:E:=.mod aNQ (.lit 2)
def aNS:E:=.eq aNR (.lit 0)
def aNT:E:=.not aNS
def aNU:E:=.ite aCj aNP aNT
def aNV:E:=.ite aNU (.lit 2) (.lit 0)
def aNW:E:=.add aCi aNV
def aNX:E:=.le aAV (.lit 65535)
def aNY:E:=.ite aNX (.lit 0) (.lit 4)
def aNZ:E:=.add aNW aNY
def aOa:E:=.eq aAW (.lit 0)
def aOb:E:=.ite aOa (.lit 8) (.lit 0)
def aOc:E:=.add aNZ aOb
def aOd:E:=.le (.v 1) (.lit 32767)
def aOe:E:=.add (.v 1) (.lit (-65536))
def aOf:E:=.ite aOd (.v 1) aOe
def aOg:E:=.le tM (.lit 32767)
def aOh:E:=.add tM (.lit (-65536))
def aOi:E:=.ite aOg tM aOh
def aCk:E:=.add aOf aOi
def aOj:E:=.le (.lit 32768) aCk
def aOk:E:=.le aCk (.lit (-32769))
def aCl:E:=.or aOj aOk
def aOl:E:=.ite aCl (.lit 16) (.lit 0)
def aOm:E:=.add aOc aOl
def aOn:E:=.le (.lit 32) (.v 13)
def aOo:E:=.ite aCl aCj aOn
def aOp:E:=.ite aOo (.lit 32) (.lit 0)
def aCm:E:=.add aOm aOp
theorem bOe (ρ:Env) (hH:ctH.ok ρ):E.i ρ aAW=sgV 5 (ρ.i.getD 1 0) (E.i ρ cP) (ρ.i.getD 14 0 / 4%2)%65536∧E.i ρ aCm=sgF (ρ.i.getD 13 0) 5 (ρ.i.getD 1 0) (E.i ρ cP) (ρ.i.getD 14 0 / 4%2)%64:=by
 obtain ⟨l,t,g,j,f,hr⟩:=ctR ρ hH
 have hp:E.i ρ tM=E.i ρ cP:=by
  simp only [aXQ,aXR,aXS,aXT,aXU,aXV,tM,cP,sgm,sgn]
  (try (generalize ρ.i.getD 18 0=w at *;rcases (show w=0∨w=1∨w=2∨w=3 by omega) with h | h | h | h <;> subst h <;> simp))
 generalize E.i ρ cP=p at *
 simp only [aAV,aAW,aXW,aCi,aCj,aNO,aNP,aNQ,aNR,aNS,aNT,aNU,aNV,aNW,aNX,aNY,aNZ,aOa,aOb,aOc,aOd,aOe,aOf,aOg,aOh,aOi,aCk,aOj,aOk,aCl,aOl,aOm,aOn,aOo,aOp,aCm,sgm,sgn,hp,sgV,sgF]
 simp only [Int.reduceEq,if_false,if_true]
 simp only [cy1,cy2,sgn]
 clear hH hp f
 generalize ρ.i.getD 1 0=q at *
 generalize ρ.i.getD 13 0=w at *
 generalize ρ.i.getD 14 0=cc at *
 refine ⟨by omega,?_⟩
 refine (Int.emod_eq_of_lt ?_ ?_).symm <;> (repeat' split) <;> omega
theorem bNK:enter Try.prog SH SHh 3000 40 54 ctH (ctl 5 0) ctM=some ([],.tup [],some (ctw aAW (.v 2) aCm (.v 14))):=by kernel_rfl
def aYe:E:=.eq (.v 18) (.lit 0)
def aYf:E:=.sel (.av 2) (.v 5)
def aYg:E:=.eq (.v 18) (.lit 1)
def aYh:E:=.eq (.v 18) (.lit 2)
def aYi:E:=.ite aYh (.v 9) (.v 10)
def aYj:E:=.ite aYg (.v 16) aYi
def pV:E:=.ite aYe aYf aYj
def aYk:E:=.sub (.v 1) pV
def aYl:E:=.div (.v 14) (.lit 4)
def aHU:E:=.mod aYl (.lit 2)
def aCs:E:=.sub aYk aHU
def wP:E:=.mod aCs (.lit 65536)
def aOS:E:=.div aCs (.lit 32768)
def aCt:E:=.mod aOS (.lit 2)
def aCu:E:=.le (.v 13) (.lit 31)
def aOT:E:=.eq aCt (.lit 0)
def aOU:E:=.not aOT
def aOV:E:=.div (.v 13) (.lit 2)
def aOW:E:=.mod aOV (.lit 2)
def aOX:E:=.eq aOW (.lit 0)
def aOY:E:=.not aOX
def aOZ:E:=.ite aCu aOU aOY
def aPa:E:=.ite aOZ (.lit 2) (.lit 0)
def aPb:E:=.add aCt aPa
def aPc:E:=.add pV aHU
def aPd:E:=.lt (.v 1) aPc
def aPe:E:=.ite aPd (.lit 4) (.lit 0)
def aPf:E:=.add aPb aPe
def aPg:E:=.eq wP (.lit 0)
def aPh:E:=.ite aPg (.lit 8) (.lit 0)
def aPi:E:=.add aPf aPh
def aPj:E:=.le (.v 1) (.lit 32767)
def aPk:E:=.add (.v 1) (.lit (-65536))
def aPl:E:=.ite aPj (.v 1) aPk
def aPm:E:=.le pV (.lit 32767)
def aPn:E:=.add pV (.lit (-65536))
def aPo:E:=.ite aPm pV aPn
def aCv:E:=.sub aPl aPo
def aPp:E:=.le (.lit 32768) aCv
def aPq:E:=.le aCv (.lit (-32769))
def aCw:E:=.or aPp aPq
def aPr:E:=.ite aCw (.lit 16) (.lit 0)
def aPs:E:=.add aPi aPr
def aPt:E:=.le (.lit 32) (.v 13)
def aPu:E:=.ite aCw aCu aPt
def aPv:E:=.ite aPu (.lit 32) (.lit 0)
def aCx:E:=.add aPs aPv
theorem bOg (ρ:Env) (hH:ctH.ok ρ):E.i ρ wP=sgV 6 (ρ.i.getD 1 0) (E.i ρ cP) (ρ.i.getD 14 0 / 4%2)%65536∧E.i ρ aCx=sgF (ρ.i.getD 13 0) 6 (ρ.i.getD 1 0) (E.i ρ cP) (ρ.i.getD 14 0 / 4%2)%64:=by
 obtain ⟨l,t,g,j,f,hr⟩:=ctR ρ hH
 have hp:E.i ρ pV=E.i ρ cP:=by
  simp only [aYe,aYf,aYg,aYh,aYi,aYj,pV,cP,sgm,sgn]
  (try (generalize ρ.i.getD 18 0=w at *;rcases (show w=0∨w=1∨w=2∨w=3 by omega) with h | h | h | h <;> subst h <;> simp))
 generalize E.i ρ cP=p at *
 simp only [aYk,aYl,aHU,aCs,wP,aOS,aCt,aCu,aOT,aOU,aOV,aOW,aOX,aOY,aOZ,aPa,aPb,aPc,aPd,aPe,aPf,aPg,aPh,aPi,aPj,aPk,aPl,aPm,aPn,aPo,aCv,aPp,aPq,aCw,aPr,aPs,aPt,aPu,aPv,aCx,sgm,sgn,hp,sgV,sgF]
 simp only [Int.reduceEq,if_false,if_true]
 simp only [cy1,cy2,sgn]
 clear hH hp f
 generalize ρ.i.getD 1 0=q at *
 generalize ρ.i.getD 13 0=w at *
 generalize ρ.i.getD 14 0=cc at *
 refine ⟨by omega,?_⟩
 refine (Int.emod_eq_of_lt ?_ ?_).symm <;> (repeat' split) <;> omega
theorem bNM:enter Try.prog SH SHh 3000 40 54 ctH (ctl 6 0) ctM=some ([],.tup [],some (ctw wP (.v 2) aCx (.v 14))):=by kernel_rfl
def aYu:E:=.eq (.v 18) (.lit 0)
def aYv:E:=.sel (.av 2) (.v 5)
def aYw:E:=.eq (.v 18) (.lit 1)
def aYx:E:=.eq (.v 18) (.lit 2)
def aYy:E:=.ite aYx (.v 9) (.v 10)
def aYz:E:=.ite aYw (.v 16) aYy
def tO:E:=.ite aYu aYv aYz
def aYA:E:=.add (.v 1) tO
def aYB:E:=.div (.v 14) (.lit 4)
def aYC:E:=.mod aYB (.lit 2)
def wT:E:=.add aYA aYC
def wU:E:=.mod wT (.lit 65536)
def aQa:E:=.div wT (.lit 32768)
def aCE:E:=.mod aQa (.lit 2)
def aCF:E:=.le (.v 13) (.lit 31)
def aQb:E:=.eq aCE (.lit 0)
def aQc:E:=.not aQb
def aQd:E:=.div (.v 13) (.lit 2)
def aQe:E:=.mod aQd (.lit 2)
def aQf:E:=.eq aQe (.lit 0)
def aQg:E:=.not aQf
def aQh:E:=.ite aCF aQc aQg
def aQi:E:=.ite aQh (.lit 2) (.lit 0)
def aQj:E:=.add aCE aQi
def aQk:E:=.le wT (.lit 65535)
def aQl:E:=.ite aQk (.lit 0) (.lit 4)
def aQm:E:=.add aQj aQl
def aQn:E:=.eq wU (.lit 0)
def aQo:E:=.ite aQn (.lit 8) (.lit 0)
def aQp:E:=.add aQm aQo
def aQq:E:=.le (.v 1) (.lit 32767)
def aQr:E:=.add (.v 1) (.lit (-65536))
def aQs:E:=.ite aQq (.v 1) aQr
def aQt:E:=.le tO (.lit 32767)
def aQu:E:=.add tO (.lit (-65536))
def aQv:E:=.ite aQt tO aQu
def aCG:E:=.add aQs aQv
def aQw:E:=.le (.lit 32768) aCG
def aQx:E:=.le aCG (.lit (-32769))
def aCH:E:=.or aQw aQx
def aQy:E:=.ite aCH (.lit 16) (.lit 0)
def aQz:E:=.add aQp aQy
def aQA:E:=.le (.lit 32) (.v 13)
def aQB:E:=.ite aCH aCF aQA
def aQC:E:=.ite aQB (.lit 32) (.lit 0)
def aCI:E:=.add aQz aQC
theorem bOi (ρ:Env) (hH:ctH.ok ρ):E.i ρ wU=sgV 7 (ρ.i.getD 1 0) (E.i ρ cP) (ρ.i.getD 14 0 / 4%2)%65536∧E.i ρ aCI=sgF (ρ.i.getD 13 0) 7 (ρ.i.getD 1 0) (E.i ρ cP) (ρ.i.getD 14 0 / 4%2)%64:=by
 obtain ⟨l,t,g,j,f,hr⟩:=ctR ρ hH
 have hp:E.i ρ tO=E.i ρ cP:=by
  simp only [aYu,aYv,aYw,aYx,aYy,aYz,tO,cP,sgm,sgn]
  (try (generalize ρ.i.getD 18 0=w at *;rcases (show w=0∨w=1∨w=2∨w=3 by omega) with h | h | h | h <;> subst h <;> simp))
 generalize E.i ρ cP=p at *
 simp only [aYA,aYB,aYC,wT,wU,aQa,aCE,aCF,aQb,aQc,aQd,aQe,aQf,aQg,aQh,aQi,aQj,aQk,aQl,aQm,aQn,aQo,aQp,aQq,aQr,aQs,aQt,aQu,aQv,aCG,aQw,aQx,aCH,aQy,aQz,aQA,aQB,aQC,aCI,sgm,sgn,hp,sgV,sgF]
 simp only [Int.reduceEq,if_false,if_true]
 simp only [cy1,cy2,sgn]
 clear hH hp f
 generalize ρ.i.getD 1 0=q at *
 generalize ρ.i.getD 13 0=w at *
 generalize ρ.i.getD 14 0=cc at *
 refine ⟨by omega,?_⟩
 refine (Int.emod_eq_of_lt ?_ ?_).symm <;> (repeat' split) <;> omega
theorem bNO:enter Try.prog SH SHh 3000 40 54 ctH (ctl 7 0) ctM=some ([],.tup [],some (ctw wU (.v 2) aCI (.v 14))):=by kernel_rfl
def aYM:E:=.add (.v 1) (.lit 65535)
def aAZ:E:=.mod aYM (.lit 65536)
def aYN:E:=.add (.v 1) (.lit 32767)
def aYO:E:=.div aYN (.lit 32768)
def aYP:E:=.add aYO (.lit 1)
def aHW:E:=.mod aYP (.lit 2)
def aHX:E:=.le (.v 13) (.lit 31)
def aYQ:E:=.eq aHW (.lit 0)
def aYR:E:=.not aYQ
def aYS:E:=.div (.v 13) (.lit 2)
def aRg:E:=.mod aYS (.lit 2)
def aRh:E:=.eq aRg (.lit 0)
def aRi:E:=.not aRh
def aRj:E:=.ite aHX aYR aRi
def aRk:E:=.ite aRj (.lit 2) (.lit 0)
def aRl:E:=.add aHW aRk
def aRm:E:=.le (.v 1) (.lit 0)
def aRn:E:=.ite aRm (.lit 4) (.lit 0)
def aRo:E:=.add aRl aRn
def aRp:E:=.eq aAZ (.lit 0)
def aRq:E:=.ite aRp (.lit 8) (.lit 0)
def aRr:E:=.add aRo aRq
def aRs:E:=.le (.v 1) (.lit 32767)
def aRt:E:=.add (.v 1) (.lit (-65536))
def aRu:E:=.ite aRs (.v 1) aRt
def aRv:E:=.add aRu (.lit (-1))
def aCO:E:=.le aRv (.lit (-32769))
def aRw:E:=.ite aCO (.lit 16) (.lit 0)
def aRx:E:=.add aRr aRw
def aRy:E:=.le (.lit 32) (.v 13)
def aRz:E:=.ite aCO aHX aRy
def aRA:E:=.ite aRz (.lit 32) (.lit 0)
def aCP:E:=.add aRx aRA
theorem bOk (ρ:Env) (hH:ctH.ok ρ):E.i ρ aAZ=sgV 8 (ρ.i.getD 1 0) (E.i ρ cP) (ρ.i.getD 14 0 / 4%2)%65536∧E.i ρ aCP=sgF (ρ.i.getD 13 0) 8 (ρ.i.getD 1 0) (E.i ρ cP) (ρ.i.getD 14 0 / 4%2)%64:=by
 obtain ⟨l,t,g,j,f,hr⟩:=ctR ρ hH
 generalize E.i ρ cP=p at *
 simp only [aYM,aAZ,aYN,aYO,aYP,aHW,aHX,aYQ,aYR,aYS,aRg,aRh,aRi,aRj,aRk,aRl,aRm,aRn,aRo,aRp,aRq,aRr,aRs,aRt,aRu,aRv,aCO,aRw,aRx,aRy,aRz,aRA,aCP,sgm,sgn,sgV,sgF]
 simp only [Int.reduceEq,if_false,if_true]
 simp only [cy1,cy2,sgn]
 clear hH f
 generalize ρ.i.getD 1 0=q at *
 generalize ρ.i.getD 13 0=w at *
 generalize ρ.i.getD 14 0=cc at *
 refine ⟨by omega,?_⟩
 refine (Int.emod_eq_of_lt ?_ ?_).symm <;> (repeat' split) <;> omega
theorem bNQ:enter Try.prog SH SHh 3000 40 54 ctH (ctl 8 0) ctM=some ([],.tup [],some (ctw aAZ (.v 2) aCP (.v 14))):=by kernel_rfl
def aBb:E:=.add (.v 1) (.lit 1)
def aBc:E:=.mod aBb (.lit 65536)
def aZa:E:=.div aBb (.lit 32768)
def aIa:E:=.mod aZa (.lit 2)
def aIb:E:=.le (.v 13) (.lit 31)
def aZb:E:=.eq aIa (.lit 0)
def aZc:E:=.not aZb
def aZd:E:=.div (.v 13) (.lit 2)
def aZe:E:=.mod aZd (.lit 2)
def aZf:E:=.eq aZe (.lit 0)
def aRW:E:=.not aZf
def aRX:E:=.ite aIb aZc aRW
def aRY:E:=.ite aRX (.lit 2) (.lit 0)
def aRZ:E:=.add aIa aRY
def aSa:E:=.le aBb (.lit 65535)
def aSb:E:=.ite aSa (.lit 0) (.lit 4)
def aSc:E:=.add aRZ aSb
def aSd:E:=.eq aBc (.lit 0)
def aSe:E:=.ite aSd (.lit 8) (.lit 0)
def aSf:E:=.add aSc aSe
def aSg:E:=.le (.v 1) (.lit 32767)
def aSh:E:=.add (.v 1) (.lit (-65536))
def aSi:E:=.ite aSg (.v 1) aSh
def aCS:E:=.add aSi (.lit 1)
def aSj:E:=.le (.lit 32768) aCS
def aSk:E:=.le aCS (.lit (-32769))
def aCT:E:=.or aSj aSk
def aSl:E:=.ite aCT (.lit 16) (.lit 0)
def aSm:E:=.add aSf aSl
def aSn:E:=.le (.lit 32) (.v 13)
def aSo:E:=.ite aCT aIb aSn
def aSp:E:=.ite aSo (.lit 32) (.lit 0)
def aCU:E:=.add aSm aSp
theorem bOm (ρ:Env) (hH:ctH.ok ρ):E.i ρ aBc=sgV 9 (ρ.i.getD 1 0) (E.i ρ cP) (ρ.i.getD 14 0 / 4%2)%65536∧E.i ρ aCU=sgF (ρ.i.getD 13 0) 9 (ρ.i.getD 1 0) (E.i ρ cP) (ρ.i.getD 14 0 / 4%2)%64:=by
 obtain ⟨l,t,g,j,f,hr⟩:=ctR ρ hH
 generalize E.i ρ cP=p at *
 simp only [aBb,aBc,aZa,aIa,aIb,aZb,aZc,aZd,aZe,aZf,aRW,aRX,aRY,aRZ,aSa,aSb,aSc,aSd,aSe,aSf,aSg,aSh,aSi,aCS,aSj,aSk,aCT,aSl,aSm,aSn,aSo,aSp,aCU,sgm,sgn,sgV,sgF]
 simp only [Int.reduceEq,if_false,if_true]
 simp only [cy1,cy2,sgn]
 clear hH f
 generalize ρ.i.getD 1 0=q at *
 generalize ρ.i.getD 13 0=w at *
 generalize ρ.i.getD 14 0=cc at *
 refine ⟨by omega,?_⟩
 refine (Int.emod_eq_of_lt ?_ ?_).symm <;> (repeat' split) <;> omega
theorem bNS:enter Try.prog SH SHh 3000 40 54 ctH (ctl 9 0) ctM=some ([],.tup [],some (ctw aBc (.v 2) aCU (.v 14))):=by kernel_rfl
def oL:E:=.sub (.lit 65535) (.v 1)
def aJs:E:=.le oL (.lit 32767)
def aJt:E:=.ite aJs (.lit 0) (.lit 1)
def aJu:E:=.le (.v 13) (.lit 31)
def aJv:E:=.le (.lit 32768) oL
def aJw:E:=.div (.v 13) (.lit 2)
def aJx:E:=.mod aJw (.lit 2)
def aJy:E:=.eq aJx (.lit 0)
def aJz:E:=.not aJy
def aJA:E:=.ite aJu aJv aJz
def aFi:E:=.ite aJA (.lit 2) (.lit 0)
def aFj:E:=.add aJt aFi
def aFk:E:=.eq oL (.lit 0)
def aFl:E:=.ite aFk (.lit 8) (.lit 0)
def yN:E:=.add aFj aFl
theorem bIh (ρ:Env) (hH:ctH.ok ρ):E.i ρ oL=sgV 10 (ρ.i.getD 1 0) (E.i ρ cP) (ρ.i.getD 14 0 / 4%2)%65536∧E.i ρ yN=sgF (ρ.i.getD 13 0) 10 (ρ.i.getD 1 0) (E.i ρ cP) (ρ.i.getD 14 0 / 4%2)%64:=by
 obtain ⟨l,t,g,j,f,hr⟩:=ctR ρ hH
 generalize E.i ρ cP=p at *
 simp only [oL,aJs,aJt,aJu,aJv,aJw,aJx,aJy,aJz,aJA,aFi,aFj,aFk,aFl,yN,sgm,sgn,sgV,sgF]
 simp only [Int.reduceEq,if_false,if_true]
 simp only [cy1,cy2,sgn]
 clear hH f
 generalize ρ.i.getD 1 0=q at *
 generalize ρ.i.getD 13 0=w at *
 generalize ρ.i.getD 14 0=cc at *
 refine ⟨by omega,?_⟩
 refine (Int.emod_eq_of_lt ?_ ?_).symm <;> (repeat' split) <;> omega
theorem bHV:enter Try.prog SH SHh 3000 40 54 ctH (ctl 10 0) ctM=some ([],.tup [],some (ctw oL (.v 2) yN (.v 14))):=by kernel_rfl
def aJK:E:=.div (.v 1) (.lit 2)
def aJL:E:=.div (.v 1) (.lit 32768)
def aJM:E:=.mul aJL (.lit 32768)
def oN:E:=.add aJK aJM
def aJN:E:=.le oN (.lit 32767)
def aJO:E:=.ite aJN (.lit 0) (.lit 1)
def aJP:E:=.le (.v 13) (.lit 31)
def aJQ:E:=.le (.lit 32768) oN
def aJR:E:=.div (.v 13) (.lit 2)
def aJS:E:=.mod aJR (.lit 2)
def aFq:E:=.eq aJS (.lit 0)
def aFr:E:=.not aFq
def aFs:E:=.ite aJP aJQ aFr
def aFt:E:=.ite aFs (.lit 2) (.lit 0)
def aFu:E:=.add aJO aFt
def aFv:E:=.mod (.v 1) (.lit 2)
def aFw:E:=.eq aFv (.lit 0)
def aFx:E:=.ite aFw (.lit 0) (.lit 4)
def aFy:E:=.add aFu aFx
def aFz:E:=.eq oN (.lit 0)
def aFA:E:=.ite aFz (.lit 8) (.lit 0)
def yP:E:=.add aFy aFA
theorem bIj (ρ:Env) (hH:ctH.ok ρ):E.i ρ oN=sgV 11 (ρ.i.getD 1 0) (E.i ρ cP) (ρ.i.getD 14 0 / 4%2)%65536∧E.i ρ yP=sgF (ρ.i.getD 13 0) 11 (ρ.i.getD 1 0) (E.i ρ cP) (ρ.i.getD 14 0 / 4%2)%64:=by
 obtain ⟨l,t,g,j,f,hr⟩:=ctR ρ hH
 generalize E.i ρ cP=p at *
 simp only [aJK,aJL,aJM,oN,aJN,aJO,aJP,aJQ,aJR,aJS,aFq,aFr,aFs,aFt,aFu,aFv,aFw,aFx,aFy,aFz,aFA,yP,sgm,sgn,sgV,sgF]
 simp only [Int.reduceEq,if_false,if_true]
 simp only [cy1,cy2,sgn]
 clear hH f
 generalize ρ.i.getD 1 0=q at *
 generalize ρ.i.getD 13 0=w at *
 generalize ρ.i.getD 14 0=cc at *
 refine ⟨by omega,?_⟩
 refine (Int.emod_eq_of_lt ?_ ?_).symm <;> (repeat' split) <;> omega
theorem bHX:enter Try.prog SH SHh 3000 40 54 ctH (ctl 11 0) ctM=some ([],.tup [],some (ctw oN (.v 2) yP (.v 14))):=by kernel_rfl
def aKc:E:=.mod (.v 1) (.lit 32768)
def aKd:E:=.mul aKc (.lit 2)
def aKe:E:=.div (.v 14) (.lit 4)
def aKf:E:=.mod aKe (.lit 2)
def oP:E:=.add aKd aKf
def aKg:E:=.le oP (.lit 32767)
def aKh:E:=.ite aKg (.lit 0) (.lit 1)
def aKi:E:=.le (.v 13) (.lit 31)
def aKj:E:=.le (.lit 32768) oP
def aKk:E:=.div (.v 13) (.lit 2)
def aFM:E:=.mod aKk (.lit 2)
def aFN:E:=.eq aFM (.lit 0)
def aFO:E:=.not aFN
def aFP:E:=.ite aKi aKj aFO
def aFQ:E:=.ite aFP (.lit 2) (.lit 0)
def aFR:E:=.add aKh aFQ
def aFS:E:=.le (.v 1) (.lit 32767)
def aFT:E:=.ite aFS (.lit 0) (.lit 4)
def aFU:E:=.add aFR aFT
def aFV:E:=.eq oP (.lit 0)
def aFW:E:=.ite aFV (.lit 8) (.lit 0)
def yR:E:=.add aFU aFW
theorem bIl (ρ:Env) (hH:ctH.ok ρ):E.i ρ oP=sgV 12 (ρ.i.getD 1 0) (E.i ρ cP) (ρ.i.getD 14 0 / 4%2)%65536∧E.i ρ yR=sgF (ρ.i.getD 13 0) 12 (ρ.i.getD 1 0) (E.i ρ cP) (ρ.i.getD 14 0 / 4%2)%64:=by
 obtain ⟨l,t,g,j,f,hr⟩:=ctR ρ hH
 generalize E.i ρ cP=p at *
 simp only [aKc,aKd,aKe,aKf,oP,aKg,aKh,aKi,aKj,aKk,aFM,aFN,aFO,aFP,aFQ,aFR,aFS,aFT,aFU,aFV,aFW,yR,sgm,sgn,sgV,sgF]
 simp only [Int.reduceEq,if_false,if_true]
 simp only [cy1,cy2,sgn]
 clear hH f
 generalize ρ.i.getD 1 0=q at *
 generalize ρ.i.getD 13 0=w at *
 generalize ρ.i.getD 14 0=cc at *
 refine ⟨by omega,?_⟩
 refine (Int.emod_eq_of_lt ?_ ?_).symm <;> (repeat' split) <;> omega
theorem bHZ:enter Try.prog SH SHh 3000 40 54 ctH (ctl 12 0) ctM=some ([],.tup [],some (ctw oP (.v 2) yR (.v 14))):=by kernel_rfl
def aKu:E:=.mod (.v 1) (.lit 16384)
def aKv:E:=.mul aKu (.lit 4)
def rM:E:=.add aKv (.lit 3)
def aKw:E:=.le rM (.lit 32767)
def aKx:E:=.ite aKw (.lit 0) (.lit 1)
def aKy:E:=.le (.v 13) (.lit 31)
def aKz:E:=.le (.lit 32768) rM
def aKA:E:=.div (.v 13) (.lit 2)
def aKB:E:=.mod aKA (.lit 2)
def aKC:E:=.eq aKB (.lit 0)
def aGi:E:=.not aKC
def aGj:E:=.ite aKy aKz aGi
def aGk:E:=.ite aGj (.lit 2) (.lit 0)
def yT:E:=.add aKx aGk
theorem bIn (ρ:Env) (hH:ctH.ok ρ):E.i ρ rM=sgV 13 (ρ.i.getD 1 0) (E.i ρ cP) (ρ.i.getD 14 0 / 4%2)%65536∧E.i ρ yT=sgF (ρ.i.getD 13 0) 13 (ρ.i.getD 1 0) (E.i ρ cP) (ρ.i.getD 14 0 / 4%2)%64:=by
 obtain ⟨l,t,g,j,f,hr⟩:=ctR ρ hH
 generalize E.i ρ cP=p at *
 simp only [aKu,aKv,rM,aKw,aKx,aKy,aKz,aKA,aKB,aKC,aGi,aGj,aGk,yT,sgm,sgn,sgV,sgF]
 simp only [Int.reduceEq,if_false,if_true]
 simp only [cy1,cy2,sgn]
 clear hH f
 generalize ρ.i.getD 1 0=q at *
 generalize ρ.i.getD 13 0=w at *
 generalize ρ.i.getD 14 0=cc at *
 refine ⟨by omega,?_⟩
 refine (Int.emod_eq_of_lt ?_ ?_).symm <;> (repeat' split) <;> omega
theorem bIb:enter Try.prog SH SHh 3000 40 54 ctH (ctl 13 0) ctM=some ([],.tup [],some (ctw rM (.v 2) yT (.v 14))):=by kernel_rfl
def aKM:E:=.mod (.v 1) (.lit 4096)
def aKN:E:=.mul aKM (.lit 16)
def rO:E:=.add aKN (.lit 15)
def aKO:E:=.le rO (.lit 32767)
def aKP:E:=.ite aKO (.lit 0) (.lit 1)
def aKQ:E:=.le (.v 13) (.lit 31)
def aKR:E:=.le (.lit 32768) rO
def aKS:E:=.div (.v 13) (.lit 2)
def aKT:E:=.mod aKS (.lit 2)
def aKU:E:=.eq aKT (.lit 0)
def aGo:E:=.not aKU
def aGp:E:=.ite aKQ aKR aGo
def aGq:E:=.ite aGp (.lit 2) (.lit 0)
def yV:E:=.add aKP aGq
theorem bIp (ρ:Env) (hH:ctH.ok ρ):E.i ρ rO=sgV 14 (ρ.i.getD 1 0) (E.i ρ cP) (ρ.i.getD 14 0 / 4%2)%65536∧E.i ρ yV=sgF (ρ.i.getD 13 0) 14 (ρ.i.getD 1 0) (E.i ρ cP) (ρ.i.getD 14 0 / 4%2)%64:=by
 obtain ⟨l,t,g,j,f,hr⟩:=ctR ρ hH
 generalize E.i ρ cP=p at *
 simp only [aKM,aKN,rO,aKO,aKP,aKQ,aKR,aKS,aKT,aKU,aGo,aGp,aGq,yV,sgm,sgn,sgV,sgF]
 simp only [Int.reduceEq,if_false,if_true]
 simp only [cy1,cy2,sgn]
 clear hH f
 generalize ρ.i.getD 1 0=q at *
 generalize ρ.i.getD 13 0=w at *
 generalize ρ.i.getD 14 0=cc at *
 refine ⟨by omega,?_⟩
 refine (Int.emod_eq_of_lt ?_ ?_).symm <;> (repeat' split) <;> omega
theorem bId:enter Try.prog SH SHh 3000 40 54 ctH (ctl 14 0) ctM=some ([],.tup [],some (ctw rO (.v 2) yV (.v 14))):=by kernel_rfl
def aLe:E:=.mod (.v 1) (.lit 256)
def aLf:E:=.mul aLe (.lit 256)
def aLg:E:=.div (.v 1) (.lit 256)
def oR:E:=.add aLf aLg
def aLh:E:=.le oR (.lit 32767)
def aLi:E:=.ite aLh (.lit 0) (.lit 1)
def aLj:E:=.le (.v 13) (.lit 31)
def aLk:E:=.le (.lit 32768) oR
def aLl:E:=.div (.v 13) (.lit 2)
def aLm:E:=.mod aLl (.lit 2)
def aGu:E:=.eq aLm (.lit 0)
def aGv:E:=.not aGu
def aGw:E:=.ite aLj aLk aGv
def aGx:E:=.ite aGw (.lit 2) (.lit 0)
def aGy:E:=.add aLi aGx
def aGz:E:=.eq oR (.lit 0)
def aGA:E:=.ite aGz (.lit 8) (.lit 0)
def yX:E:=.add aGy aGA
theorem bIr (ρ:Env) (hH:ctH.ok ρ):E.i ρ oR=sgV 15 (ρ.i.getD 1 0) (E.i ρ cP) (ρ.i.getD 14 0 / 4%2)%65536∧E.i ρ yX=sgF (ρ.i.getD 13 0) 15 (ρ.i.getD 1 0) (E.i ρ cP) (ρ.i.getD 14 0 / 4%2)%64:=by
 obtain ⟨l,t,g,j,f,hr⟩:=ctR ρ hH
 generalize E.i ρ cP=p at *
 simp only [aLe,aLf,aLg,oR,aLh,aLi,aLj,aLk,aLl,aLm,aGu,aGv,aGw,aGx,aGy,aGz,aGA,yX,sgm,sgn,sgV,sgF]
 simp only [Int.reduceEq,if_false,if_true]
 simp only [cy1,cy2,sgn]
 clear hH f
 generalize ρ.i.getD 1 0=q at *
 generalize ρ.i.getD 13 0=w at *
 generalize ρ.i.getD 14 0=cc at *
 refine ⟨by omega,?_⟩
 refine (Int.emod_eq_of_lt ?_ ?_).symm <;> (repeat' split) <;> omega
theorem bIf:enter Try.prog SH SHh 3000 40 54 ctH (ctl 15 0) ctM=some ([],.tup [],some (ctw oR (.v 2) yX (.v 14))):=by kernel_rfl
theorem uJ (xs:Nat→Nat→Ext) (ρ:Env) (hI:ρ.I=Iv xs) (k:Int) (hk:E.i ρ (.v 19)=k) (ha:E.i ρ (.v 20)=1) (V F:E) (h:E.i ρ V=sgV k (ρ.i.getD 2 0) (E.i ρ cP) (ρ.i.getD 13 0 / 4%2)%65536∧E.i ρ F=sgF (ρ.i.getD 14 0) k (ρ.i.getD 2 0) (E.i ρ cP) (ρ.i.getD 13 0 / 4%2)%64):nN ρ ρ (ctw (.v 1) V (.v 13) F) ctO:=by
 obtain ⟨t1,t2,t3,t4⟩:=ctT1 xs ρ hI k hk ha
 exact ctwE ρ _ _ _ _ t3.symm (h.1.trans t1.symm) t4.symm (h.2.trans t2.symm)
theorem bNV (ρ:Env) (hH:ctH.ok ρ):E.i ρ (.v 2)=sgV 0 (ρ.i.getD 2 0) (E.i ρ cP) (ρ.i.getD 13 0 / 4%2)%65536∧E.i ρ (.v 14)=sgF (ρ.i.getD 14 0) 0 (ρ.i.getD 2 0) (E.i ρ cP) (ρ.i.getD 13 0 / 4%2)%64:=by
 obtain ⟨l,t,g,j,_⟩:=ctR ρ hH
 rw [show sgV 0 (ρ.i.getD 2 0) (E.i ρ cP) _=ρ.i.getD 2 0 from rfl,show sgF (ρ.i.getD 14 0) 0 (ρ.i.getD 2 0) (E.i ρ cP) _=ρ.i.getD 14 0 from rfl,i_v,i_v];omega
theorem bNB:enter Try.prog SH SHh 3000 40 54 ctH (ctl 0 1) ctM=some ([],.tup [],none):=by kernel_rfl
def aWO:E:=.eq (.v 18) (.lit 0)
def aWP:E:=.sel (.av 2) (.v 5)
def aWQ:E:=.eq (.v 18) (.lit 1)
def aWR:E:=.eq (.v 18) (.lit 2)
def aWS:E:=.ite aWR (.v 9) (.v 10)
def aWT:E:=.ite aWQ (.v 16) aWS
def aHN:E:=.ite aWO aWP aWT
def tH:E:=.bits .or .u16 (.v 2) aHN
def aWU:E:=.le tH (.lit 32767)
def aWV:E:=.ite aWU (.lit 0) (.lit 1)
def aLH:E:=.le (.v 14) (.lit 31)
def aLI:E:=.le (.lit 32768) tH
def aLJ:E:=.div (.v 14) (.lit 2)
def aLK:E:=.mod aLJ (.lit 2)
def aLL:E:=.eq aLK (.lit 0)
def aLM:E:=.not aLL
def aLN:E:=.ite aLH aLI aLM
def aLO:E:=.ite aLN (.lit 2) (.lit 0)
def aLP:E:=.add aWV aLO
def aLQ:E:=.eq tH (.lit 0)
def aLR:E:=.ite aLQ (.lit 8) (.lit 0)
def aBT:E:=.add aLP aLR
theorem bNX (ρ:Env) (hH:ctH.ok ρ):E.i ρ tH=sgV 1 (ρ.i.getD 2 0) (E.i ρ cP) (ρ.i.getD 13 0 / 4%2)%65536∧E.i ρ aBT=sgF (ρ.i.getD 14 0) 1 (ρ.i.getD 2 0) (E.i ρ cP) (ρ.i.getD 13 0 / 4%2)%64:=by
 obtain ⟨l,t,g,j,f,hr⟩:=ctR ρ hH
 have hp:E.i ρ aHN=E.i ρ cP:=by
  simp only [aWO,aWP,aWQ,aWR,aWS,aWT,aHN,cP,sgm,sgn]
  (try (generalize ρ.i.getD 18 0=w at *;rcases (show w=0∨w=1∨w=2∨w=3 by omega) with h | h | h | h <;> subst h <;> simp))
 generalize E.i ρ cP=p at *
 simp only [tH,aWU,aWV,aLH,aLI,aLJ,aLK,aLL,aLM,aLN,aLO,aLP,aLQ,aLR,aBT,sgm,sgn,hp,sgV,sgF]
 simp only [Int.reduceEq,if_false,if_true]
 simp only [cy1,cy2,sgn]
 clear hH hp f
 generalize ρ.i.getD 2 0=q at *
 generalize ρ.i.getD 14 0=w at *
 generalize ρ.i.getD 13 0=cc at *
 have hb:=aFf .or (by simp) q p t hr
 generalize aK .or .u16 q p=x at *
 refine ⟨by omega,?_⟩
 refine (Int.emod_eq_of_lt ?_ ?_).symm <;> (repeat' split) <;> omega
theorem bND:enter Try.prog SH SHh 3000 40 54 ctH (ctl 1 1) ctM=some ([],.tup [],some (ctw (.v 1) tH (.v 13) aBT)):=by kernel_rfl
def aXe:E:=.eq (.v 18) (.lit 0)
def aXf:E:=.sel (.av 2) (.v 5)
def aXg:E:=.eq (.v 18) (.lit 1)
def aXh:E:=.eq (.v 18) (.lit 2)
def aXi:E:=.ite aXh (.v 9) (.v 10)
def aXj:E:=.ite aXg (.v 16) aXi
def aHP:E:=.ite aXe aXf aXj
def tJ:E:=.bits .and .u16 (.v 2) aHP
def aXk:E:=.le tJ (.lit 32767)
def aXl:E:=.ite aXk (.lit 0) (.lit 1)
def aMd:E:=.le (.v 14) (.lit 31)
def aMe:E:=.le (.lit 32768) tJ
def aMf:E:=.div (.v 14) (.lit 2)
def aMg:E:=.mod aMf (.lit 2)
def aMh:E:=.eq aMg (.lit 0)
def aMi:E:=.not aMh
def aMj:E:=.ite aMd aMe aMi
def aMk:E:=.ite aMj (.lit 2) (.lit 0)
def aMl:E:=.add aXl aMk
def aMm:E:=.eq tJ (.lit 0)
def aMn:E:=.ite aMm (.lit 8) (.lit 0)
def aBV:E:=.add aMl aMn
theorem bNZ (ρ:Env) (hH:ctH.ok ρ):E.i ρ tJ=sgV 2 (ρ.i.getD 2 0) (E.i ρ cP) (ρ.i.getD 13 0 / 4%2)%65536∧E.i ρ aBV=sgF (ρ.i.getD 14 0) 2 (ρ.i.getD 2 0) (E.i ρ cP) (ρ.i.getD 13 0 / 4%2)%64:=by
 obtain ⟨l,t,g,j,f,hr⟩:=ctR ρ hH
 have hp:E.i ρ aHP=E.i ρ cP:=by
  simp only [aXe,aXf,aXg,aXh,aXi,aXj,aHP,cP,sgm,sgn]
  (try (generalize ρ.i.getD 18 0=w at *;rcases (show w=0∨w=1∨w=2∨w=3 by omega) with h | h | h | h <;> subst h <;> simp))
 generalize E.i ρ cP=p at *
 simp only [tJ,aXk,aXl,aMd,aMe,aMf,aMg,aMh,aMi,aMj,aMk,aMl,aMm,aMn,aBV,sgm,sgn,hp,sgV,sgF]
 simp only [Int.reduceEq,if_false,if_true]
 simp only [cy1,cy2,sgn]
 clear hH hp f
 generalize ρ.i.getD 2 0=q at *
 generalize ρ.i.getD 14 0=w at *
 generalize ρ.i.getD 13 0=cc at *
 have hb:=aFf .and (by simp) q p t hr
 generalize aK .and .u16 q p=x at *
 refine ⟨by omega,?_⟩
 refine (Int.emod_eq_of_lt ?_ ?_).symm <;> (repeat' split) <;> omega
theorem bNF:enter Try.prog SH SHh 3000 40 54 ctH (ctl 2 1) ctM=some ([],.tup [],some (ctw (.v 1) tJ (.v 13) aBV)):=by kernel_rfl
def aXu:E:=.eq (.v 18) (.lit 0)
def aXv:E:=.sel (.av 2) (.v 5)
def aXw:E:=.eq (.v 18) (.lit 1)
def aXx:E:=.eq (.v 18) (.lit 2)
def aXy:E:=.ite aXx (.v 9) (.v 10)
def aXz:E:=.ite aXw (.v 16) aXy
def aHR:E:=.ite aXu aXv aXz
def tL:E:=.bits .xor .u16 (.v 2) aHR
def aXA:E:=.le tL (.lit 32767)
def aXB:E:=.ite aXA (.lit 0) (.lit 1)
def aMz:E:=.le (.v 14) (.lit 31)
def aMA:E:=.le (.lit 32768) tL
def aMB:E:=.div (.v 14) (.lit 2)
def aMC:E:=.mod aMB (.lit 2)
def aMD:E:=.eq aMC (.lit 0)
def aME:E:=.not aMD
def aMF:E:=.ite aMz aMA aME
def aMG:E:=.ite aMF (.lit 2) (.lit 0)
def aMH:E:=.add aXB aMG
def aMI:E:=.eq tL (.lit 0)
def aMJ:E:=.ite aMI (.lit 8) (.lit 0)
def aBX:E:=.add aMH aMJ
theorem bOb (ρ:Env) (hH:ctH.ok ρ):E.i ρ tL=sgV 3 (ρ.i.getD 2 0) (E.i ρ cP) (ρ.i.getD 13 0 / 4%2)%65536∧E.i ρ aBX=sgF (ρ.i.getD 14 0) 3 (ρ.i.getD 2 0) (E.i ρ cP) (ρ.i.getD 13 0 / 4%2)%64:=by
 obtain ⟨l,t,g,j,f,hr⟩:=ctR ρ hH
 have hp:E.i ρ aHR=E.i ρ cP:=by
  simp only [aXu,aXv,aXw,aXx,aXy,aXz,aHR,cP,sgm,sgn]
  (try (generalize ρ.i.getD 18 0=w at *;rcases (show w=0∨w=1∨w=2∨w=3 by omega) with h | h | h | h <;> subst h <;> simp))
 generalize E.i ρ cP=p at *
 simp only [tL,aXA,aXB,aMz,aMA,aMB,aMC,aMD,aME,aMF,aMG,aMH,aMI,aMJ,aBX,sgm,sgn,hp,sgV,sgF]
 simp only [Int.reduceEq,if_false,if_true]
 simp only [cy1,cy2,sgn]
 clear hH hp f
 generalize ρ.i.getD 2 0=q at *
 generalize ρ.i.getD 14 0=w at *
 generalize ρ.i.getD 13 0=cc at *
 have hb:=aFf .xor (by simp) q p t hr
 generalize aK .xor .u16 q p=x at *
 refine ⟨by omega,?_⟩
 refine (Int.emod_eq_of_lt ?_ ?_).symm <;> (repeat' split) <;> omega
theorem bNH:enter Try.prog SH SHh 3000 40 54 ctH (ctl 3 1) ctM=some ([],.tup [],some (ctw (.v 1) tL (.v 13) aBX)):=by kernel_rfl
def aXJ:E:=.eq (.v 18) (.lit 0)
def aXK:E:=.sel (.av 2) (.v 5)
def aXL:E:=.eq (.v 18) (.lit 1)
def aXM:E:=.eq (.v 18) (.lit 2)
def aXN:E:=.ite aXM (.v 9) (.v 10)
def aXO:E:=.ite aXL (.v 16) aXN
def pU:E:=.ite aXJ aXK aXO
def aHT:E:=.sub (.v 2) pU
def aAU:E:=.mod aHT (.lit 65536)
def aXP:E:=.div aHT (.lit 32768)
def aCd:E:=.mod aXP (.lit 2)
def aCe:E:=.le (.v 14) (.lit 31)
def aNm:E:=.eq aCd (.lit 0)
def aNn:E:=.not aNm
def aNo:E:=.div (.v 14) (.lit 2)
def aNp:E:=.mod aNo (.lit 2)
def aNq:E:=.eq aNp (.lit 0)
def aNr:E:=.not aNq
def aNs:E:=.ite aCe aNn aNr
def aNt:E:=.ite aNs (.lit 2) (.lit 0)
def aNu:E:=.add aCd aNt
def aNv:E:=.lt (.v 2) pU
def aNw:E:=.ite aNv (.lit 4) (.lit 0)
def aNx:E:=.add aNu aNw
def aNy:E:=.eq aAU (.lit 0)
def aNz:E:=.ite aNy (.lit 8) (.lit 0)
def aNA:E:=.add aNx aNz
def aNB:E:=.le (.v 2) (.lit 32767)
def aNC:E:=.add (.v 2) (.lit (-65536))
def aND:E:=.ite aNB (.v 2) aNC
def aNE:E:=.le pU (.lit 32767)
def aNF:E:=.add pU (.lit (-65536))
def aNG:E:=.ite aNE pU aNF
def aCf:E:=.sub aND aNG
def aNH:E:=.le (.lit 32768) aCf
def aNI:E:=.le aCf (.lit (-32769))
def aCg:E:=.or aNH aNI
def aNJ:E:=.ite aCg (.lit 16) (.lit 0)
def aNK:E:=.add aNA aNJ
def aNL:E:=.le (.lit 32) (.v 14)
def aNM:E:=.ite aCg aCe aNL
def aNN:E:=.ite aNM (.lit 32) (.lit 0)
def aCh:E:=.add aNK aNN
theorem bOd (ρ:Env) (hH:ctH.ok ρ):E.i ρ aAU=sgV 4 (ρ.i.getD 2 0) (E.i ρ cP) (ρ.i.getD 13 0 / 4%2)%65536∧E.i ρ aCh=sgF (ρ.i.getD 14 0) 4 (ρ.i.getD 2 0) (E.i ρ cP) (ρ.i.getD 13 0 / 4%2)%64:=by
 obtain ⟨l,t,g,j,f,hr⟩:=ctR ρ hH
 have hp:E.i ρ pU=E.i ρ cP:=by
  simp only [aXJ,aXK,aXL,aXM,aXN,aXO,pU,cP,sgm,sgn]
  (try (generalize ρ.i.getD 18 0=w at *;rcases (show w=0∨w=1∨w=2∨w=3 by omega) with h | h | h | h <;> subst h <;> simp))
 generalize E.i ρ cP=p at *
 simp only [aHT,aAU,aXP,aCd,aCe,aNm,aNn,aNo,aNp,aNq,aNr,aNs,aNt,aNu,aNv,aNw,aNx,aNy,aNz,aNA,aNB,aNC,aND,aNE,aNF,aNG,aCf,aNH,aNI,aCg,aNJ,aNK,aNL,aNM,aNN,aCh,sgm,sgn,hp,sgV,sgF]
 simp only [Int.reduceEq,if_false,if_true]
 simp only [cy1,cy2,sgn]
 clear hH hp f
 generalize ρ.i.getD 2 0=q at *
 generalize ρ.i.getD 14 0=w at *
 generalize ρ.i.getD 13 0=cc at *
 refine ⟨by omega,?_⟩
 refine (Int.emod_eq_of_lt ?_ ?_).symm <;> (repeat' split) <;> omega
theorem bNJ:enter Try.prog SH SHh 3000 40 54 ctH (ctl 4 1) ctM=some ([],.tup [],some (ctw (.v 1) aAU (.v 13) aCh)):=by kernel_rfl
def aXX:E:=.eq (.v 18) (.lit 0)
def aXY:E:=.sel (.av 2) (.v 5)
def aXZ:E:=.eq (.v 18) (.lit 1)
def aYa:E:=.eq (.v 18) (.lit 2)
def aYb:E:=.ite aYa (.v 9) (.v 10)
def aYc:E:=.ite aXZ (.v 16) aYb
def tN:E:=.ite aXX aXY aYc
def aAX:E:=.add (.v 2) tN
def aAY:E:=.mod aAX (.lit 65536)
def aYd:E:=.div aAX (.lit 32768)
def aCn:E:=.mod aYd (.lit 2)
def aCo:E:=.le (.v 14) (.lit 31)
def aOq:E:=.eq aCn (.lit 0)
def aOr:E:=.not aOq
def aOs:E:=.div (.v 14) (.lit 2)
def aOt:E:=.mod aOs (.lit 2)
def aOu:E:=.eq aOt (.lit 0)
def aOv:E:=.not aOu
def aOw:E:=.ite aCo aOr aOv
def aOx:E:=.ite aOw (.lit 2) (.lit 0)
def aOy:E:=.add aCn aOx
def aOz:E:=.le aAX (.lit 65535)
def aOA:E:=.ite aOz (.lit 0) (.lit 4)
def aOB:E:=.add aOy aOA
def aOC:E:=.eq aAY (.lit 0)
def aOD:E:=.ite aOC (.lit 8) (.lit 0)
def aOE:E:=.add aOB aOD
def aOF:E:=.le (.v 2) (.lit 32767)
def aOG:E:=.add (.v 2) (.lit (-65536))
def aOH:E:=.ite aOF (.v 2) aOG
def aOI:E:=.le tN (.lit 32767)
def aOJ:E:=.add tN (.lit (-65536))
def aOK:E:=.ite aOI tN aOJ
def aCp:E:=.add aOH aOK
def aOL:E:=.le (.lit 32768) aCp
def aOM:E:=.le aCp (.lit (-32769))
def aCq:E:=.or aOL aOM
def aON:E:=.ite aCq (.lit 16) (.lit 0)
def aOO:E:=.add aOE aON
def aOP:E:=.le (.lit 32) (.v 14)
def aOQ:E:=.ite aCq aCo aOP
def aOR:E:=.ite aOQ (.lit 32) (.lit 0)
def aCr:E:=.add aOO aOR
theorem bOf (ρ:Env) (hH:ctH.ok ρ):E.i ρ aAY=sgV 5 (ρ.i.getD 2 0) (E.i ρ cP) (ρ.i.getD 13 0 / 4%2)%65536∧E.i ρ aCr=sgF (ρ.i.getD 14 0) 5 (ρ.i.getD 2 0) (E.i ρ cP) (ρ.i.getD 13 0 / 4%2)%64:=by
 obtain ⟨l,t,g,j,f,hr⟩:=ctR ρ hH
 have hp:E.i ρ tN=E.i ρ cP:=by
  simp only [aXX,aXY,aXZ,aYa,aYb,aYc,tN,cP,sgm,sgn]
  (try (generalize ρ.i.getD 18 0=w at *;rcases (show w=0∨w=1∨w=2∨w=3 by omega) with h | h | h | h <;> subst h <;> simp))
 generalize E.i ρ cP=p at *
 simp only [aAX,aAY,aYd,aCn,aCo,aOq,aOr,aOs,aOt,aOu,aOv,aOw,aOx,aOy,aOz,aOA,aOB,aOC,aOD,aOE,aOF,aOG,aOH,aOI,aOJ,aOK,aCp,aOL,aOM,aCq,aON,aOO,aOP,aOQ,aOR,aCr,sgm,sgn,hp,sgV,sgF]
 simp only [Int.reduceEq,if_false,if_true]
 simp only [cy1,cy2,sgn]
 clear hH hp f
 generalize ρ.i.getD 2 0=q at *
 generalize ρ.i.getD 14 0=w at *
 generalize ρ.i.getD 13 0=cc at *
 refine ⟨by omega,?_⟩
 refine (Int.emod_eq_of_lt ?_ ?_).symm <;> (repeat' split) <;> omega
theorem bNL:enter Try.prog SH SHh 3000 40 54 ctH (ctl 5 1) ctM=some ([],.tup [],some (ctw (.v 1) aAY (.v 13) aCr)):=by kernel_rfl
def aYm:E:=.eq (.v 18) (.lit 0)
def aYn:E:=.sel (.av 2) (.v 5)
def aYo:E:=.eq (.v 18) (.lit 1)
def aYp:E:=.eq (.v 18) (.lit 2)
def aYq:E:=.ite aYp (.v 9) (.v 10)
def aYr:E:=.ite aYo (.v 16) aYq
def pW:E:=.ite aYm aYn aYr
def aYs:E:=.sub (.v 2) pW
def aYt:E:=.div (.v 13) (.lit 4)
def aHV:E:=.mod aYt (.lit 2)
def aCy:E:=.sub aYs aHV
def wR:E:=.mod aCy (.lit 65536)
def aPw:E:=.div aCy (.lit 32768)
def aCz:E:=.mod aPw (.lit 2)
def aCA:E:=.le (.v 14) (.lit 31)
def aPx:E:=.eq aCz (.lit 0)
def aPy:E:=.not aPx
def aPz:E:=.div (.v 14) (.lit 2)
def aPA:E:=.mod aPz (.lit 2)
def aPB:E:=.eq aPA (.lit 0)
def aPC:E:=.not aPB
def aPD:E:=.ite aCA aPy aPC
def aPE:E:=.ite aPD (.lit 2) (.lit 0)
def aPF:E:=.add aCz aPE
def aPG:E:=.add pW aHV
def aPH:E:=.lt (.v 2) aPG
def aPI:E:=.ite aPH (.lit 4) (.lit 0)
def aPJ:E:=.add aPF aPI
def aPK:E:=.eq wR (.lit 0)
def aPL:E:=.ite aPK (.lit 8) (.lit 0)
def aPM:E:=.add aPJ aPL
def aPN:E:=.le (.v 2) (.lit 32767)
def aPO:E:=.add (.v 2) (.lit (-65536))
def aPP:E:=.ite aPN (.v 2) aPO
def aPQ:E:=.le pW (.lit 32767)
def aPR:E:=.add pW (.lit (-65536))
def aPS:E:=.ite aPQ pW aPR
def aCB:E:=.sub aPP aPS
def aPT:E:=.le (.lit 32768) aCB
def aPU:E:=.le aCB (.lit (-32769))
def aCC:E:=.or aPT aPU
def aPV:E:=.ite aCC (.lit 16) (.lit 0)
def aPW:E:=.add aPM aPV
def aPX:E:=.le (.lit 32) (.v 14)
def aPY:E:=.ite aCC aCA aPX
def aPZ:E:=.ite aPY (.lit 32) (.lit 0)
def aCD:E:=.add aPW aPZ
theorem bOh (ρ:Env) (hH:ctH.ok ρ):E.i ρ wR=sgV 6 (ρ.i.getD 2 0) (E.i ρ cP) (ρ.i.getD 13 0 / 4%2)%65536∧E.i ρ aCD=sgF (ρ.i.getD 14 0) 6 (ρ.i.getD 2 0) (E.i ρ cP) (ρ.i.getD 13 0 / 4%2)%64:=by
 obtain ⟨l,t,g,j,f,hr⟩:=ctR ρ hH
 have hp:E.i ρ pW=E.i ρ cP:=by
  simp only [aYm,aYn,aYo,aYp,aYq,aYr,pW,cP,sgm,sgn]
  (try (generalize ρ.i.getD 18 0=w at *;rcases (show w=0∨w=1∨w=2∨w=3 by omega) with h | h | h | h <;> subst h <;> simp))
 generalize E.i ρ cP=p at *
 simp only [aYs,aYt,aHV,aCy,wR,aPw,aCz,aCA,aPx,aPy,aPz,aPA,aPB,aPC,aPD,aPE,aPF,aPG,aPH,aPI,aPJ,aPK,aPL,aPM,aPN,aPO,aPP,aPQ,aPR,aPS,aCB,aPT,aPU,aCC,aPV,aPW,aPX,aPY,aPZ,aCD,sgm,sgn,hp,sgV,sgF]
 simp only [Int.reduceEq,if_false,if_true]
 simp only [cy1,cy2,sgn]
 clear hH hp f
 generalize ρ.i.getD 2 0=q at *
 generalize ρ.i.getD 14 0=w at *
 generalize ρ.i.getD 13 0=cc at *
 refine ⟨by omega,?_⟩
 refine (Int.emod_eq_of_lt ?_ ?_).symm <;> (repeat' split) <;> omega
theorem bNN:enter Try.prog SH SHh 3000 40 54 ctH (ctl 6 1) ctM=some ([],.tup [],some (ctw (.v 1) wR (.v 13) aCD)):=by kernel_rfl
def aYD:E:=.eq (.v 18) (.lit 0)
def aYE:E:=.sel (.av 2) (.v 5)
def aYF:E:=.eq (.v 18) (.lit 1)
def aYG:E:=.eq (.v 18) (.lit 2)
def aYH:E:=.ite aYG (.v 9) (.v 10)
def aYI:E:=.ite aYF (.v 16) aYH
def tP:E:=.ite aYD aYE aYI
def aYJ:E:=.add (.v 2) tP
def aYK:E:=.div (.v 13) (.lit 4)
def aYL:E:=.mod aYK (.lit 2)
def wV:E:=.add aYJ aYL
def wW:E:=.mod wV (.lit 65536)
def aQD:E:=.div wV (.lit 32768)
def aCJ:E:=.mod aQD (.lit 2)
def aCK:E:=.le (.v 14) (.lit 31)
def aQE:E:=.eq aCJ (.lit 0)
def aQF:E:=.not aQE
def aQG:E:=.div (.v 14) (.lit 2)
def aQH:E:=.mod aQG (.lit 2)
def aQI:E:=.eq aQH (.lit 0)
def aQJ:E:=.not aQI
def aQK:E:=.ite aCK aQF aQJ
def aQL:E:=.ite aQK (.lit 2) (.lit 0)
def aQM:E:=.add aCJ aQL
def aQN:E:=.le wV (.lit 65535)
def aQO:E:=.ite aQN (.lit 0) (.lit 4)
def aQP:E:=.add aQM aQO
def aQQ:E:=.eq wW (.lit 0)
def aQR:E:=.ite aQQ (.lit 8) (.lit 0)
def aQS:E:=.add aQP aQR
def aQT:E:=.le (.v 2) (.lit 32767)
def aQU:E:=.add (.v 2) (.lit (-65536))
def aQV:E:=.ite aQT (.v 2) aQU
def aQW:E:=.le tP (.lit 32767)
def aQX:E:=.add tP (.lit (-65536))
def aQY:E:=.ite aQW tP aQX
def aCL:E:=.add aQV aQY
def aQZ:E:=.le (.lit 32768) aCL
def aRa:E:=.le aCL (.lit (-32769))
def aCM:E:=.or aQZ aRa
def aRb:E:=.ite aCM (.lit 16) (.lit 0)
def aRc:E:=.add aQS aRb
def aRd:E:=.le (.lit 32) (.v 14)
def aRe:E:=.ite aCM aCK aRd
def aRf:E:=.ite aRe (.lit 32) (.lit 0)
def aCN:E:=.add aRc aRf
theorem bOj (ρ:Env) (hH:ctH.ok ρ):E.i ρ wW=sgV 7 (ρ.i.getD 2 0) (E.i ρ cP) (ρ.i.getD 13 0 / 4%2)%65536∧E.i ρ aCN=sgF (ρ.i.getD 14 0) 7 (ρ.i.getD 2 0) (E.i ρ cP) (ρ.i.getD 13 0 / 4%2)%64:=by
 obtain ⟨l,t,g,j,f,hr⟩:=ctR ρ hH
 have hp:E.i ρ tP=E.i ρ cP:=by
  simp only [aYD,aYE,aYF,aYG,aYH,aYI,tP,cP,sgm,sgn]
  (try (generalize ρ.i.getD 18 0=w at *;rcases (show w=0∨w=1∨w=2∨w=3 by omega) with h | h | h | h <;> subst h <;> simp))
 generalize E.i ρ cP=p at *
 simp only [aYJ,aYK,aYL,wV,wW,aQD,aCJ,aCK,aQE,aQF,aQG,aQH,aQI,aQJ,aQK,aQL,aQM,aQN,aQO,aQP,aQQ,aQR,aQS,aQT,aQU,aQV,aQW,aQX,aQY,aCL,aQZ,aRa,aCM,aRb,aRc,aRd,aRe,aRf,aCN,sgm,sgn,hp,sgV,sgF]
 simp only [Int.reduceEq,if_false,if_true]
 simp only [cy1,cy2,sgn]
 clear hH hp f
 generalize ρ.i.getD 2 0=q at *
 generalize ρ.i.getD 14 0=w at *
 generalize ρ.i.getD 13 0=cc at *
 refine ⟨by omega,?_⟩
 refine (Int.emod_eq_of_lt ?_ ?_).symm <;> (repeat' split) <;> omega
theorem bNP:enter Try.prog SH SHh 3000 40 54 ctH (ctl 7 1) ctM=some ([],.tup [],some (ctw (.v 1) wW (.v 13) aCN)):=by kernel_rfl
def aYT:E:=.add (.v 2) (.lit 65535)
def aBa:E:=.mod aYT (.lit 65536)
def aYU:E:=.add (.v 2) (.lit 32767)
def aYV:E:=.div aYU (.lit 32768)
def aYW:E:=.add aYV (.lit 1)
def aHY:E:=.mod aYW (.lit 2)
def aHZ:E:=.le (.v 14) (.lit 31)
def aYX:E:=.eq aHY (.lit 0)
def aYY:E:=.not aYX
def aYZ:E:=.div (.v 14) (.lit 2)
def aRB:E:=.mod aYZ (.lit 2)
def aRC:E:=.eq aRB (.lit 0)
def aRD:E:=.not aRC
def aRE:E:=.ite aHZ aYY aRD
def aRF:E:=.ite aRE (.lit 2) (.lit 0)
def aRG:E:=.add aHY aRF
def aRH:E:=.le (.v 2) (.lit 0)
def aRI:E:=.ite aRH (.lit 4) (.lit 0)
def aRJ:E:=.add aRG aRI
def aRK:E:=.eq aBa (.lit 0)
def aRL:E:=.ite aRK (.lit 8) (.lit 0)
def aRM:E:=.add aRJ aRL
def aRN:E:=.le (.v 2) (.lit 32767)
def aRO:E:=.add (.v 2) (.lit (-65536))
def aRP:E:=.ite aRN (.v 2) aRO
def aRQ:E:=.add aRP (.lit (-1))
def aCQ:E:=.le aRQ (.lit (-32769))
def aRR:E:=.ite aCQ (.lit 16) (.lit 0)
def aRS:E:=.add aRM aRR
def aRT:E:=.le (.lit 32) (.v 14)
def aRU:E:=.ite aCQ aHZ aRT
def aRV:E:=.ite aRU (.lit 32) (.lit 0)
def aCR:E:=.add aRS aRV
theorem bOl (ρ:Env) (hH:ctH.ok ρ):E.i ρ aBa=sgV 8 (ρ.i.getD 2 0) (E.i ρ cP) (ρ.i.getD 13 0 / 4%2)%65536∧E.i ρ aCR=sgF (ρ.i.getD 14 0) 8 (ρ.i.getD 2 0) (E.i ρ cP) (ρ.i.getD 13 0 / 4%2)%64:=by
 obtain ⟨l,t,g,j,f,hr⟩:=ctR ρ hH
 generalize E.i ρ cP=p at *
 simp only [aYT,aBa,aYU,aYV,aYW,aHY,aHZ,aYX,aYY,aYZ,aRB,aRC,aRD,aRE,aRF,aRG,aRH,aRI,aRJ,aRK,aRL,aRM,aRN,aRO,aRP,aRQ,aCQ,aRR,aRS,aRT,aRU,aRV,aCR,sgm,sgn,sgV,sgF]
 simp only [Int.reduceEq,if_false,if_true]
 simp only [cy1,cy2,sgn]
 clear hH f
 generalize ρ.i.getD 2 0=q at *
 generalize ρ.i.getD 14 0=w at *
 generalize ρ.i.getD 13 0=cc at *
 refine ⟨by omega,?_⟩
 refine (Int.emod_eq_of_lt ?_ ?_).symm <;> (repeat' split) <;> omega
theorem bNR:enter Try.prog SH SHh 3000 40 54 ctH (ctl 8 1) ctM=some ([],.tup [],some (ctw (.v 1) aBa (.v 13) aCR)):=by kernel_rfl
def aBd:E:=.add (.v 2) (.lit 1)
def aBe:E:=.mod aBd (.lit 65536)
def aZg:E:=.div aBd (.lit 32768)
def aIc:E:=.mod aZg (.lit 2)
def aId:E:=.le (.v 14) (.lit 31)
def aZh:E:=.eq aIc (.lit 0)
def aZi:E:=.not aZh
def aZj:E:=.div (.v 14) (.lit 2)
def aZk:E:=.mod aZj (.lit 2)
def aZl:E:=.eq aZk (.lit 0)
def aSq:E:=.not aZl
def aSr:E:=.ite aId aZi aSq
def aSs:E:=.ite aSr (.lit 2) (.lit 0)
def aSt:E:=.add aIc aSs
def aSu:E:=.le aBd (.lit 65535)
def aSv:E:=.ite aSu (.lit 0) (.lit 4)
def aSw:E:=.add aSt aSv
def aSx:E:=.eq aBe (.lit 0)
def aSy:E:=.ite aSx (.lit 8) (.lit 0)
def aSz:E:=.add aSw aSy
def aSA:E:=.le (.v 2) (.lit 32767)
def aSB:E:=.add (.v 2) (.lit (-65536))
def aSC:E:=.ite aSA (.v 2) aSB
def aCV:E:=.add aSC (.lit 1)
def aSD:E:=.le (.lit 32768) aCV
def aSE:E:=.le aCV (.lit (-32769))
def aCW:E:=.or aSD aSE
def aSF:E:=.ite aCW (.lit 16) (.lit 0)
def aSG:E:=.add aSz aSF
def aSH:E:=.le (.lit 32) (.v 14)
def aSI:E:=.ite aCW aId aSH
def aSJ:E:=.ite aSI (.lit 32) (.lit 0)
def aCX:E:=.add aSG aSJ
theorem bOn (ρ:Env) (hH:ctH.ok ρ):E.i ρ aBe=sgV 9 (ρ.i.getD 2 0) (E.i ρ cP) (ρ.i.getD 13 0 / 4%2)%65536∧E.i ρ aCX=sgF (ρ.i.getD 14 0) 9 (ρ.i.getD 2 0) (E.i ρ cP) (ρ.i.getD 13 0 / 4%2)%64:=by
 obtain ⟨l,t,g,j,f,hr⟩:=ctR ρ hH
 generalize E.i ρ cP=p at *
 simp only [aBd,aBe,aZg,aIc,aId,aZh,aZi,aZj,aZk,aZl,aSq,aSr,aSs,aSt,aSu,aSv,aSw,aSx,aSy,aSz,aSA,aSB,aSC,aCV,aSD,aSE,aCW,aSF,aSG,aSH,aSI,aSJ,aCX,sgm,sgn,sgV,sgF]
 simp only [Int.reduceEq,if_false,if_true]
 simp only [cy1,cy2,sgn]
 clear hH f
 generalize ρ.i.getD 2 0=q at *
 generalize ρ.i.getD 14 0=w at *
 generalize ρ.i.getD 13 0=cc at *
 refine ⟨by omega,?_⟩
 refine (Int.emod_eq_of_lt ?_ ?_).symm <;> (repeat' split) <;> omega
theorem bNT:enter Try.prog SH SHh 3000 40 54 ctH (ctl 9 1) ctM=some ([],.tup [],some (ctw (.v 1) aBe (.v 13) aCX)):=by kernel_rfl
def oM:E:=.sub (.lit 65535) (.v 2)
def aJB:E:=.le oM (.lit 32767)
def aJC:E:=.ite aJB (.lit 0) (.lit 1)
def aJD:E:=.le (.v 14) (.lit 31)
def aJE:E:=.le (.lit 32768) oM
def aJF:E:=.div (.v 14) (.lit 2)
def aJG:E:=.mod aJF (.lit 2)
def aJH:E:=.eq aJG (.lit 0)
def aJI:E:=.not aJH
def aJJ:E:=.ite aJD aJE aJI
def aFm:E:=.ite aJJ (.lit 2) (.lit 0)
def aFn:E:=.add aJC aFm
def aFo:E:=.eq oM (.lit 0)
def aFp:E:=.ite aFo (.lit 8) (.lit 0)
def yO:E:=.add aFn aFp
theorem bIi (ρ:Env) (hH:ctH.ok ρ):E.i ρ oM=sgV 10 (ρ.i.getD 2 0) (E.i ρ cP) (ρ.i.getD 13 0 / 4%2)%65536∧E.i ρ yO=sgF (ρ.i.getD 14 0) 10 (ρ.i.getD 2 0) (E.i ρ cP) (ρ.i.getD 13 0 / 4%2)%64:=by
 obtain ⟨l,t,g,j,f,hr⟩:=ctR ρ hH
 generalize E.i ρ cP=p at *
 simp only [oM,aJB,aJC,aJD,aJE,aJF,aJG,aJH,aJI,aJJ,aFm,aFn,aFo,aFp,yO,sgm,sgn,sgV,sgF]
 simp only [Int.reduceEq,if_false,if_true]
 simp only [cy1,cy2,sgn]
 clear hH f
 generalize ρ.i.getD 2 0=q at *
 generalize ρ.i.getD 14 0=w at *
 generalize ρ.i.getD 13 0=cc at *
 refine ⟨by omega,?_⟩
 refine (Int.emod_eq_of_lt ?_ ?_).symm <;> (repeat' split) <;> omega
theorem bHW:enter Try.prog SH SHh 3000 40 54 ctH (ctl 10 1) ctM=some ([],.tup [],some (ctw (.v 1) oM (.v 13) yO)):=by kernel_rfl
def aJT:E:=.div (.v 2) (.lit 2)
def aJU:E:=.div (.v 2) (.lit 32768)
def aJV:E:=.mul aJU (.lit 32768)
def oO:E:=.add aJT aJV
def aJW:E:=.le oO (.lit 32767)
def aJX:E:=.ite aJW (.lit 0) (.lit 1)
def aJY:E:=.le (.v 14) (.lit 31)
def aJZ:E:=.le (.lit 32768) oO
def aKa:E:=.div (.v 14) (.lit 2)
def aKb:E:=.mod aKa (.lit 2)
def aFB:E:=.eq aKb (.lit 0)
def aFC:E:=.not aFB
def aFD:E:=.ite aJY aJZ aFC
def aFE:E:=.ite aFD (.lit 2) (.lit 0)
def aFF:E:=.add aJX aFE
def aFG:E:=.mod (.v 2) (.lit 2)
def aFH:E:=.eq aFG (.lit 0)
def aFI:E:=.ite aFH (.lit 0) (.lit 4)
def aFJ:E:=.add aFF aFI
def aFK:E:=.eq oO (.lit 0)
def aFL:E:=.ite aFK (.lit 8) (.lit 0)
def yQ:E:=.add aFJ aFL
theorem bIk (ρ:Env) (hH:ctH.ok ρ):E.i ρ oO=sgV 11 (ρ.i.getD 2 0) (E.i ρ cP) (ρ.i.getD 13 0 / 4%2)%65536∧E.i ρ yQ=sgF (ρ.i.getD 14 0) 11 (ρ.i.getD 2 0) (E.i ρ cP) (ρ.i.getD 13 0 / 4%2)%64:=by
 obtain ⟨l,t,g,j,f,hr⟩:=ctR ρ hH
 generalize E.i ρ cP=p at *
 simp only [aJT,aJU,aJV,oO,aJW,aJX,aJY,aJZ,aKa,aKb,aFB,aFC,aFD,aFE,aFF,aFG,aFH,aFI,aFJ,aFK,aFL,yQ,sgm,sgn,sgV,sgF]
 simp only [Int.reduceEq,if_false,if_true]
 simp only [cy1,cy2,sgn]
 clear hH f
 generalize ρ.i.getD 2 0=q at *
 generalize ρ.i.getD 14 0=w at *
 generalize ρ.i.getD 13 0=cc at *
 refine ⟨by omega,?_⟩
 refine (Int.emod_eq_of_lt ?_ ?_).symm <;> (repeat' split) <;> omega
theorem bHY:enter Try.prog SH SHh 3000 40 54 ctH (ctl 11 1) ctM=some ([],.tup [],some (ctw (.v 1) oO (.v 13) yQ)):=by kernel_rfl
def aKl:E:=.mod (.v 2) (.lit 32768)
def aKm:E:=.mul aKl (.lit 2)
def aKn:E:=.div (.v 13) (.lit 4)
def aKo:E:=.mod aKn (.lit 2)
def oQ:E:=.add aKm aKo
def aKp:E:=.le oQ (.lit 32767)
def aKq:E:=.ite aKp (.lit 0) (.lit 1)
def aKr:E:=.le (.v 14) (.lit 31)
def aKs:E:=.le (.lit 32768) oQ
def aKt:E:=.div (.v 14) (.lit 2)
def aFX:E:=.mod aKt (.lit 2)
def aFY:E:=.eq aFX (.lit 0)
def aFZ:E:=.not aFY
def aGa:E:=.ite aKr aKs aFZ
def aGb:E:=.ite aGa (.lit 2) (.lit 0)
def aGc:E:=.add aKq aGb
def aGd:E:=.le (.v 2) (.lit 32767)
def aGe:E:=.ite aGd (.lit 0) (.lit 4)
def aGf:E:=.add aGc aGe
def aGg:E:=.eq oQ (.lit 0)
def aGh:E:=.ite aGg (.lit 8) (.lit 0)
def yS:E:=.add aGf aGh
theorem bIm (ρ:Env) (hH:ctH.ok ρ):E.i ρ oQ=sgV 12 (ρ.i.getD 2 0) (E.i ρ cP) (ρ.i.getD 13 0 / 4%2)%65536∧E.i ρ yS=sgF (ρ.i.getD 14 0) 12 (ρ.i.getD 2 0) (E.i ρ cP) (ρ.i.getD 13 0 / 4%2)%64:=by
 obtain ⟨l,t,g,j,f,hr⟩:=ctR ρ hH
 generalize E.i ρ cP=p at *
 simp only [aKl,aKm,aKn,aKo,oQ,aKp,aKq,aKr,aKs,aKt,aFX,aFY,aFZ,aGa,aGb,aGc,aGd,aGe,aGf,aGg,aGh,yS,sgm,sgn,sgV,sgF]
 simp only [Int.reduceEq,if_false,if_true]
 simp only [cy1,cy2,sgn]
 clear hH f
 generalize ρ.i.getD 2 0=q at *
 generalize ρ.i.getD 14 0=w at *
 generalize ρ.i.getD 13 0=cc at *
 refine ⟨by omega,?_⟩
 refine (Int.emod_eq_of_lt ?_ ?_).symm <;> (repeat' split) <;> omega
theorem bIa:enter Try.prog SH SHh 3000 40 54 ctH (ctl 12 1) ctM=some ([],.tup [],some (ctw (.v 1) oQ (.v 13) yS)):=by kernel_rfl
def aKD:E:=.mod (.v 2) (.lit 16384)
def aKE:E:=.mul aKD (.lit 4)
def rN:E:=.add aKE (.lit 3)
def aKF:E:=.le rN (.lit 32767)
def aKG:E:=.ite aKF (.lit 0) (.lit 1)
def aKH:E:=.le (.v 14) (.lit 31)
def aKI:E:=.le (.lit 32768) rN
def aKJ:E:=.div (.v 14) (.lit 2)
def aKK:E:=.mod aKJ (.lit 2)
def aKL:E:=.eq aKK (.lit 0)
def aGl:E:=.not aKL
def aGm:E:=.ite aKH aKI aGl
def aGn:E:=.ite aGm (.lit 2) (.lit 0)
def yU:E:=.add aKG aGn
theorem bIo (ρ:Env) (hH:ctH.ok ρ):E.i ρ rN=sgV 13 (ρ.i.getD 2 0) (E.i ρ cP) (ρ.i.getD 13 0 / 4%2)%65536∧E.i ρ yU=sgF (ρ.i.getD 14 0) 13 (ρ.i.getD 2 0) (E.i ρ cP) (ρ.i.getD 13 0 / 4%2)%64:=by
 obtain ⟨l,t,g,j,f,hr⟩:=ctR ρ hH
 generalize E.i ρ cP=p at *
 simp only [aKD,aKE,rN,aKF,aKG,aKH,aKI,aKJ,aKK,aKL,aGl,aGm,aGn,yU,sgm,sgn,sgV,sgF]
 simp only [Int.reduceEq,if_false,if_true]
 simp only [cy1,cy2,sgn]
 clear hH f
 generalize ρ.i.getD 2 0=q at *
 generalize ρ.i.getD 14 0=w at *
 generalize ρ.i.getD 13 0=cc at *
 refine ⟨by omega,?_⟩
 refine (Int.emod_eq_of_lt ?_ ?_).symm <;> (repeat' split) <;> omega
theorem bIc:enter Try.prog SH SHh 3000 40 54 ctH (ctl 13 1) ctM=some ([],.tup [],some (ctw (.v 1) rN (.v 13) yU)):=by kernel_rfl
def aKV:E:=.mod (.v 2) (.lit 4096)
def aKW:E:=.mul aKV (.lit 16)
def rP:E:=.add aKW (.lit 15)
def aKX:E:=.le rP (.lit 32767)
def aKY:E:=.ite aKX (.lit 0) (.lit 1)
def aKZ:E:=.le (.v 14) (.lit 31)
def aLa:E:=.le (.lit 32768) rP
def aLb:E:=.div (.v 14) (.lit 2)
def aLc:E:=.mod aLb (.lit 2)
def aLd:E:=.eq aLc (.lit 0)
def aGr:E:=.not aLd
def aGs:E:=.ite aKZ aLa aGr
def aGt:E:=.ite aGs (.lit 2) (.lit 0)
def yW:E:=.add aKY aGt
theorem bIq (ρ:Env) (hH:ctH.ok ρ):E.i ρ rP=sgV 14 (ρ.i.getD 2 0) (E.i ρ cP) (ρ.i.getD 13 0 / 4%2)%65536∧E.i ρ yW=sgF (ρ.i.getD 14 0) 14 (ρ.i.getD 2 0) (E.i ρ cP) (ρ.i.getD 13 0 / 4%2)%64:=by
 obtain ⟨l,t,g,j,f,hr⟩:=ctR ρ hH
 generalize E.i ρ cP=p at *
 simp only [aKV,aKW,rP,aKX,aKY,aKZ,aLa,aLb,aLc,aLd,aGr,aGs,aGt,yW,sgm,sgn,sgV,sgF]
 simp only [Int.reduceEq,if_false,if_true]
 simp only [cy1,cy2,sgn]
 clear hH f
 generalize ρ.i.getD 2 0=q at *
 generalize ρ.i.getD 14 0=w at *
 generalize ρ.i.getD 13 0=cc at *
 refine ⟨by omega,?_⟩
 refine (Int.emod_eq_of_lt ?_ ?_).symm <;> (repeat' split) <;> omega
theorem bIe:enter Try.prog SH SHh 3000 40 54 ctH (ctl 14 1) ctM=some ([],.tup [],some (ctw (.v 1) rP (.v 13) yW)):=by kernel_rfl
def aLn:E:=.mod (.v 2) (.lit 256)
def aLo:E:=.mul aLn (.lit 256)
def aLp:E:=.div (.v 2) (.lit 256)
def oS:E:=.add aLo aLp
def aLq:E:=.le oS (.lit 32767)
def aLr:E:=.ite aLq (.lit 0) (.lit 1)
def aLs:E:=.le (.v 14) (.lit 31)
def aLt:E:=.le (.lit 32768) oS
def aLu:E:=.div (.v 14) (.lit 2)
def aLv:E:=.mod aLu (.lit 2)
def aGB:E:=.eq aLv (.lit 0)
def aGC:E:=.not aGB
def aGD:E:=.ite aLs aLt aGC
def aGE:E:=.ite aGD (.lit 2) (.lit 0)
def aGF:E:=.add aLr aGE
def aGG:E:=.eq oS (.lit 0)
def aGH:E:=.ite aGG (.lit 8) (.lit 0)
def yY:E:=.add aGF aGH
theorem bIs (ρ:Env) (hH:ctH.ok ρ):E.i ρ oS=sgV 15 (ρ.i.getD 2 0) (E.i ρ cP) (ρ.i.getD 13 0 / 4%2)%65536∧E.i ρ yY=sgF (ρ.i.getD 14 0) 15 (ρ.i.getD 2 0) (E.i ρ cP) (ρ.i.getD 13 0 / 4%2)%64:=by
 obtain ⟨l,t,g,j,f,hr⟩:=ctR ρ hH
 generalize E.i ρ cP=p at *
 simp only [aLn,aLo,aLp,oS,aLq,aLr,aLs,aLt,aLu,aLv,aGB,aGC,aGD,aGE,aGF,aGG,aGH,yY,sgm,sgn,sgV,sgF]
 simp only [Int.reduceEq,if_false,if_true]
 simp only [cy1,cy2,sgn]
 clear hH f
 generalize ρ.i.getD 2 0=q at *
 generalize ρ.i.getD 14 0=w at *
 generalize ρ.i.getD 13 0=cc at *
 refine ⟨by omega,?_⟩
 refine (Int.emod_eq_of_lt ?_ ?_).symm <;> (repeat' split) <;> omega
theorem bIg:enter Try.prog SH SHh 3000 40 54 ctH (ctl 15 1) ctM=some ([],.tup [],some (ctw (.v 1) oS (.v 13) yY)):=by kernel_rfl
theorem ctat (xs:Nat→Nat→Ext):fB Try.prog (Iv xs) 54 29 0 3 (kN ctH ctL ctM [] (.tup []) (some ctO)):=by
 refine bID (s:=enter Try.prog SH SHh 3000 40 54) (bP (SH_ok xs) (by kernel_rfl) 3000 40) rfl (fun ρ hI hz hH hn=>?_)
 have r19:0≤E.i ρ (.v 19)∧E.i ρ (.v 19)≤15:=hH.e (.v 19,(0,15)) (by simp [ctH])
 have r20:0≤E.i ρ (.v 20)∧E.i ρ (.v 20)≤1:=hH.e (.v 20,(0,1)) (by simp [ctH])
 rcases (show E.i ρ (.v 20)=0∨E.i ρ (.v 20)=1 by omega) with ha | ha
 ·rcases (show E.i ρ (.v 19)=0∨E.i ρ (.v 19)=1∨E.i ρ (.v 19)=2∨E.i ρ (.v 19)=3∨E.i ρ (.v 19)=4∨E.i ρ (.v 19)=5∨E.i ρ (.v 19)=6∨E.i ρ (.v 19)=7∨E.i ρ (.v 19)=8∨E.i ρ (.v 19)=9∨E.i ρ (.v 19)=10∨E.i ρ (.v 19)=11∨E.i ρ (.v 19)=12∨E.i ρ (.v 19)=13∨E.i ρ (.v 19)=14∨E.i ρ (.v 19)=15 by omega) with hk | hk | hk | hk | hk | hk | hk | hk | hk | hk | hk | hk | hk | hk | hk | hk
  ·exact ⟨ctH,ctl 0 0,_,_,_,bNA,hH,iE ρ _ _ hk ha,rfl,hn,trivial,uI xs ρ hI _ hk ha _ _ (bNU ρ hH)⟩
  ·exact ⟨ctH,ctl 1 0,_,_,_,bNC,hH,iE ρ _ _ hk ha,rfl,hn,trivial,uI xs ρ hI _ hk ha _ _ (bNW ρ hH)⟩
  ·exact ⟨ctH,ctl 2 0,_,_,_,bNE,hH,iE ρ _ _ hk ha,rfl,hn,trivial,uI xs ρ hI _ hk ha _ _ (bNY ρ hH)⟩
  ·exact ⟨ctH,ctl 3 0,_,_,_,bNG,hH,iE ρ _ _ hk ha,rfl,hn,trivial,uI xs ρ hI _ hk ha _ _ (bOa ρ hH)⟩
  ·exact ⟨ctH,ctl 4 0,_,_,_,bNI,hH,iE ρ _ _ hk ha,rfl,hn,trivial,uI xs ρ hI _ hk ha _ _ (bOc ρ hH)⟩
  ·exact ⟨ctH,ctl 5 0,_,_,_,bNK,hH,iE ρ _ _ hk ha,rfl,hn,trivial,uI xs ρ hI _ hk ha _ _ (bOe ρ hH)⟩
  ·exact ⟨ctH,ctl 6 0,_,_,_,bNM,hH,iE ρ _ _ hk ha,rfl,hn,trivial,uI xs ρ hI _ hk ha _ _ (bOg ρ hH)⟩
  ·exact ⟨ctH,ctl 7 0,_,_,_,bNO,hH,iE ρ _ _ hk ha,rfl,hn,trivial,uI xs ρ hI _ hk ha _ _ (bOi ρ hH)⟩
  ·exact ⟨ctH,ctl 8 0,_,_,_,bNQ,hH,iE ρ _ _ hk ha,rfl,hn,trivial,uI xs ρ hI _ hk ha _ _ (bOk ρ hH)⟩
  ·exact ⟨ctH,ctl 9 0,_,_,_,bNS,hH,iE ρ _ _ hk ha,rfl,hn,trivial,uI xs ρ hI _ hk ha _ _ (bOm ρ hH)⟩
  ·exact ⟨ctH,ctl 10 0,_,_,_,bHV,hH,iE ρ _ _ hk ha,rfl,hn,trivial,uI xs ρ hI _ hk ha _ _ (bIh ρ hH)⟩
  ·exact ⟨ctH,ctl 11 0,_,_,_,bHX,hH,iE ρ _ _ hk ha,rfl,hn,trivial,uI xs ρ hI _ hk ha _ _ (bIj ρ hH)⟩
  ·exact ⟨ctH,ctl 12 0,_,_,_,bHZ,hH,iE ρ _ _ hk ha,rfl,hn,trivial,uI xs ρ hI _ hk ha _ _ (bIl ρ hH)⟩
  ·exact ⟨ctH,ctl 13 0,_,_,_,bIb,hH,iE ρ _ _ hk ha,rfl,hn,trivial,uI xs ρ hI _ hk ha _ _ (bIn ρ hH)⟩
  ·exact ⟨ctH,ctl 14 0,_,_,_,bId,hH,iE ρ _ _ hk ha,rfl,hn,trivial,uI xs ρ hI _ hk ha _ _ (bIp ρ hH)⟩
  ·exact ⟨ctH,ctl 15 0,_,_,_,bIf,hH,iE ρ _ _ hk ha,rfl,hn,trivial,uI xs ρ hI _ hk ha _ _ (bIr ρ hH)⟩
 ·rcases (show E.i ρ (.v 19)=0∨E.i ρ (.v 19)=1∨E.i ρ (.v 19)=2∨E.i ρ (.v 19)=3∨E.i ρ (.v 19)=4∨E.i ρ (.v 19)=5∨E.i ρ (.v 19)=6∨E.i ρ (.v 19)=7∨E.i ρ (.v 19)=8∨E.i ρ (.v 19)=9∨E.i ρ (.v 19)=10∨E.i ρ (.v 19)=11∨E.i ρ (.v 19)=12∨E.i ρ (.v 19)=13∨E.i ρ (.v 19)=14∨E.i ρ (.v 19)=15 by omega) with hk | hk | hk | hk | hk | hk | hk | hk | hk | hk | hk | hk | hk | hk | hk | hk
  ·exact ⟨ctH,ctl 0 1,_,_,_,bNB,hH,iE ρ _ _ hk ha,rfl,hn,trivial,uJ xs ρ hI _ hk ha _ _ (bNV ρ hH)⟩
  ·exact ⟨ctH,ctl 1 1,_,_,_,bND,hH,iE ρ _ _ hk ha,rfl,hn,trivial,uJ xs ρ hI _ hk ha _ _ (bNX ρ hH)⟩
  ·exact ⟨ctH,ctl 2 1,_,_,_,bNF,hH,iE ρ _ _ hk ha,rfl,hn,trivial,uJ xs ρ hI _ hk ha _ _ (bNZ ρ hH)⟩
  ·exact ⟨ctH,ctl 3 1,_,_,_,bNH,hH,iE ρ _ _ hk ha,rfl,hn,trivial,uJ xs ρ hI _ hk ha _ _ (bOb ρ hH)⟩
  ·exact ⟨ctH,ctl 4 1,_,_,_,bNJ,hH,iE ρ _ _ hk ha,rfl,hn,trivial,uJ xs ρ hI _ hk ha _ _ (bOd ρ hH)⟩
  ·exact ⟨ctH,ctl 5 1,_,_,_,bNL,hH,iE ρ _ _ hk ha,rfl,hn,trivial,uJ xs ρ hI _ hk ha _ _ (bOf ρ hH)⟩
  ·exact ⟨ctH,ctl 6 1,_,_,_,bNN,hH,iE ρ _ _ hk ha,rfl,hn,trivial,uJ xs ρ hI _ hk ha _ _ (bOh ρ hH)⟩
  ·exact ⟨ctH,ctl 7 1,_,_,_,bNP,hH,iE ρ _ _ hk ha,rfl,hn,trivial,uJ xs ρ hI _ hk ha _ _ (bOj ρ hH)⟩
  ·exact ⟨ctH,ctl 8 1,_,_,_,bNR,hH,iE ρ _ _ hk ha,rfl,hn,trivial,uJ xs ρ hI _ hk ha _ _ (bOl ρ hH)⟩
  ·exact ⟨ctH,ctl 9 1,_,_,_,bNT,hH,iE ρ _ _ hk ha,rfl,hn,trivial,uJ xs ρ hI _ hk ha _ _ (bOn ρ hH)⟩
  ·exact ⟨ctH,ctl 10 1,_,_,_,bHW,hH,iE ρ _ _ hk ha,rfl,hn,trivial,uJ xs ρ hI _ hk ha _ _ (bIi ρ hH)⟩
  ·exact ⟨ctH,ctl 11 1,_,_,_,bHY,hH,iE ρ _ _ hk ha,rfl,hn,trivial,uJ xs ρ hI _ hk ha _ _ (bIk ρ hH)⟩
  ·exact ⟨ctH,ctl 12 1,_,_,_,bIa,hH,iE ρ _ _ hk ha,rfl,hn,trivial,uJ xs ρ hI _ hk ha _ _ (bIm ρ hH)⟩
  ·exact ⟨ctH,ctl 13 1,_,_,_,bIc,hH,iE ρ _ _ hk ha,rfl,hn,trivial,uJ xs ρ hI _ hk ha _ _ (bIo ρ hH)⟩
  ·exact ⟨ctH,ctl 14 1,_,_,_,bIe,hH,iE ρ _ _ hk ha,rfl,hn,trivial,uJ xs ρ hI _ hk ha _ _ (bIq ρ hH)⟩
  ·exact ⟨ctH,ctl 15 1,_,_,_,bIg,hH,iE ρ _ _ hk ha,rfl,hn,trivial,uJ xs ρ hI _ hk ha _ _ (bIs ρ hH)⟩
theorem ctok (xs:Nat→Nat→Ext):aW Try.prog (Iv xs) 54 ctS:=fF (ctat xs) (dY _ _ _ _ _ _)
end Go.Proofs.Ytcckecfjjccffaa
