/- A contract of the signal chip: what is made of an accumulator, case by case. No condition. -/
import Derived.Test.YtcckecfjjccffaaSga
namespace Go.Proofs.Ytcckecfjjccffaa
open Go.Sx Go.ChangeShapes Go.WideShapes Go.ChangeAt Go.RowKit
set_option linter.unusedVariables false
set_option linter.unusedSimpArgs false
set_option maxRecDepth 100000
noncomputable def SH:Ctx:=aKn Try.prog [] (ctx [(74,orS gaS (orS gbS (gcS))),(103,saS),(101,laS)]) 3000 40 12
noncomputable def SHh:aZ:=aFg Try.prog [] (ctx [(74,orS gaS (orS gbS (gcS))),(103,saS),(101,laS)]) 3000 40 12
theorem SH_ok (xs:Nat→Nat→Ext):cF Try.prog (Iv xs) SH:=nK (pI (fun p hp=>by
 simp only [List.mem_cons,List.not_mem_nil,or_false] at hp
 rcases hp with rfl | rfl | rfl
 ·exact kF (gaok xs) (kF (gbok xs) (gcok xs))
 ·exact saok xs
 ·exact laok xs
 )) (by kernel_rfl) 3000 40 12
def cP:E:=.ite (.eq (.v 18) (.lit 0)) (.sel (.av 2) (.v 5)) (.ite (.eq (.v 18) (.lit 1)) (.v 16) (.ite (.eq (.v 18) (.lit 2)) (.v 9) (.v 10)))
def ctA:E:=.ite (.eq (.v 20) (.lit 0)) (.app 40 (.cons (.v 19) (.cons (.v 1) (.cons cP (.cons (.mod (.div (.v 14) (.lit 4)) (.lit 2)) .nil))))) (.v 1)
def ctB:E:=.ite (.eq (.v 20) (.lit 0)) (.v 2) (.app 40 (.cons (.v 19) (.cons (.v 2) (.cons cP (.cons (.mod (.div (.v 13) (.lit 4)) (.lit 2)) .nil)))))
def bEL:E:=.ite (.eq (.v 20) (.lit 0)) (.app 41 (.cons (.v 13) (.cons (.v 19) (.cons (.v 1) (.cons cP (.cons (.mod (.div (.v 14) (.lit 4)) (.lit 2)) .nil)))))) (.v 13)
def bEM:E:=.ite (.eq (.v 20) (.lit 0)) (.v 14) (.app 41 (.cons (.v 14) (.cons (.v 19) (.cons (.v 2) (.cons cP (.cons (.mod (.div (.v 13) (.lit 4)) (.lit 2)) .nil))))))
def ctH:Hyp:=⟨[(.v 0,(0,2047)),(.v 1,(0,65535)),(.v 2,(0,65535)),(.v 3,(0,65535)),(.v 4,(0,65535)),(.v 5,(0,255)),(.v 6,(0,1023)),(.v 7,(0,65535)),(.v 8,(0,65535)),(.v 9,(0,65535)),(.v 10,(0,65535)),(.v 11,(0,65535)),(.v 12,(0,65535)),(.v 13,(0,63)),(.v 14,(0,63)),(.v 15,(0,3)),(.v 16,(0,65535)),(.v 17,(0,3)),(.v 18,(0,3)),(.v 19,(0,15)),(.v 20,(0,1)),(.v 21,(0,3)),(.v 22,(0,15)),(.v 23,(0,1)),(.v 24,(0,15)),(.v 25,(0,15)),(.v 26,(0,511)),(.v 27,(0,2047)),(.v 28,(0,65535))],[(0,(0,255)),(1,(0,2047)),(2,(0,65535))],[(40,(0,65535)),(41,(0,63))],[],[],[]⟩
def ctL:List SV:=[.s (.ptr 1 (.lit 0)),.agg [.one (.int .u8 (.v 17)),.one (.int .u8 (.v 18)),.one (.int .u8 (.v 19)),.one (.int .u8 (.v 20)),.one (.int .u8 (.v 21)),.one (.int .u8 (.v 22)),.one (.int .u8 (.v 23)),.one (.int .u8 (.v 24)),.one (.int .u8 (.v 25)),.one (.int .u16 (.v 26)),.one (.int .u16 (.v 27)),.one (.int .u16 (.v 28))],.s (.int .u16 (.v 16))]
def ctM:Mem:=[⟨5,[.run .u8 (.lit 8192) (.av 0) 0],true,some 1,false⟩,⟨81,[.one (.int .u16 (.v 0)),.one (.int .u16 (.v 1)),.one (.int .u16 (.v 2)),.one (.int .u16 (.v 3)),.one (.int .u16 (.v 4)),.one (.int .u16 (.v 5)),.one (.int .u16 (.v 6)),.one (.int .u16 (.v 7)),.one (.int .u16 (.v 8)),.one (.int .u16 (.v 9)),.one (.int .u16 (.v 10)),.one (.int .u16 (.v 11)),.one (.int .u16 (.v 12)),.one (.int .u8 (.v 13)),.one (.int .u8 (.v 14)),.one (.int .u8 (.v 15)),.run .u16 (.lit 4) (.av 1) 0,.run .u16 (.lit 256) (.av 2) 0,.one (.slc 0 (.lit 0) (.lit 8192) (.op (.lit 0)))],true,none,false⟩]
def ctO:Mem:=[⟨5,[.run .u8 (.lit 8192) (.av 0) 0],true,some 1,false⟩,⟨81,[.one (.int .u16 (.v 0)),.one (.int .u16 (ctA)),.one (.int .u16 (ctB)),.one (.int .u16 (.v 3)),.one (.int .u16 (.v 4)),.one (.int .u16 (.v 5)),.one (.int .u16 (.v 6)),.one (.int .u16 (.v 7)),.one (.int .u16 (.v 8)),.one (.int .u16 (.v 9)),.one (.int .u16 (.v 10)),.one (.int .u16 (.v 11)),.one (.int .u16 (.v 12)),.one (.int .u8 (bEL)),.one (.int .u8 (bEM)),.one (.int .u8 (.v 15)),.run .u16 (.lit 4) (.av 1) 0,.run .u16 (.lit 256) (.av 2) 0,.one (.slc 0 (.lit 0) (.lit 8192) (.op (.lit 0)))],true,none,false⟩]
def ctS:Go.Sx.Spec:=gM (gV 29 0 3 ctL ctM) ctH ctL ctM [] (.tup []) (some ctO)
theorem cy2:(∀ (c p q:Prop) [Decidable c],(if c then p else q)=((c∧p)∨(¬ c∧q))):=by intro c p q _;by_cases h:c <;> simp [h]
theorem aHa (o:BinOp) (ho:o=.and∨o=.or∨o=.xor) (q p:Int) (hq:0≤q∧q≤65535) (hp:0≤p∧p≤65535):0≤aK o .u16 q p∧aK o .u16 q p≤65535:=by
 obtain ⟨n,rfl⟩:=Int.eq_ofNat_of_zero_le hq.1
 obtain ⟨m,rfl⟩:=Int.eq_ofNat_of_zero_le hp.1
 have h:=Go.Sx.bits_nat (k:=.u16) (by decide) (n:=n) (m:=m) (by omega) (by omega)
 have l1:n &&& m≤n:=Nat.and_le_left
 have l2:n ||| m<2 ^ 16:=Nat.or_lt_two_pow (by omega) (by omega)
 have l3:n ^^^ m<2 ^ 16:=Nat.xor_lt_two_pow (by omega) (by omega)
 rcases ho with rfl | rfl | rfl
 ·rw [show aK .and .u16 (n:Int) (m:Int)=((n &&& m:Nat):Int) from h.1];omega
 ·rw [show aK .or .u16 (n:Int) (m:Int)=((n ||| m:Nat):Int) from h.2.1];omega
 ·rw [show aK .xor .u16 (n:Int) (m:Int)=((n ^^^ m:Nat):Int) from h.2.2];omega
theorem cy1:(∀ (c:Prop) [Decidable c] (p q:Bool),((if c then p else q)=true)=((c∧p=true)∨(¬ c∧q=true))):=by intro c _ p q;by_cases h:c <;> simp [h]
theorem bNp (xs:Nat→Nat→Ext) (ρ:Env) (hI:ρ.I=Iv xs) (a b c d:E):E.i ρ (.app 40 (.cons a (.cons b (.cons c (.cons d .nil)))))=sgV (E.i ρ a) (E.i ρ b) (E.i ρ c) (E.i ρ d)%65536:=by
 show ρ.I.fi 40 _ _ _=_
 rw [hI];rfl
theorem bNq (xs:Nat→Nat→Ext) (ρ:Env) (hI:ρ.I=Iv xs) (w a b c d:E):E.i ρ (.app 41 (.cons w (.cons a (.cons b (.cons c (.cons d .nil))))))=sgF (E.i ρ w) (E.i ρ a) (E.i ρ b) (E.i ρ c) (E.i ρ d)%64:=by
 show ρ.I.fi 41 _ _ _=_
 rw [hI];rfl
theorem ctT0 (xs:Nat→Nat→Ext) (ρ:Env) (hI:ρ.I=Iv xs) (k:Int) (hk:E.i ρ (.v 19)=k) (ha:E.i ρ (.v 20)=0):E.i ρ ctA=sgV k (ρ.i.getD 1 0) (E.i ρ cP) (ρ.i.getD 14 0 / 4%2)%65536∧E.i ρ bEL=sgF (ρ.i.getD 13 0) k (ρ.i.getD 1 0) (E.i ρ cP) (ρ.i.getD 14 0 / 4%2)%64∧E.i ρ ctB=E.i ρ (.v 2)∧E.i ρ bEM=E.i ρ (.v 14):=by
 have hb:E.b ρ (.eq (.v 20) (.lit 0))=true:=by rw [fF,ha];rfl
 simp only [ctA,ctB,bEL,bEM]
 rw [aV,aV,aV,aV]
 simp only [hb,Bool.false_eq_true,if_true,if_false,bNp xs ρ hI,bNq xs ρ hI,hk]
 exact ⟨rfl,rfl,trivial,trivial⟩
theorem ctT1 (xs:Nat→Nat→Ext) (ρ:Env) (hI:ρ.I=Iv xs) (k:Int) (hk:E.i ρ (.v 19)=k) (ha:E.i ρ (.v 20)=1):E.i ρ ctB=sgV k (ρ.i.getD 2 0) (E.i ρ cP) (ρ.i.getD 13 0 / 4%2)%65536∧E.i ρ bEM=sgF (ρ.i.getD 14 0) k (ρ.i.getD 2 0) (E.i ρ cP) (ρ.i.getD 13 0 / 4%2)%64∧E.i ρ ctA=E.i ρ (.v 1)∧E.i ρ bEL=E.i ρ (.v 13):=by
 have hb:E.b ρ (.eq (.v 20) (.lit 0))=false:=by rw [fF,ha];rfl
 simp only [ctA,ctB,bEL,bEM]
 rw [aV,aV,aV,aV]
 simp only [hb,Bool.false_eq_true,if_true,if_false,bNp xs ρ hI,bNq xs ρ hI,hk]
 exact ⟨rfl,rfl,trivial,trivial⟩
theorem ctR (ρ:Env) (hH:ctH.ok ρ):(0≤ρ.i.getD 1 0∧ρ.i.getD 1 0≤65535)∧(0≤ρ.i.getD 2 0∧ρ.i.getD 2 0≤65535)∧(0≤ρ.i.getD 13 0∧ρ.i.getD 13 0≤63)∧(0≤ρ.i.getD 14 0∧ρ.i.getD 14 0≤63)∧(0≤ρ.i.getD 18 0∧ρ.i.getD 18 0≤3)∧(0≤E.i ρ cP∧E.i ρ cP≤65535):=by
 have r (n:Nat) (b:Int) (h:(E.v n,((0:Int),b)) ∈ ctH.e):0≤ρ.i.getD n 0∧ρ.i.getD n 0≤b:=hH.e _ h
 have r9:=r 9 65535 (by simp [ctH])
 have r10:=r 10 65535 (by simp [ctH])
 have r16:=r 16 65535 (by simp [ctH])
 refine ⟨r 1 _ (by simp [ctH]),r 2 _ (by simp [ctH]),r 13 _ (by simp [ctH]),r 14 _ (by simp [ctH]),r 18 _ (by simp [ctH]),?_⟩
 have h:0≤E.a ρ (.av 2) (ρ.i.getD 5 0).toNat∧E.a ρ (.av 2) (ρ.i.getD 5 0).toNat≤65535:=hH.a (2,(0,65535)) (by simp [ctH]) _
 clear hH r
 simp only [cP,sgm,sgn]
 repeat' split
 all_goals first | omega | exact h
def ctl (k a:Int):List SV:=[.s (.ptr 1 (.lit 0)),.agg [.one (.int .u8 (.v 17)),.one (.int .u8 (.v 18)),.one (.int .u8 (.lit k)),.one (.int .u8 (.lit a)),.one (.int .u8 (.v 21)),.one (.int .u8 (.v 22)),.one (.int .u8 (.v 23)),.one (.int .u8 (.v 24)),.one (.int .u8 (.v 25)),.one (.int .u16 (.v 26)),.one (.int .u16 (.v 27)),.one (.int .u16 (.v 28))],.s (.int .u16 (.v 16))]
def ctw (w1 w2 w3 w4:E):Mem:=[⟨5,[.run .u8 (.lit 8192) (.av 0) 0],true,some 1,false⟩,⟨81,[.one (.int .u16 (.v 0)),.one (.int .u16 w1),.one (.int .u16 w2),.one (.int .u16 (.v 3)),.one (.int .u16 (.v 4)),.one (.int .u16 (.v 5)),.one (.int .u16 (.v 6)),.one (.int .u16 (.v 7)),.one (.int .u16 (.v 8)),.one (.int .u16 (.v 9)),.one (.int .u16 (.v 10)),.one (.int .u16 (.v 11)),.one (.int .u16 (.v 12)),.one (.int .u8 w3),.one (.int .u8 w4),.one (.int .u8 (.v 15)),.run .u16 (.lit 4) (.av 1) 0,.run .u16 (.lit 256) (.av 2) 0,.one (.slc 0 (.lit 0) (.lit 8192) (.op (.lit 0)))],true,none,false⟩]
theorem ctwE (ρ:Env) (w1 w2 w3 w4:E) (h1:E.i ρ w1=E.i ρ ctA) (h2:E.i ρ w2=E.i ρ ctB) (h3:E.i ρ w3=E.i ρ bEL) (h4:E.i ρ w4=E.i ρ bEM):nW ρ ρ (ctw w1 w2 w3 w4) ctO:=by
 repeat' (first | with_reducible exact h1 | with_reducible exact h2 | with_reducible exact h3 | with_reducible exact h4 | with_reducible rfl | exact trivial | exact fun _ _=>rfl | refine And.intro ?_ ?_ | refine Or.inr ?_ | exact rfl)
theorem iS (ρ:Env) (k a:Int) (hk:E.i ρ (.v 19)=k) (ha:E.i ρ (.v 20)=a):∀ ι,(ctl k a).map (SV.aC ρ ι)=ctL.map (SV.aC ρ ι):=by
 intro ι;simp only [ctl,ctL,List.map_cons,List.map_nil,SV.aC,cellsOf,List.flatMap_cons,Seg.cells,S.aC,hk,ha,aD]
theorem tS (xs:Nat→Nat→Ext) (ρ:Env) (hI:ρ.I=Iv xs) (k:Int) (hk:E.i ρ (.v 19)=k) (ha:E.i ρ (.v 20)=0) (V F:E) (h:E.i ρ V=sgV k (ρ.i.getD 1 0) (E.i ρ cP) (ρ.i.getD 14 0 / 4%2)%65536∧E.i ρ F=sgF (ρ.i.getD 13 0) k (ρ.i.getD 1 0) (E.i ρ cP) (ρ.i.getD 14 0 / 4%2)%64):nW ρ ρ (ctw V (.v 2) F (.v 14)) ctO:=by
 obtain ⟨t1,t2,t3,t4⟩:=ctT0 xs ρ hI k hk ha
 exact ctwE ρ _ _ _ _ (h.1.trans t1.symm) t3.symm (h.2.trans t2.symm) t4.symm
theorem bQA (ρ:Env) (hH:ctH.ok ρ):E.i ρ (.v 1)=sgV 0 (ρ.i.getD 1 0) (E.i ρ cP) (ρ.i.getD 14 0 / 4%2)%65536∧E.i ρ (.v 13)=sgF (ρ.i.getD 13 0) 0 (ρ.i.getD 1 0) (E.i ρ cP) (ρ.i.getD 14 0 / 4%2)%64:=by
 obtain ⟨r1,r2,r13,r14,_⟩:=ctR ρ hH
 rw [show sgV 0 (ρ.i.getD 1 0) (E.i ρ cP) _=ρ.i.getD 1 0 from rfl,show sgF (ρ.i.getD 13 0) 0 (ρ.i.getD 1 0) (E.i ρ cP) _=ρ.i.getD 13 0 from rfl,i_v,i_v];omega
theorem bQg:enter Try.prog SH SHh 3000 40 54 ctH (ctl 0 0) ctM=some ([],.tup [],none):=by kernel_rfl
def bAs:E:=.eq (.v 18) (.lit 0)
def bAt:E:=.sel (.av 2) (.v 5)
def bAu:E:=.eq (.v 18) (.lit 1)
def bAv:E:=.eq (.v 18) (.lit 2)
def bAw:E:=.ite bAv (.v 9) (.v 10)
def bAx:E:=.ite bAu (.v 16) bAw
def aJG:E:=.ite bAs bAt bAx
def sQ:E:=.bits .or .u16 (.v 1) aJG
def bAy:E:=.le sQ (.lit 32767)
def bAz:E:=.ite bAy (.lit 0) (.lit 1)
def aNr:E:=.le (.v 13) (.lit 31)
def aNs:E:=.le (.lit 32768) sQ
def aNt:E:=.div (.v 13) (.lit 2)
def aNu:E:=.mod aNt (.lit 2)
def aNv:E:=.eq aNu (.lit 0)
def aNw:E:=.not aNv
def aNx:E:=.ite aNr aNs aNw
def aNy:E:=.ite aNx (.lit 2) (.lit 0)
def aNz:E:=.add bAz aNy
def aNA:E:=.eq sQ (.lit 0)
def aNB:E:=.ite aNA (.lit 8) (.lit 0)
def aDO:E:=.add aNz aNB
theorem bQC (ρ:Env) (hH:ctH.ok ρ):E.i ρ sQ=sgV 1 (ρ.i.getD 1 0) (E.i ρ cP) (ρ.i.getD 14 0 / 4%2)%65536∧E.i ρ aDO=sgF (ρ.i.getD 13 0) 1 (ρ.i.getD 1 0) (E.i ρ cP) (ρ.i.getD 14 0 / 4%2)%64:=by
 obtain ⟨r1,r2,r13,r14,r18,hr⟩:=ctR ρ hH
 have hp:E.i ρ aJG=E.i ρ cP:=by
  simp only [bAs,bAt,bAu,bAv,bAw,bAx,aJG,cP,sgm,sgn]
  (try (generalize ρ.i.getD 18 0=w at *;rcases (show w=0∨w=1∨w=2∨w=3 by omega) with h | h | h | h <;> subst h <;> simp))
 generalize E.i ρ cP=p at *
 simp only [sQ,bAy,bAz,aNr,aNs,aNt,aNu,aNv,aNw,aNx,aNy,aNz,aNA,aNB,aDO,sgm,sgn,hp,sgV,sgF]
 simp only [Int.reduceEq,if_false,if_true]
 simp only [cy1,cy2,sgn]
 clear hH hp r18
 generalize ρ.i.getD 1 0=q at *
 generalize ρ.i.getD 13 0=w at *
 generalize ρ.i.getD 14 0=cc at *
 have hb:=aHa .or (by simp) q p r1 hr
 generalize aK .or .u16 q p=x at *
 refine ⟨by omega,?_⟩
 refine (Int.emod_eq_of_lt ?_ ?_).symm <;> (repeat' split) <;> omega
theorem bQi:enter Try.prog SH SHh 3000 40 54 ctH (ctl 1 0) ctM=some ([],.tup [],some (ctw sQ (.v 2) aDO (.v 14))):=by kernel_rfl
def bAI:E:=.eq (.v 18) (.lit 0)
def bAJ:E:=.sel (.av 2) (.v 5)
def bAK:E:=.eq (.v 18) (.lit 1)
def bAL:E:=.eq (.v 18) (.lit 2)
def bAM:E:=.ite bAL (.v 9) (.v 10)
def bAN:E:=.ite bAK (.v 16) bAM
def aJI:E:=.ite bAI bAJ bAN
def sS:E:=.bits .and .u16 (.v 1) aJI
def bAO:E:=.le sS (.lit 32767)
def bAP:E:=.ite bAO (.lit 0) (.lit 1)
def aNN:E:=.le (.v 13) (.lit 31)
def aNO:E:=.le (.lit 32768) sS
def aNP:E:=.div (.v 13) (.lit 2)
def aNQ:E:=.mod aNP (.lit 2)
def aNR:E:=.eq aNQ (.lit 0)
def aNS:E:=.not aNR
def aNT:E:=.ite aNN aNO aNS
def aNU:E:=.ite aNT (.lit 2) (.lit 0)
def aNV:E:=.add bAP aNU
def aNW:E:=.eq sS (.lit 0)
def aNX:E:=.ite aNW (.lit 8) (.lit 0)
def aDQ:E:=.add aNV aNX
theorem bQE (ρ:Env) (hH:ctH.ok ρ):E.i ρ sS=sgV 2 (ρ.i.getD 1 0) (E.i ρ cP) (ρ.i.getD 14 0 / 4%2)%65536∧E.i ρ aDQ=sgF (ρ.i.getD 13 0) 2 (ρ.i.getD 1 0) (E.i ρ cP) (ρ.i.getD 14 0 / 4%2)%64:=by
 obtain ⟨r1,r2,r13,r14,r18,hr⟩:=ctR ρ hH
 have hp:E.i ρ aJI=E.i ρ cP:=by
  simp only [bAI,bAJ,bAK,bAL,bAM,bAN,aJI,cP,sgm,sgn]
  (try (generalize ρ.i.getD 18 0=w at *;rcases (show w=0∨w=1∨w=2∨w=3 by omega) with h | h | h | h <;> subst h <;> simp))
 generalize E.i ρ cP=p at *
 simp only [sS,bAO,bAP,aNN,aNO,aNP,aNQ,aNR,aNS,aNT,aNU,aNV,aNW,aNX,aDQ,sgm,sgn,hp,sgV,sgF]
 simp only [Int.reduceEq,if_false,if_true]
 simp only [cy1,cy2,sgn]
 clear hH hp r18
 generalize ρ.i.getD 1 0=q at *
 generalize ρ.i.getD 13 0=w at *
 generalize ρ.i.getD 14 0=cc at *
 have hb:=aHa .and (by simp) q p r1 hr
 generalize aK .and .u16 q p=x at *
 refine ⟨by omega,?_⟩
 refine (Int.emod_eq_of_lt ?_ ?_).symm <;> (repeat' split) <;> omega
theorem bQk:enter Try.prog SH SHh 3000 40 54 ctH (ctl 2 0) ctM=some ([],.tup [],some (ctw sS (.v 2) aDQ (.v 14))):=by kernel_rfl
def bAY:E:=.eq (.v 18) (.lit 0)
def bAZ:E:=.sel (.av 2) (.v 5)
def bBa:E:=.eq (.v 18) (.lit 1)
def bBb:E:=.eq (.v 18) (.lit 2)
def bBc:E:=.ite bBb (.v 9) (.v 10)
def bBd:E:=.ite bBa (.v 16) bBc
def aJK:E:=.ite bAY bAZ bBd
def sU:E:=.bits .xor .u16 (.v 1) aJK
def bBe:E:=.le sU (.lit 32767)
def bBf:E:=.ite bBe (.lit 0) (.lit 1)
def aOj:E:=.le (.v 13) (.lit 31)
def aOk:E:=.le (.lit 32768) sU
def aOl:E:=.div (.v 13) (.lit 2)
def aOm:E:=.mod aOl (.lit 2)
def aOn:E:=.eq aOm (.lit 0)
def aOo:E:=.not aOn
def aOp:E:=.ite aOj aOk aOo
def aOq:E:=.ite aOp (.lit 2) (.lit 0)
def aOr:E:=.add bBf aOq
def aOs:E:=.eq sU (.lit 0)
def aOt:E:=.ite aOs (.lit 8) (.lit 0)
def aDS:E:=.add aOr aOt
theorem bQG (ρ:Env) (hH:ctH.ok ρ):E.i ρ sU=sgV 3 (ρ.i.getD 1 0) (E.i ρ cP) (ρ.i.getD 14 0 / 4%2)%65536∧E.i ρ aDS=sgF (ρ.i.getD 13 0) 3 (ρ.i.getD 1 0) (E.i ρ cP) (ρ.i.getD 14 0 / 4%2)%64:=by
 obtain ⟨r1,r2,r13,r14,r18,hr⟩:=ctR ρ hH
 have hp:E.i ρ aJK=E.i ρ cP:=by
  simp only [bAY,bAZ,bBa,bBb,bBc,bBd,aJK,cP,sgm,sgn]
  (try (generalize ρ.i.getD 18 0=w at *;rcases (show w=0∨w=1∨w=2∨w=3 by omega) with h | h | h | h <;> subst h <;> simp))
 generalize E.i ρ cP=p at *
 simp only [sU,bBe,bBf,aOj,aOk,aOl,aOm,aOn,aOo,aOp,aOq,aOr,aOs,aOt,aDS,sgm,sgn,hp,sgV,sgF]
 simp only [Int.reduceEq,if_false,if_true]
 simp only [cy1,cy2,sgn]
 clear hH hp r18
 generalize ρ.i.getD 1 0=q at *
 generalize ρ.i.getD 13 0=w at *
 generalize ρ.i.getD 14 0=cc at *
 have hb:=aHa .xor (by simp) q p r1 hr
 generalize aK .xor .u16 q p=x at *
 refine ⟨by omega,?_⟩
 refine (Int.emod_eq_of_lt ?_ ?_).symm <;> (repeat' split) <;> omega
theorem bQm:enter Try.prog SH SHh 3000 40 54 ctH (ctl 3 0) ctM=some ([],.tup [],some (ctw sU (.v 2) aDS (.v 14))):=by kernel_rfl
def bBo:E:=.eq (.v 18) (.lit 0)
def bBp:E:=.sel (.av 2) (.v 5)
def bBq:E:=.eq (.v 18) (.lit 1)
def bBr:E:=.eq (.v 18) (.lit 2)
def bBs:E:=.ite bBr (.v 9) (.v 10)
def bBt:E:=.ite bBq (.v 16) bBs
def pE:E:=.ite bBo bBp bBt
def aJM:E:=.sub (.v 1) pE
def aCQ:E:=.mod aJM (.lit 65536)
def bBu:E:=.div aJM (.lit 32768)
def aDU:E:=.mod bBu (.lit 2)
def aDV:E:=.le (.v 13) (.lit 31)
def aOF:E:=.eq aDU (.lit 0)
def aOG:E:=.not aOF
def aOH:E:=.div (.v 13) (.lit 2)
def aOI:E:=.mod aOH (.lit 2)
def aOJ:E:=.eq aOI (.lit 0)
def aOK:E:=.not aOJ
def aOL:E:=.ite aDV aOG aOK
def aOM:E:=.ite aOL (.lit 2) (.lit 0)
def aON:E:=.add aDU aOM
def aOO:E:=.lt (.v 1) pE
def aOP:E:=.ite aOO (.lit 4) (.lit 0)
def aOQ:E:=.add aON aOP
def aOR:E:=.eq aCQ (.lit 0)
def aOS:E:=.ite aOR (.lit 8) (.lit 0)
def aOT:E:=.add aOQ aOS
def aOU:E:=.le (.v 1) (.lit 32767)
def aOV:E:=.add (.v 1) (.lit (-65536))
def aOW:E:=.ite aOU (.v 1) aOV
def aOX:E:=.le pE (.lit 32767)
def aOY:E:=.add pE (.lit (-65536))
def aOZ:E:=.ite aOX pE aOY
def aDW:E:=.sub aOW aOZ
def aPa:E:=.le (.lit 32768) aDW
def aPb:E:=.le aDW (.lit (-32769))
def aDX:E:=.or aPa aPb
def aPc:E:=.ite aDX (.lit 16) (.lit 0)
def aPd:E:=.add aOT aPc
def aPe:E:=.le (.lit 32) (.v 13)
def aPf:E:=.ite aDX aDV aPe
def aPg:E:=.ite aPf (.lit 32) (.lit 0)
def aDY:E:=.add aPd aPg
theorem bQI (ρ:Env) (hH:ctH.ok ρ):E.i ρ aCQ=sgV 4 (ρ.i.getD 1 0) (E.i ρ cP) (ρ.i.getD 14 0 / 4%2)%65536∧E.i ρ aDY=sgF (ρ.i.getD 13 0) 4 (ρ.i.getD 1 0) (E.i ρ cP) (ρ.i.getD 14 0 / 4%2)%64:=by
 obtain ⟨r1,r2,r13,r14,r18,hr⟩:=ctR ρ hH
 have hp:E.i ρ pE=E.i ρ cP:=by
  simp only [bBo,bBp,bBq,bBr,bBs,bBt,pE,cP,sgm,sgn]
  (try (generalize ρ.i.getD 18 0=w at *;rcases (show w=0∨w=1∨w=2∨w=3 by omega) with h | h | h | h <;> subst h <;> simp))
 generalize E.i ρ cP=p at *
 simp only [aJM,aCQ,bBu,aDU,aDV,aOF,aOG,aOH,aOI,aOJ,aOK,aOL,aOM,aON,aOO,aOP,aOQ,aOR,aOS,aOT,aOU,aOV,aOW,aOX,aOY,aOZ,aDW,aPa,aPb,aDX,aPc,aPd,aPe,aPf,aPg,aDY,sgm,sgn,hp,sgV,sgF]
 simp only [Int.reduceEq,if_false,if_true]
 simp only [cy1,cy2,sgn]
 clear hH hp r18
 generalize ρ.i.getD 1 0=q at *
 generalize ρ.i.getD 13 0=w at *
 generalize ρ.i.getD 14 0=cc at *
 refine ⟨by omega,?_⟩
 refine (Int.emod_eq_of_lt ?_ ?_).symm <;> (repeat' split) <;> omega
theorem bQo:enter Try.prog SH SHh 3000 40 54 ctH (ctl 4 0) ctM=some ([],.tup [],some (ctw aCQ (.v 2) aDY (.v 14))):=by kernel_rfl
def bBC:E:=.eq (.v 18) (.lit 0)
def bBD:E:=.sel (.av 2) (.v 5)
def bBE:E:=.eq (.v 18) (.lit 1)
def bBF:E:=.eq (.v 18) (.lit 2)
def bBG:E:=.ite bBF (.v 9) (.v 10)
def bBH:E:=.ite bBE (.v 16) bBG
def sW:E:=.ite bBC bBD bBH
def aCS:E:=.add (.v 1) sW
def aCT:E:=.mod aCS (.lit 65536)
def bBI:E:=.div aCS (.lit 32768)
def aEe:E:=.mod bBI (.lit 2)
def aEf:E:=.le (.v 13) (.lit 31)
def aPJ:E:=.eq aEe (.lit 0)
def aPK:E:=.not aPJ
def aPL:E:=.div (.v 13) (.lit 2)
def aPM:E:=.mod aPL (.lit 2)
def aPN:E:=.eq aPM (.lit 0)
def aPO:E:=.not aPN
def aPP:E:=.ite aEf aPK aPO
def aPQ:E:=.ite aPP (.lit 2) (.lit 0)
def aPR:E:=.add aEe aPQ
def aPS:E:=.le aCS (.lit 65535)
def aPT:E:=.ite aPS (.lit 0) (.lit 4)
def aPU:E:=.add aPR aPT
def aPV:E:=.eq aCT (.lit 0)
def aPW:E:=.ite aPV (.lit 8) (.lit 0)
def aPX:E:=.add aPU aPW
def aPY:E:=.le (.v 1) (.lit 32767)
def aPZ:E:=.add (.v 1) (.lit (-65536))
def aQa:E:=.ite aPY (.v 1) aPZ
def aQb:E:=.le sW (.lit 32767)
def aQc:E:=.add sW (.lit (-65536))
def aQd:E:=.ite aQb sW aQc
def aEg:E:=.add aQa aQd
def aQe:E:=.le (.lit 32768) aEg
def aQf:E:=.le aEg (.lit (-32769))
def aEh:E:=.or aQe aQf
def aQg:E:=.ite aEh (.lit 16) (.lit 0)
def aQh:E:=.add aPX aQg
def aQi:E:=.le (.lit 32) (.v 13)
def aQj:E:=.ite aEh aEf aQi
def aQk:E:=.ite aQj (.lit 32) (.lit 0)
def aEi:E:=.add aQh aQk
theorem bQK (ρ:Env) (hH:ctH.ok ρ):E.i ρ aCT=sgV 5 (ρ.i.getD 1 0) (E.i ρ cP) (ρ.i.getD 14 0 / 4%2)%65536∧E.i ρ aEi=sgF (ρ.i.getD 13 0) 5 (ρ.i.getD 1 0) (E.i ρ cP) (ρ.i.getD 14 0 / 4%2)%64:=by
 obtain ⟨r1,r2,r13,r14,r18,hr⟩:=ctR ρ hH
 have hp:E.i ρ sW=E.i ρ cP:=by
  simp only [bBC,bBD,bBE,bBF,bBG,bBH,sW,cP,sgm,sgn]
  (try (generalize ρ.i.getD 18 0=w at *;rcases (show w=0∨w=1∨w=2∨w=3 by omega) with h | h | h | h <;> subst h <;> simp))
 generalize E.i ρ cP=p at *
 simp only [aCS,aCT,bBI,aEe,aEf,aPJ,aPK,aPL,aPM,aPN,aPO,aPP,aPQ,aPR,aPS,aPT,aPU,aPV,aPW,aPX,aPY,aPZ,aQa,aQb,aQc,aQd,aEg,aQe,aQf,aEh,aQg,aQh,aQi,aQj,aQk,aEi,sgm,sgn,hp,sgV,sgF]
 simp only [Int.reduceEq,if_false,if_true]
 simp only [cy1,cy2,sgn]
 clear hH hp r18
 generalize ρ.i.getD 1 0=q at *
 generalize ρ.i.getD 13 0=w at *
 generalize ρ.i.getD 14 0=cc at *
 refine ⟨by omega,?_⟩
 refine (Int.emod_eq_of_lt ?_ ?_).symm <;> (repeat' split) <;> omega
theorem bQq:enter Try.prog SH SHh 3000 40 54 ctH (ctl 5 0) ctM=some ([],.tup [],some (ctw aCT (.v 2) aEi (.v 14))):=by kernel_rfl
def bBQ:E:=.eq (.v 18) (.lit 0)
def bBR:E:=.sel (.av 2) (.v 5)
def bBS:E:=.eq (.v 18) (.lit 1)
def bBT:E:=.eq (.v 18) (.lit 2)
def bBU:E:=.ite bBT (.v 9) (.v 10)
def bBV:E:=.ite bBS (.v 16) bBU
def pG:E:=.ite bBQ bBR bBV
def bBW:E:=.sub (.v 1) pG
def bBX:E:=.div (.v 14) (.lit 4)
def aJO:E:=.mod bBX (.lit 2)
def aEo:E:=.sub bBW aJO
def yU:E:=.mod aEo (.lit 65536)
def aQN:E:=.div aEo (.lit 32768)
def aEp:E:=.mod aQN (.lit 2)
def aEq:E:=.le (.v 13) (.lit 31)
def aQO:E:=.eq aEp (.lit 0)
def aQP:E:=.not aQO
def aQQ:E:=.div (.v 13) (.lit 2)
def aQR:E:=.mod aQQ (.lit 2)
def aQS:E:=.eq aQR (.lit 0)
def aQT:E:=.not aQS
def aQU:E:=.ite aEq aQP aQT
def aQV:E:=.ite aQU (.lit 2) (.lit 0)
def aQW:E:=.add aEp aQV
def aQX:E:=.add pG aJO
def aQY:E:=.lt (.v 1) aQX
def aQZ:E:=.ite aQY (.lit 4) (.lit 0)
def aRa:E:=.add aQW aQZ
def aRb:E:=.eq yU (.lit 0)
def aRc:E:=.ite aRb (.lit 8) (.lit 0)
def aRd:E:=.add aRa aRc
def aRe:E:=.le (.v 1) (.lit 32767)
def aRf:E:=.add (.v 1) (.lit (-65536))
def aRg:E:=.ite aRe (.v 1) aRf
def aRh:E:=.le pG (.lit 32767)
def aRi:E:=.add pG (.lit (-65536))
def aRj:E:=.ite aRh pG aRi
def aEr:E:=.sub aRg aRj
def aRk:E:=.le (.lit 32768) aEr
def aRl:E:=.le aEr (.lit (-32769))
def aEs:E:=.or aRk aRl
def aRm:E:=.ite aEs (.lit 16) (.lit 0)
def aRn:E:=.add aRd aRm
def aRo:E:=.le (.lit 32) (.v 13)
def aRp:E:=.ite aEs aEq aRo
def aRq:E:=.ite aRp (.lit 32) (.lit 0)
def aEt:E:=.add aRn aRq
theorem bQM (ρ:Env) (hH:ctH.ok ρ):E.i ρ yU=sgV 6 (ρ.i.getD 1 0) (E.i ρ cP) (ρ.i.getD 14 0 / 4%2)%65536∧E.i ρ aEt=sgF (ρ.i.getD 13 0) 6 (ρ.i.getD 1 0) (E.i ρ cP) (ρ.i.getD 14 0 / 4%2)%64:=by
 obtain ⟨r1,r2,r13,r14,r18,hr⟩:=ctR ρ hH
 have hp:E.i ρ pG=E.i ρ cP:=by
  simp only [bBQ,bBR,bBS,bBT,bBU,bBV,pG,cP,sgm,sgn]
  (try (generalize ρ.i.getD 18 0=w at *;rcases (show w=0∨w=1∨w=2∨w=3 by omega) with h | h | h | h <;> subst h <;> simp))
 generalize E.i ρ cP=p at *
 simp only [bBW,bBX,aJO,aEo,yU,aQN,aEp,aEq,aQO,aQP,aQQ,aQR,aQS,aQT,aQU,aQV,aQW,aQX,aQY,aQZ,aRa,aRb,aRc,aRd,aRe,aRf,aRg,aRh,aRi,aRj,aEr,aRk,aRl,aEs,aRm,aRn,aRo,aRp,aRq,aEt,sgm,sgn,hp,sgV,sgF]
 simp only [Int.reduceEq,if_false,if_true]
 simp only [cy1,cy2,sgn]
 clear hH hp r18
 generalize ρ.i.getD 1 0=q at *
 generalize ρ.i.getD 13 0=w at *
 generalize ρ.i.getD 14 0=cc at *
 refine ⟨by omega,?_⟩
 refine (Int.emod_eq_of_lt ?_ ?_).symm <;> (repeat' split) <;> omega
theorem bQs:enter Try.prog SH SHh 3000 40 54 ctH (ctl 6 0) ctM=some ([],.tup [],some (ctw yU (.v 2) aEt (.v 14))):=by kernel_rfl
def bCg:E:=.eq (.v 18) (.lit 0)
def bCh:E:=.sel (.av 2) (.v 5)
def bCi:E:=.eq (.v 18) (.lit 1)
def bCj:E:=.eq (.v 18) (.lit 2)
def bCk:E:=.ite bCj (.v 9) (.v 10)
def bCl:E:=.ite bCi (.v 16) bCk
def sY:E:=.ite bCg bCh bCl
def bCm:E:=.add (.v 1) sY
def bCn:E:=.div (.v 14) (.lit 4)
def bCo:E:=.mod bCn (.lit 2)
def yW:E:=.add bCm bCo
def yX:E:=.mod yW (.lit 65536)
def aRV:E:=.div yW (.lit 32768)
def aEA:E:=.mod aRV (.lit 2)
def aEB:E:=.le (.v 13) (.lit 31)
def aRW:E:=.eq aEA (.lit 0)
def aRX:E:=.not aRW
def aRY:E:=.div (.v 13) (.lit 2)
def aRZ:E:=.mod aRY (.lit 2)
def aSa:E:=.eq aRZ (.lit 0)
def aSb:E:=.not aSa
def aSc:E:=.ite aEB aRX aSb
def aSd:E:=.ite aSc (.lit 2) (.lit 0)
def aSe:E:=.add aEA aSd
def aSf:E:=.le yW (.lit 65535)
def aSg:E:=.ite aSf (.lit 0) (.lit 4)
def aSh:E:=.add aSe aSg
def aSi:E:=.eq yX (.lit 0)
def aSj:E:=.ite aSi (.lit 8) (.lit 0)
def aSk:E:=.add aSh aSj
def aSl:E:=.le (.v 1) (.lit 32767)
def aSm:E:=.add (.v 1) (.lit (-65536))
def aSn:E:=.ite aSl (.v 1) aSm
def aSo:E:=.le sY (.lit 32767)
def aSp:E:=.add sY (.lit (-65536))
def aSq:E:=.ite aSo sY aSp
def aEC:E:=.add aSn aSq
def aSr:E:=.le (.lit 32768) aEC
def aSs:E:=.le aEC (.lit (-32769))
def aED:E:=.or aSr aSs
def aSt:E:=.ite aED (.lit 16) (.lit 0)
def aSu:E:=.add aSk aSt
def aSv:E:=.le (.lit 32) (.v 13)
def aSw:E:=.ite aED aEB aSv
def aSx:E:=.ite aSw (.lit 32) (.lit 0)
def aEE:E:=.add aSu aSx
theorem bQO (ρ:Env) (hH:ctH.ok ρ):E.i ρ yX=sgV 7 (ρ.i.getD 1 0) (E.i ρ cP) (ρ.i.getD 14 0 / 4%2)%65536∧E.i ρ aEE=sgF (ρ.i.getD 13 0) 7 (ρ.i.getD 1 0) (E.i ρ cP) (ρ.i.getD 14 0 / 4%2)%64:=by
 obtain ⟨r1,r2,r13,r14,r18,hr⟩:=ctR ρ hH
 have hp:E.i ρ sY=E.i ρ cP:=by
  simp only [bCg,bCh,bCi,bCj,bCk,bCl,sY,cP,sgm,sgn]
  (try (generalize ρ.i.getD 18 0=w at *;rcases (show w=0∨w=1∨w=2∨w=3 by omega) with h | h | h | h <;> subst h <;> simp))
 generalize E.i ρ cP=p at *
 simp only [bCm,bCn,bCo,yW,yX,aRV,aEA,aEB,aRW,aRX,aRY,aRZ,aSa,aSb,aSc,aSd,aSe,aSf,aSg,aSh,aSi,aSj,aSk,aSl,aSm,aSn,aSo,aSp,aSq,aEC,aSr,aSs,aED,aSt,aSu,aSv,aSw,aSx,aEE,sgm,sgn,hp,sgV,sgF]
 simp only [Int.reduceEq,if_false,if_true]
 simp only [cy1,cy2,sgn]
 clear hH hp r18
 generalize ρ.i.getD 1 0=q at *
 generalize ρ.i.getD 13 0=w at *
 generalize ρ.i.getD 14 0=cc at *
 refine ⟨by omega,?_⟩
 refine (Int.emod_eq_of_lt ?_ ?_).symm <;> (repeat' split) <;> omega
theorem bQu:enter Try.prog SH SHh 3000 40 54 ctH (ctl 7 0) ctM=some ([],.tup [],some (ctw yX (.v 2) aEE (.v 14))):=by kernel_rfl
def bCy:E:=.add (.v 1) (.lit 65535)
def aCW:E:=.mod bCy (.lit 65536)
def bCz:E:=.add (.v 1) (.lit 32767)
def bCA:E:=.div bCz (.lit 32768)
def bCB:E:=.add bCA (.lit 1)
def aJQ:E:=.mod bCB (.lit 2)
def aJR:E:=.le (.v 13) (.lit 31)
def bCC:E:=.eq aJQ (.lit 0)
def bCD:E:=.not bCC
def bCE:E:=.div (.v 13) (.lit 2)
def aTb:E:=.mod bCE (.lit 2)
def aTc:E:=.eq aTb (.lit 0)
def aTd:E:=.not aTc
def aTe:E:=.ite aJR bCD aTd
def aTf:E:=.ite aTe (.lit 2) (.lit 0)
def aTg:E:=.add aJQ aTf
def aTh:E:=.le (.v 1) (.lit 0)
def aTi:E:=.ite aTh (.lit 4) (.lit 0)
def aTj:E:=.add aTg aTi
def aTk:E:=.eq aCW (.lit 0)
def aTl:E:=.ite aTk (.lit 8) (.lit 0)
def aTm:E:=.add aTj aTl
def aTn:E:=.le (.v 1) (.lit 32767)
def aTo:E:=.add (.v 1) (.lit (-65536))
def aTp:E:=.ite aTn (.v 1) aTo
def aTq:E:=.add aTp (.lit (-1))
def aEK:E:=.le aTq (.lit (-32769))
def aTr:E:=.ite aEK (.lit 16) (.lit 0)
def aTs:E:=.add aTm aTr
def aTt:E:=.le (.lit 32) (.v 13)
def aTu:E:=.ite aEK aJR aTt
def aTv:E:=.ite aTu (.lit 32) (.lit 0)
def aEL:E:=.add aTs aTv
theorem bQQ (ρ:Env) (hH:ctH.ok ρ):E.i ρ aCW=sgV 8 (ρ.i.getD 1 0) (E.i ρ cP) (ρ.i.getD 14 0 / 4%2)%65536∧E.i ρ aEL=sgF (ρ.i.getD 13 0) 8 (ρ.i.getD 1 0) (E.i ρ cP) (ρ.i.getD 14 0 / 4%2)%64:=by
 obtain ⟨r1,r2,r13,r14,r18,hr⟩:=ctR ρ hH
 generalize E.i ρ cP=p at *
 simp only [bCy,aCW,bCz,bCA,bCB,aJQ,aJR,bCC,bCD,bCE,aTb,aTc,aTd,aTe,aTf,aTg,aTh,aTi,aTj,aTk,aTl,aTm,aTn,aTo,aTp,aTq,aEK,aTr,aTs,aTt,aTu,aTv,aEL,sgm,sgn,sgV,sgF]
 simp only [Int.reduceEq,if_false,if_true]
 simp only [cy1,cy2,sgn]
 clear hH r18
 generalize ρ.i.getD 1 0=q at *
 generalize ρ.i.getD 13 0=w at *
 generalize ρ.i.getD 14 0=cc at *
 refine ⟨by omega,?_⟩
 refine (Int.emod_eq_of_lt ?_ ?_).symm <;> (repeat' split) <;> omega
theorem bQw:enter Try.prog SH SHh 3000 40 54 ctH (ctl 8 0) ctM=some ([],.tup [],some (ctw aCW (.v 2) aEL (.v 14))):=by kernel_rfl
def aCY:E:=.add (.v 1) (.lit 1)
def aCZ:E:=.mod aCY (.lit 65536)
def bCM:E:=.div aCY (.lit 32768)
def aJU:E:=.mod bCM (.lit 2)
def aJV:E:=.le (.v 13) (.lit 31)
def bCN:E:=.eq aJU (.lit 0)
def bCO:E:=.not bCN
def bCP:E:=.div (.v 13) (.lit 2)
def bCQ:E:=.mod bCP (.lit 2)
def bCR:E:=.eq bCQ (.lit 0)
def aTR:E:=.not bCR
def aTS:E:=.ite aJV bCO aTR
def aTT:E:=.ite aTS (.lit 2) (.lit 0)
def aTU:E:=.add aJU aTT
def aTV:E:=.le aCY (.lit 65535)
def aTW:E:=.ite aTV (.lit 0) (.lit 4)
def aTX:E:=.add aTU aTW
def aTY:E:=.eq aCZ (.lit 0)
def aTZ:E:=.ite aTY (.lit 8) (.lit 0)
def aUa:E:=.add aTX aTZ
def aUb:E:=.le (.v 1) (.lit 32767)
def aUc:E:=.add (.v 1) (.lit (-65536))
def aUd:E:=.ite aUb (.v 1) aUc
def aEO:E:=.add aUd (.lit 1)
def aUe:E:=.le (.lit 32768) aEO
def aUf:E:=.le aEO (.lit (-32769))
def aEP:E:=.or aUe aUf
def aUg:E:=.ite aEP (.lit 16) (.lit 0)
def aUh:E:=.add aUa aUg
def aUi:E:=.le (.lit 32) (.v 13)
def aUj:E:=.ite aEP aJV aUi
def aUk:E:=.ite aUj (.lit 32) (.lit 0)
def aEQ:E:=.add aUh aUk
theorem bQS (ρ:Env) (hH:ctH.ok ρ):E.i ρ aCZ=sgV 9 (ρ.i.getD 1 0) (E.i ρ cP) (ρ.i.getD 14 0 / 4%2)%65536∧E.i ρ aEQ=sgF (ρ.i.getD 13 0) 9 (ρ.i.getD 1 0) (E.i ρ cP) (ρ.i.getD 14 0 / 4%2)%64:=by
 obtain ⟨r1,r2,r13,r14,r18,hr⟩:=ctR ρ hH
 generalize E.i ρ cP=p at *
 simp only [aCY,aCZ,bCM,aJU,aJV,bCN,bCO,bCP,bCQ,bCR,aTR,aTS,aTT,aTU,aTV,aTW,aTX,aTY,aTZ,aUa,aUb,aUc,aUd,aEO,aUe,aUf,aEP,aUg,aUh,aUi,aUj,aUk,aEQ,sgm,sgn,sgV,sgF]
 simp only [Int.reduceEq,if_false,if_true]
 simp only [cy1,cy2,sgn]
 clear hH r18
 generalize ρ.i.getD 1 0=q at *
 generalize ρ.i.getD 13 0=w at *
 generalize ρ.i.getD 14 0=cc at *
 refine ⟨by omega,?_⟩
 refine (Int.emod_eq_of_lt ?_ ?_).symm <;> (repeat' split) <;> omega
theorem bQy:enter Try.prog SH SHh 3000 40 54 ctH (ctl 9 0) ctM=some ([],.tup [],some (ctw aCZ (.v 2) aEQ (.v 14))):=by kernel_rfl
def nY:E:=.sub (.lit 65535) (.v 1)
def aLn:E:=.le nY (.lit 32767)
def aLo:E:=.ite aLn (.lit 0) (.lit 1)
def aLp:E:=.le (.v 13) (.lit 31)
def aLq:E:=.le (.lit 32768) nY
def aLr:E:=.div (.v 13) (.lit 2)
def aLs:E:=.mod aLr (.lit 2)
def aLt:E:=.eq aLs (.lit 0)
def aLu:E:=.not aLt
def aLv:E:=.ite aLp aLq aLu
def aHd:E:=.ite aLv (.lit 2) (.lit 0)
def aHe:E:=.add aLo aHd
def aHf:E:=.eq nY (.lit 0)
def aHg:E:=.ite aHf (.lit 8) (.lit 0)
def aAm:E:=.add aHe aHg
theorem bLA (ρ:Env) (hH:ctH.ok ρ):E.i ρ nY=sgV 10 (ρ.i.getD 1 0) (E.i ρ cP) (ρ.i.getD 14 0 / 4%2)%65536∧E.i ρ aAm=sgF (ρ.i.getD 13 0) 10 (ρ.i.getD 1 0) (E.i ρ cP) (ρ.i.getD 14 0 / 4%2)%64:=by
 obtain ⟨r1,r2,r13,r14,r18,hr⟩:=ctR ρ hH
 generalize E.i ρ cP=p at *
 simp only [nY,aLn,aLo,aLp,aLq,aLr,aLs,aLt,aLu,aLv,aHd,aHe,aHf,aHg,aAm,sgm,sgn,sgV,sgF]
 simp only [Int.reduceEq,if_false,if_true]
 simp only [cy1,cy2,sgn]
 clear hH r18
 generalize ρ.i.getD 1 0=q at *
 generalize ρ.i.getD 13 0=w at *
 generalize ρ.i.getD 14 0=cc at *
 refine ⟨by omega,?_⟩
 refine (Int.emod_eq_of_lt ?_ ?_).symm <;> (repeat' split) <;> omega
theorem bLo:enter Try.prog SH SHh 3000 40 54 ctH (ctl 10 0) ctM=some ([],.tup [],some (ctw nY (.v 2) aAm (.v 14))):=by kernel_rfl
def aLF:E:=.div (.v 1) (.lit 2)
def aLG:E:=.div (.v 1) (.lit 32768)
def aLH:E:=.mul aLG (.lit 32768)
def oA:E:=.add aLF aLH
def aLI:E:=.le oA (.lit 32767)
def aLJ:E:=.ite aLI (.lit 0) (.lit 1)
def aLK:E:=.le (.v 13) (.lit 31)
def aLL:E:=.le (.lit 32768) oA
def aLM:E:=.div (.v 13) (.lit 2)
def aLN:E:=.mod aLM (.lit 2)
def aHl:E:=.eq aLN (.lit 0)
def aHm:E:=.not aHl
def aHn:E:=.ite aLK aLL aHm
def aHo:E:=.ite aHn (.lit 2) (.lit 0)
def aHp:E:=.add aLJ aHo
def aHq:E:=.mod (.v 1) (.lit 2)
def aHr:E:=.eq aHq (.lit 0)
def aHs:E:=.ite aHr (.lit 0) (.lit 4)
def aHt:E:=.add aHp aHs
def aHu:E:=.eq oA (.lit 0)
def aHv:E:=.ite aHu (.lit 8) (.lit 0)
def aAo:E:=.add aHt aHv
theorem bLC (ρ:Env) (hH:ctH.ok ρ):E.i ρ oA=sgV 11 (ρ.i.getD 1 0) (E.i ρ cP) (ρ.i.getD 14 0 / 4%2)%65536∧E.i ρ aAo=sgF (ρ.i.getD 13 0) 11 (ρ.i.getD 1 0) (E.i ρ cP) (ρ.i.getD 14 0 / 4%2)%64:=by
 obtain ⟨r1,r2,r13,r14,r18,hr⟩:=ctR ρ hH
 generalize E.i ρ cP=p at *
 simp only [aLF,aLG,aLH,oA,aLI,aLJ,aLK,aLL,aLM,aLN,aHl,aHm,aHn,aHo,aHp,aHq,aHr,aHs,aHt,aHu,aHv,aAo,sgm,sgn,sgV,sgF]
 simp only [Int.reduceEq,if_false,if_true]
 simp only [cy1,cy2,sgn]
 clear hH r18
 generalize ρ.i.getD 1 0=q at *
 generalize ρ.i.getD 13 0=w at *
 generalize ρ.i.getD 14 0=cc at *
 refine ⟨by omega,?_⟩
 refine (Int.emod_eq_of_lt ?_ ?_).symm <;> (repeat' split) <;> omega
theorem bLq:enter Try.prog SH SHh 3000 40 54 ctH (ctl 11 0) ctM=some ([],.tup [],some (ctw oA (.v 2) aAo (.v 14))):=by kernel_rfl
def aLX:E:=.mod (.v 1) (.lit 32768)
def aLY:E:=.mul aLX (.lit 2)
def aLZ:E:=.div (.v 14) (.lit 4)
def aMa:E:=.mod aLZ (.lit 2)
def oC:E:=.add aLY aMa
def aMb:E:=.le oC (.lit 32767)
def aMc:E:=.ite aMb (.lit 0) (.lit 1)
def aMd:E:=.le (.v 13) (.lit 31)
def aMe:E:=.le (.lit 32768) oC
def aMf:E:=.div (.v 13) (.lit 2)
def aHH:E:=.mod aMf (.lit 2)
def aHI:E:=.eq aHH (.lit 0)
def aHJ:E:=.not aHI
def aHK:E:=.ite aMd aMe aHJ
def aHL:E:=.ite aHK (.lit 2) (.lit 0)
def aHM:E:=.add aMc aHL
def aHN:E:=.le (.v 1) (.lit 32767)
def aHO:E:=.ite aHN (.lit 0) (.lit 4)
def aHP:E:=.add aHM aHO
def aHQ:E:=.eq oC (.lit 0)
def aHR:E:=.ite aHQ (.lit 8) (.lit 0)
def aAq:E:=.add aHP aHR
theorem bLE (ρ:Env) (hH:ctH.ok ρ):E.i ρ oC=sgV 12 (ρ.i.getD 1 0) (E.i ρ cP) (ρ.i.getD 14 0 / 4%2)%65536∧E.i ρ aAq=sgF (ρ.i.getD 13 0) 12 (ρ.i.getD 1 0) (E.i ρ cP) (ρ.i.getD 14 0 / 4%2)%64:=by
 obtain ⟨r1,r2,r13,r14,r18,hr⟩:=ctR ρ hH
 generalize E.i ρ cP=p at *
 simp only [aLX,aLY,aLZ,aMa,oC,aMb,aMc,aMd,aMe,aMf,aHH,aHI,aHJ,aHK,aHL,aHM,aHN,aHO,aHP,aHQ,aHR,aAq,sgm,sgn,sgV,sgF]
 simp only [Int.reduceEq,if_false,if_true]
 simp only [cy1,cy2,sgn]
 clear hH r18
 generalize ρ.i.getD 1 0=q at *
 generalize ρ.i.getD 13 0=w at *
 generalize ρ.i.getD 14 0=cc at *
 refine ⟨by omega,?_⟩
 refine (Int.emod_eq_of_lt ?_ ?_).symm <;> (repeat' split) <;> omega
theorem bLs:enter Try.prog SH SHh 3000 40 54 ctH (ctl 12 0) ctM=some ([],.tup [],some (ctw oC (.v 2) aAq (.v 14))):=by kernel_rfl
def aMp:E:=.mod (.v 1) (.lit 16384)
def aMq:E:=.mul aMp (.lit 4)
def qS:E:=.add aMq (.lit 3)
def aMr:E:=.le qS (.lit 32767)
def aMs:E:=.ite aMr (.lit 0) (.lit 1)
def aMt:E:=.le (.v 13) (.lit 31)
def aMu:E:=.le (.lit 32768) qS
def aMv:E:=.div (.v 13) (.lit 2)
def aMw:E:=.mod aMv (.lit 2)
def aMx:E:=.eq aMw (.lit 0)
def aId:E:=.not aMx
def aIe:E:=.ite aMt aMu aId
def aIf:E:=.ite aIe (.lit 2) (.lit 0)
def aAs:E:=.add aMs aIf
theorem bLG (ρ:Env) (hH:ctH.ok ρ):E.i ρ qS=sgV 13 (ρ.i.getD 1 0) (E.i ρ cP) (ρ.i.getD 14 0 / 4%2)%65536∧E.i ρ aAs=sgF (ρ.i.getD 13 0) 13 (ρ.i.getD 1 0) (E.i ρ cP) (ρ.i.getD 14 0 / 4%2)%64:=by
 obtain ⟨r1,r2,r13,r14,r18,hr⟩:=ctR ρ hH
 generalize E.i ρ cP=p at *
 simp only [aMp,aMq,qS,aMr,aMs,aMt,aMu,aMv,aMw,aMx,aId,aIe,aIf,aAs,sgm,sgn,sgV,sgF]
 simp only [Int.reduceEq,if_false,if_true]
 simp only [cy1,cy2,sgn]
 clear hH r18
 generalize ρ.i.getD 1 0=q at *
 generalize ρ.i.getD 13 0=w at *
 generalize ρ.i.getD 14 0=cc at *
 refine ⟨by omega,?_⟩
 refine (Int.emod_eq_of_lt ?_ ?_).symm <;> (repeat' split) <;> omega
theorem bLu:enter Try.prog SH SHh 3000 40 54 ctH (ctl 13 0) ctM=some ([],.tup [],some (ctw qS (.v 2) aAs (.v 14))):=by kernel_rfl
def aMH:E:=.mod (.v 1) (.lit 4096)
def aMI:E:=.mul aMH (.lit 16)
def qU:E:=.add aMI (.lit 15)
def aMJ:E:=.le qU (.lit 32767)
def aMK:E:=.ite aMJ (.lit 0) (.lit 1)
def aML:E:=.le (.v 13) (.lit 31)
def aMM:E:=.le (.lit 32768) qU
def aMN:E:=.div (.v 13) (.lit 2)
def aMO:E:=.mod aMN (.lit 2)
def aMP:E:=.eq aMO (.lit 0)
def aIj:E:=.not aMP
def aIk:E:=.ite aML aMM aIj
def aIl:E:=.ite aIk (.lit 2) (.lit 0)
def aAu:E:=.add aMK aIl
theorem bLI (ρ:Env) (hH:ctH.ok ρ):E.i ρ qU=sgV 14 (ρ.i.getD 1 0) (E.i ρ cP) (ρ.i.getD 14 0 / 4%2)%65536∧E.i ρ aAu=sgF (ρ.i.getD 13 0) 14 (ρ.i.getD 1 0) (E.i ρ cP) (ρ.i.getD 14 0 / 4%2)%64:=by
 obtain ⟨r1,r2,r13,r14,r18,hr⟩:=ctR ρ hH
 generalize E.i ρ cP=p at *
 simp only [aMH,aMI,qU,aMJ,aMK,aML,aMM,aMN,aMO,aMP,aIj,aIk,aIl,aAu,sgm,sgn,sgV,sgF]
 simp only [Int.reduceEq,if_false,if_true]
 simp only [cy1,cy2,sgn]
 clear hH r18
 generalize ρ.i.getD 1 0=q at *
 generalize ρ.i.getD 13 0=w at *
 generalize ρ.i.getD 14 0=cc at *
 refine ⟨by omega,?_⟩
 refine (Int.emod_eq_of_lt ?_ ?_).symm <;> (repeat' split) <;> omega
theorem bLw:enter Try.prog SH SHh 3000 40 54 ctH (ctl 14 0) ctM=some ([],.tup [],some (ctw qU (.v 2) aAu (.v 14))):=by kernel_rfl
def aMZ:E:=.mod (.v 1) (.lit 256)
def aNa:E:=.mul aMZ (.lit 256)
def aNb:E:=.div (.v 1) (.lit 256)
def oE:E:=.add aNa aNb
def aNc:E:=.le oE (.lit 32767)
def aNd:E:=.ite aNc (.lit 0) (.lit 1)
def aNe:E:=.le (.v 13) (.lit 31)
def aNf:E:=.le (.lit 32768) oE
def aNg:E:=.div (.v 13) (.lit 2)
def aNh:E:=.mod aNg (.lit 2)
def aIp:E:=.eq aNh (.lit 0)
def aIq:E:=.not aIp
def aIr:E:=.ite aNe aNf aIq
def aIs:E:=.ite aIr (.lit 2) (.lit 0)
def aIt:E:=.add aNd aIs
def aIu:E:=.eq oE (.lit 0)
def aIv:E:=.ite aIu (.lit 8) (.lit 0)
def aAw:E:=.add aIt aIv
theorem bLK (ρ:Env) (hH:ctH.ok ρ):E.i ρ oE=sgV 15 (ρ.i.getD 1 0) (E.i ρ cP) (ρ.i.getD 14 0 / 4%2)%65536∧E.i ρ aAw=sgF (ρ.i.getD 13 0) 15 (ρ.i.getD 1 0) (E.i ρ cP) (ρ.i.getD 14 0 / 4%2)%64:=by
 obtain ⟨r1,r2,r13,r14,r18,hr⟩:=ctR ρ hH
 generalize E.i ρ cP=p at *
 simp only [aMZ,aNa,aNb,oE,aNc,aNd,aNe,aNf,aNg,aNh,aIp,aIq,aIr,aIs,aIt,aIu,aIv,aAw,sgm,sgn,sgV,sgF]
 simp only [Int.reduceEq,if_false,if_true]
 simp only [cy1,cy2,sgn]
 clear hH r18
 generalize ρ.i.getD 1 0=q at *
 generalize ρ.i.getD 13 0=w at *
 generalize ρ.i.getD 14 0=cc at *
 refine ⟨by omega,?_⟩
 refine (Int.emod_eq_of_lt ?_ ?_).symm <;> (repeat' split) <;> omega
theorem bLy:enter Try.prog SH SHh 3000 40 54 ctH (ctl 15 0) ctM=some ([],.tup [],some (ctw oE (.v 2) aAw (.v 14))):=by kernel_rfl
theorem tT (xs:Nat→Nat→Ext) (ρ:Env) (hI:ρ.I=Iv xs) (k:Int) (hk:E.i ρ (.v 19)=k) (ha:E.i ρ (.v 20)=1) (V F:E) (h:E.i ρ V=sgV k (ρ.i.getD 2 0) (E.i ρ cP) (ρ.i.getD 13 0 / 4%2)%65536∧E.i ρ F=sgF (ρ.i.getD 14 0) k (ρ.i.getD 2 0) (E.i ρ cP) (ρ.i.getD 13 0 / 4%2)%64):nW ρ ρ (ctw (.v 1) V (.v 13) F) ctO:=by
 obtain ⟨t1,t2,t3,t4⟩:=ctT1 xs ρ hI k hk ha
 exact ctwE ρ _ _ _ _ t3.symm (h.1.trans t1.symm) t4.symm (h.2.trans t2.symm)
theorem bQB (ρ:Env) (hH:ctH.ok ρ):E.i ρ (.v 2)=sgV 0 (ρ.i.getD 2 0) (E.i ρ cP) (ρ.i.getD 13 0 / 4%2)%65536∧E.i ρ (.v 14)=sgF (ρ.i.getD 14 0) 0 (ρ.i.getD 2 0) (E.i ρ cP) (ρ.i.getD 13 0 / 4%2)%64:=by
 obtain ⟨r1,r2,r13,r14,_⟩:=ctR ρ hH
 rw [show sgV 0 (ρ.i.getD 2 0) (E.i ρ cP) _=ρ.i.getD 2 0 from rfl,show sgF (ρ.i.getD 14 0) 0 (ρ.i.getD 2 0) (E.i ρ cP) _=ρ.i.getD 14 0 from rfl,i_v,i_v];omega
theorem bQh:enter Try.prog SH SHh 3000 40 54 ctH (ctl 0 1) ctM=some ([],.tup [],none):=by kernel_rfl
def bAA:E:=.eq (.v 18) (.lit 0)
def bAB:E:=.sel (.av 2) (.v 5)
def bAC:E:=.eq (.v 18) (.lit 1)
def bAD:E:=.eq (.v 18) (.lit 2)
def bAE:E:=.ite bAD (.v 9) (.v 10)
def bAF:E:=.ite bAC (.v 16) bAE
def aJH:E:=.ite bAA bAB bAF
def sR:E:=.bits .or .u16 (.v 2) aJH
def bAG:E:=.le sR (.lit 32767)
def bAH:E:=.ite bAG (.lit 0) (.lit 1)
def aNC:E:=.le (.v 14) (.lit 31)
def aND:E:=.le (.lit 32768) sR
def aNE:E:=.div (.v 14) (.lit 2)
def aNF:E:=.mod aNE (.lit 2)
def aNG:E:=.eq aNF (.lit 0)
def aNH:E:=.not aNG
def aNI:E:=.ite aNC aND aNH
def aNJ:E:=.ite aNI (.lit 2) (.lit 0)
def aNK:E:=.add bAH aNJ
def aNL:E:=.eq sR (.lit 0)
def aNM:E:=.ite aNL (.lit 8) (.lit 0)
def aDP:E:=.add aNK aNM
theorem bQD (ρ:Env) (hH:ctH.ok ρ):E.i ρ sR=sgV 1 (ρ.i.getD 2 0) (E.i ρ cP) (ρ.i.getD 13 0 / 4%2)%65536∧E.i ρ aDP=sgF (ρ.i.getD 14 0) 1 (ρ.i.getD 2 0) (E.i ρ cP) (ρ.i.getD 13 0 / 4%2)%64:=by
 obtain ⟨r1,r2,r13,r14,r18,hr⟩:=ctR ρ hH
 have hp:E.i ρ aJH=E.i ρ cP:=by
  simp only [bAA,bAB,bAC,bAD,bAE,bAF,aJH,cP,sgm,sgn]
  (try (generalize ρ.i.getD 18 0=w at *;rcases (show w=0∨w=1∨w=2∨w=3 by omega) with h | h | h | h <;> subst h <;> simp))
 generalize E.i ρ cP=p at *
 simp only [sR,bAG,bAH,aNC,aND,aNE,aNF,aNG,aNH,aNI,aNJ,aNK,aNL,aNM,aDP,sgm,sgn,hp,sgV,sgF]
 simp only [Int.reduceEq,if_false,if_true]
 simp only [cy1,cy2,sgn]
 clear hH hp r18
 generalize ρ.i.getD 2 0=q at *
 generalize ρ.i.getD 14 0=w at *
 generalize ρ.i.getD 13 0=cc at *
 have hb:=aHa .or (by simp) q p r2 hr
 generalize aK .or .u16 q p=x at *
 refine ⟨by omega,?_⟩
 refine (Int.emod_eq_of_lt ?_ ?_).symm <;> (repeat' split) <;> omega
theorem bQj:enter Try.prog SH SHh 3000 40 54 ctH (ctl 1 1) ctM=some ([],.tup [],some (ctw (.v 1) sR (.v 13) aDP)):=by kernel_rfl
def bAQ:E:=.eq (.v 18) (.lit 0)
def bAR:E:=.sel (.av 2) (.v 5)
def bAS:E:=.eq (.v 18) (.lit 1)
def bAT:E:=.eq (.v 18) (.lit 2)
def bAU:E:=.ite bAT (.v 9) (.v 10)
def bAV:E:=.ite bAS (.v 16) bAU
def aJJ:E:=.ite bAQ bAR bAV
def sT:E:=.bits .and .u16 (.v 2) aJJ
def bAW:E:=.le sT (.lit 32767)
def bAX:E:=.ite bAW (.lit 0) (.lit 1)
def aNY:E:=.le (.v 14) (.lit 31)
def aNZ:E:=.le (.lit 32768) sT
def aOa:E:=.div (.v 14) (.lit 2)
def aOb:E:=.mod aOa (.lit 2)
def aOc:E:=.eq aOb (.lit 0)
def aOd:E:=.not aOc
def aOe:E:=.ite aNY aNZ aOd
def aOf:E:=.ite aOe (.lit 2) (.lit 0)
def aOg:E:=.add bAX aOf
def aOh:E:=.eq sT (.lit 0)
def aOi:E:=.ite aOh (.lit 8) (.lit 0)
def aDR:E:=.add aOg aOi
theorem bQF (ρ:Env) (hH:ctH.ok ρ):E.i ρ sT=sgV 2 (ρ.i.getD 2 0) (E.i ρ cP) (ρ.i.getD 13 0 / 4%2)%65536∧E.i ρ aDR=sgF (ρ.i.getD 14 0) 2 (ρ.i.getD 2 0) (E.i ρ cP) (ρ.i.getD 13 0 / 4%2)%64:=by
 obtain ⟨r1,r2,r13,r14,r18,hr⟩:=ctR ρ hH
 have hp:E.i ρ aJJ=E.i ρ cP:=by
  simp only [bAQ,bAR,bAS,bAT,bAU,bAV,aJJ,cP,sgm,sgn]
  (try (generalize ρ.i.getD 18 0=w at *;rcases (show w=0∨w=1∨w=2∨w=3 by omega) with h | h | h | h <;> subst h <;> simp))
 generalize E.i ρ cP=p at *
 simp only [sT,bAW,bAX,aNY,aNZ,aOa,aOb,aOc,aOd,aOe,aOf,aOg,aOh,aOi,aDR,sgm,sgn,hp,sgV,sgF]
 simp only [Int.reduceEq,if_false,if_true]
 simp only [cy1,cy2,sgn]
 clear hH hp r18
 generalize ρ.i.getD 2 0=q at *
 generalize ρ.i.getD 14 0=w at *
 generalize ρ.i.getD 13 0=cc at *
 have hb:=aHa .and (by simp) q p r2 hr
 generalize aK .and .u16 q p=x at *
 refine ⟨by omega,?_⟩
 refine (Int.emod_eq_of_lt ?_ ?_).symm <;> (repeat' split) <;> omega
theorem bQl:enter Try.prog SH SHh 3000 40 54 ctH (ctl 2 1) ctM=some ([],.tup [],some (ctw (.v 1) sT (.v 13) aDR)):=by kernel_rfl
def bBg:E:=.eq (.v 18) (.lit 0)
def bBh:E:=.sel (.av 2) (.v 5)
def bBi:E:=.eq (.v 18) (.lit 1)
def bBj:E:=.eq (.v 18) (.lit 2)
def bBk:E:=.ite bBj (.v 9) (.v 10)
def bBl:E:=.ite bBi (.v 16) bBk
def aJL:E:=.ite bBg bBh bBl
def sV:E:=.bits .xor .u16 (.v 2) aJL
def bBm:E:=.le sV (.lit 32767)
def bBn:E:=.ite bBm (.lit 0) (.lit 1)
def aOu:E:=.le (.v 14) (.lit 31)
def aOv:E:=.le (.lit 32768) sV
def aOw:E:=.div (.v 14) (.lit 2)
def aOx:E:=.mod aOw (.lit 2)
def aOy:E:=.eq aOx (.lit 0)
def aOz:E:=.not aOy
def aOA:E:=.ite aOu aOv aOz
def aOB:E:=.ite aOA (.lit 2) (.lit 0)
def aOC:E:=.add bBn aOB
def aOD:E:=.eq sV (.lit 0)
def aOE:E:=.ite aOD (.lit 8) (.lit 0)
def aDT:E:=.add aOC aOE
theorem bQH (ρ:Env) (hH:ctH.ok ρ):E.i ρ sV=sgV 3 (ρ.i.getD 2 0) (E.i ρ cP) (ρ.i.getD 13 0 / 4%2)%65536∧E.i ρ aDT=sgF (ρ.i.getD 14 0) 3 (ρ.i.getD 2 0) (E.i ρ cP) (ρ.i.getD 13 0 / 4%2)%64:=by
 obtain ⟨r1,r2,r13,r14,r18,hr⟩:=ctR ρ hH
 have hp:E.i ρ aJL=E.i ρ cP:=by
  simp only [bBg,bBh,bBi,bBj,bBk,bBl,aJL,cP,sgm,sgn]
  (try (generalize ρ.i.getD 18 0=w at *;rcases (show w=0∨w=1∨w=2∨w=3 by omega) with h | h | h | h <;> subst h <;> simp))
 generalize E.i ρ cP=p at *
 simp only [sV,bBm,bBn,aOu,aOv,aOw,aOx,aOy,aOz,aOA,aOB,aOC,aOD,aOE,aDT,sgm,sgn,hp,sgV,sgF]
 simp only [Int.reduceEq,if_false,if_true]
 simp only [cy1,cy2,sgn]
 clear hH hp r18
 generalize ρ.i.getD 2 0=q at *
 generalize ρ.i.getD 14 0=w at *
 generalize ρ.i.getD 13 0=cc at *
 have hb:=aHa .xor (by simp) q p r2 hr
 generalize aK .xor .u16 q p=x at *
 refine ⟨by omega,?_⟩
 refine (Int.emod_eq_of_lt ?_ ?_).symm <;> (repeat' split) <;> omega
theorem bQn:enter Try.prog SH SHh 3000 40 54 ctH (ctl 3 1) ctM=some ([],.tup [],some (ctw (.v 1) sV (.v 13) aDT)):=by kernel_rfl
def bBv:E:=.eq (.v 18) (.lit 0)
def bBw:E:=.sel (.av 2) (.v 5)
def bBx:E:=.eq (.v 18) (.lit 1)
def bBy:E:=.eq (.v 18) (.lit 2)
def bBz:E:=.ite bBy (.v 9) (.v 10)
def bBA:E:=.ite bBx (.v 16) bBz
def pF:E:=.ite bBv bBw bBA
def aJN:E:=.sub (.v 2) pF
def aCR:E:=.mod aJN (.lit 65536)
def bBB:E:=.div aJN (.lit 32768)
def aDZ:E:=.mod bBB (.lit 2)
def aEa:E:=.le (.v 14) (.lit 31)
def aPh:E:=.eq aDZ (.lit 0)
def aPi:E:=.not aPh
def aPj:E:=.div (.v 14) (.lit 2)
def aPk:E:=.mod aPj (.lit 2)
def aPl:E:=.eq aPk (.lit 0)
def aPm:E:=.not aPl
def aPn:E:=.ite aEa aPi aPm
def aPo:E:=.ite aPn (.lit 2) (.lit 0)
def aPp:E:=.add aDZ aPo
def aPq:E:=.lt (.v 2) pF
def aPr:E:=.ite aPq (.lit 4) (.lit 0)
def aPs:E:=.add aPp aPr
def aPt:E:=.eq aCR (.lit 0)
def aPu:E:=.ite aPt (.lit 8) (.lit 0)
def aPv:E:=.add aPs aPu
def aPw:E:=.le (.v 2) (.lit 32767)
def aPx:E:=.add (.v 2) (.lit (-65536))
def aPy:E:=.ite aPw (.v 2) aPx
def aPz:E:=.le pF (.lit 32767)
def aPA:E:=.add pF (.lit (-65536))
def aPB:E:=.ite aPz pF aPA
def aEb:E:=.sub aPy aPB
def aPC:E:=.le (.lit 32768) aEb
def aPD:E:=.le aEb (.lit (-32769))
def aEc:E:=.or aPC aPD
def aPE:E:=.ite aEc (.lit 16) (.lit 0)
def aPF:E:=.add aPv aPE
def aPG:E:=.le (.lit 32) (.v 14)
def aPH:E:=.ite aEc aEa aPG
def aPI:E:=.ite aPH (.lit 32) (.lit 0)
def aEd:E:=.add aPF aPI
theorem bQJ (ρ:Env) (hH:ctH.ok ρ):E.i ρ aCR=sgV 4 (ρ.i.getD 2 0) (E.i ρ cP) (ρ.i.getD 13 0 / 4%2)%65536∧E.i ρ aEd=sgF (ρ.i.getD 14 0) 4 (ρ.i.getD 2 0) (E.i ρ cP) (ρ.i.getD 13 0 / 4%2)%64:=by
 obtain ⟨r1,r2,r13,r14,r18,hr⟩:=ctR ρ hH
 have hp:E.i ρ pF=E.i ρ cP:=by
  simp only [bBv,bBw,bBx,bBy,bBz,bBA,pF,cP,sgm,sgn]
  (try (generalize ρ.i.getD 18 0=w at *;rcases (show w=0∨w=1∨w=2∨w=3 by omega) with h | h | h | h <;> subst h <;> simp))
 generalize E.i ρ cP=p at *
 simp only [aJN,aCR,bBB,aDZ,aEa,aPh,aPi,aPj,aPk,aPl,aPm,aPn,aPo,aPp,aPq,aPr,aPs,aPt,aPu,aPv,aPw,aPx,aPy,aPz,aPA,aPB,aEb,aPC,aPD,aEc,aPE,aPF,aPG,aPH,aPI,aEd,sgm,sgn,hp,sgV,sgF]
 simp only [Int.reduceEq,if_false,if_true]
 simp only [cy1,cy2,sgn]
 clear hH hp r18
 generalize ρ.i.getD 2 0=q at *
 generalize ρ.i.getD 14 0=w at *
 generalize ρ.i.getD 13 0=cc at *
 refine ⟨by omega,?_⟩
 refine (Int.emod_eq_of_lt ?_ ?_).symm <;> (repeat' split) <;> omega
theorem bQp:enter Try.prog SH SHh 3000 40 54 ctH (ctl 4 1) ctM=some ([],.tup [],some (ctw (.v 1) aCR (.v 13) aEd)):=by kernel_rfl
def bBJ:E:=.eq (.v 18) (.lit 0)
def bBK:E:=.sel (.av 2) (.v 5)
def bBL:E:=.eq (.v 18) (.lit 1)
def bBM:E:=.eq (.v 18) (.lit 2)
def bBN:E:=.ite bBM (.v 9) (.v 10)
def bBO:E:=.ite bBL (.v 16) bBN
def sX:E:=.ite bBJ bBK bBO
def aCU:E:=.add (.v 2) sX
def aCV:E:=.mod aCU (.lit 65536)
def bBP:E:=.div aCU (.lit 32768)
def aEj:E:=.mod bBP (.lit 2)
def aEk:E:=.le (.v 14) (.lit 31)
def aQl:E:=.eq aEj (.lit 0)
def aQm:E:=.not aQl
def aQn:E:=.div (.v 14) (.lit 2)
def aQo:E:=.mod aQn (.lit 2)
def aQp:E:=.eq aQo (.lit 0)
def aQq:E:=.not aQp
def aQr:E:=.ite aEk aQm aQq
def aQs:E:=.ite aQr (.lit 2) (.lit 0)
def aQt:E:=.add aEj aQs
def aQu:E:=.le aCU (.lit 65535)
def aQv:E:=.ite aQu (.lit 0) (.lit 4)
def aQw:E:=.add aQt aQv
def aQx:E:=.eq aCV (.lit 0)
def aQy:E:=.ite aQx (.lit 8) (.lit 0)
def aQz:E:=.add aQw aQy
def aQA:E:=.le (.v 2) (.lit 32767)
def aQB:E:=.add (.v 2) (.lit (-65536))
def aQC:E:=.ite aQA (.v 2) aQB
def aQD:E:=.le sX (.lit 32767)
def aQE:E:=.add sX (.lit (-65536))
def aQF:E:=.ite aQD sX aQE
def aEl:E:=.add aQC aQF
def aQG:E:=.le (.lit 32768) aEl
def aQH:E:=.le aEl (.lit (-32769))
def aEm:E:=.or aQG aQH
def aQI:E:=.ite aEm (.lit 16) (.lit 0)
def aQJ:E:=.add aQz aQI
def aQK:E:=.le (.lit 32) (.v 14)
def aQL:E:=.ite aEm aEk aQK
def aQM:E:=.ite aQL (.lit 32) (.lit 0)
def aEn:E:=.add aQJ aQM
theorem bQL (ρ:Env) (hH:ctH.ok ρ):E.i ρ aCV=sgV 5 (ρ.i.getD 2 0) (E.i ρ cP) (ρ.i.getD 13 0 / 4%2)%65536∧E.i ρ aEn=sgF (ρ.i.getD 14 0) 5 (ρ.i.getD 2 0) (E.i ρ cP) (ρ.i.getD 13 0 / 4%2)%64:=by
 obtain ⟨r1,r2,r13,r14,r18,hr⟩:=ctR ρ hH
 have hp:E.i ρ sX=E.i ρ cP:=by
  simp only [bBJ,bBK,bBL,bBM,bBN,bBO,sX,cP,sgm,sgn]
  (try (generalize ρ.i.getD 18 0=w at *;rcases (show w=0∨w=1∨w=2∨w=3 by omega) with h | h | h | h <;> subst h <;> simp))
 generalize E.i ρ cP=p at *
 simp only [aCU,aCV,bBP,aEj,aEk,aQl,aQm,aQn,aQo,aQp,aQq,aQr,aQs,aQt,aQu,aQv,aQw,aQx,aQy,aQz,aQA,aQB,aQC,aQD,aQE,aQF,aEl,aQG,aQH,aEm,aQI,aQJ,aQK,aQL,aQM,aEn,sgm,sgn,hp,sgV,sgF]
 simp only [Int.reduceEq,if_false,if_true]
 simp only [cy1,cy2,sgn]
 clear hH hp r18
 generalize ρ.i.getD 2 0=q at *
 generalize ρ.i.getD 14 0=w at *
 generalize ρ.i.getD 13 0=cc at *
 refine ⟨by omega,?_⟩
 refine (Int.emod_eq_of_lt ?_ ?_).symm <;> (repeat' split) <;> omega
theorem bQr:enter Try.prog SH SHh 3000 40 54 ctH (ctl 5 1) ctM=some ([],.tup [],some (ctw (.v 1) aCV (.v 13) aEn)):=by kernel_rfl
def bBY:E:=.eq (.v 18) (.lit 0)
def bBZ:E:=.sel (.av 2) (.v 5)
def bCa:E:=.eq (.v 18) (.lit 1)
def bCb:E:=.eq (.v 18) (.lit 2)
def bCc:E:=.ite bCb (.v 9) (.v 10)
def bCd:E:=.ite bCa (.v 16) bCc
def pH:E:=.ite bBY bBZ bCd
def bCe:E:=.sub (.v 2) pH
def bCf:E:=.div (.v 13) (.lit 4)
def aJP:E:=.mod bCf (.lit 2)
def aEu:E:=.sub bCe aJP
def yV:E:=.mod aEu (.lit 65536)
def aRr:E:=.div aEu (.lit 32768)
def aEv:E:=.mod aRr (.lit 2)
def aEw:E:=.le (.v 14) (.lit 31)
def aRs:E:=.eq aEv (.lit 0)
def aRt:E:=.not aRs
def aRu:E:=.div (.v 14) (.lit 2)
def aRv:E:=.mod aRu (.lit 2)
def aRw:E:=.eq aRv (.lit 0)
def aRx:E:=.not aRw
def aRy:E:=.ite aEw aRt aRx
def aRz:E:=.ite aRy (.lit 2) (.lit 0)
def aRA:E:=.add aEv aRz
def aRB:E:=.add pH aJP
def aRC:E:=.lt (.v 2) aRB
def aRD:E:=.ite aRC (.lit 4) (.lit 0)
def aRE:E:=.add aRA aRD
def aRF:E:=.eq yV (.lit 0)
def aRG:E:=.ite aRF (.lit 8) (.lit 0)
def aRH:E:=.add aRE aRG
def aRI:E:=.le (.v 2) (.lit 32767)
def aRJ:E:=.add (.v 2) (.lit (-65536))
def aRK:E:=.ite aRI (.v 2) aRJ
def aRL:E:=.le pH (.lit 32767)
def aRM:E:=.add pH (.lit (-65536))
def aRN:E:=.ite aRL pH aRM
def aEx:E:=.sub aRK aRN
def aRO:E:=.le (.lit 32768) aEx
def aRP:E:=.le aEx (.lit (-32769))
def aEy:E:=.or aRO aRP
def aRQ:E:=.ite aEy (.lit 16) (.lit 0)
def aRR:E:=.add aRH aRQ
def aRS:E:=.le (.lit 32) (.v 14)
def aRT:E:=.ite aEy aEw aRS
def aRU:E:=.ite aRT (.lit 32) (.lit 0)
def aEz:E:=.add aRR aRU
theorem bQN (ρ:Env) (hH:ctH.ok ρ):E.i ρ yV=sgV 6 (ρ.i.getD 2 0) (E.i ρ cP) (ρ.i.getD 13 0 / 4%2)%65536∧E.i ρ aEz=sgF (ρ.i.getD 14 0) 6 (ρ.i.getD 2 0) (E.i ρ cP) (ρ.i.getD 13 0 / 4%2)%64:=by
 obtain ⟨r1,r2,r13,r14,r18,hr⟩:=ctR ρ hH
 have hp:E.i ρ pH=E.i ρ cP:=by
  simp only [bBY,bBZ,bCa,bCb,bCc,bCd,pH,cP,sgm,sgn]
  (try (generalize ρ.i.getD 18 0=w at *;rcases (show w=0∨w=1∨w=2∨w=3 by omega) with h | h | h | h <;> subst h <;> simp))
 generalize E.i ρ cP=p at *
 simp only [bCe,bCf,aJP,aEu,yV,aRr,aEv,aEw,aRs,aRt,aRu,aRv,aRw,aRx,aRy,aRz,aRA,aRB,aRC,aRD,aRE,aRF,aRG,aRH,aRI,aRJ,aRK,aRL,aRM,aRN,aEx,aRO,aRP,aEy,aRQ,aRR,aRS,aRT,aRU,aEz,sgm,sgn,hp,sgV,sgF]
 simp only [Int.reduceEq,if_false,if_true]
 simp only [cy1,cy2,sgn]
 clear hH hp r18
 generalize ρ.i.getD 2 0=q at *
 generalize ρ.i.getD 14 0=w at *
 generalize ρ.i.getD 13 0=cc at *
 refine ⟨by omega,?_⟩
 refine (Int.emod_eq_of_lt ?_ ?_).symm <;> (repeat' split) <;> omega
theorem bQt:enter Try.prog SH SHh 3000 40 54 ctH (ctl 6 1) ctM=some ([],.tup [],some (ctw (.v 1) yV (.v 13) aEz)):=by kernel_rfl
def bCp:E:=.eq (.v 18) (.lit 0)
def bCq:E:=.sel (.av 2) (.v 5)
def bCr:E:=.eq (.v 18) (.lit 1)
def bCs:E:=.eq (.v 18) (.lit 2)
def bCt:E:=.ite bCs (.v 9) (.v 10)
def bCu:E:=.ite bCr (.v 16) bCt
def sZ:E:=.ite bCp bCq bCu
def bCv:E:=.add (.v 2) sZ
def bCw:E:=.div (.v 13) (.lit 4)
def bCx:E:=.mod bCw (.lit 2)
def yY:E:=.add bCv bCx
def yZ:E:=.mod yY (.lit 65536)
def aSy:E:=.div yY (.lit 32768)
def aEF:E:=.mod aSy (.lit 2)
def aEG:E:=.le (.v 14) (.lit 31)
def aSz:E:=.eq aEF (.lit 0)
def aSA:E:=.not aSz
def aSB:E:=.div (.v 14) (.lit 2)
def aSC:E:=.mod aSB (.lit 2)
def aSD:E:=.eq aSC (.lit 0)
def aSE:E:=.not aSD
def aSF:E:=.ite aEG aSA aSE
def aSG:E:=.ite aSF (.lit 2) (.lit 0)
def aSH:E:=.add aEF aSG
def aSI:E:=.le yY (.lit 65535)
def aSJ:E:=.ite aSI (.lit 0) (.lit 4)
def aSK:E:=.add aSH aSJ
def aSL:E:=.eq yZ (.lit 0)
def aSM:E:=.ite aSL (.lit 8) (.lit 0)
def aSN:E:=.add aSK aSM
def aSO:E:=.le (.v 2) (.lit 32767)
def aSP:E:=.add (.v 2) (.lit (-65536))
def aSQ:E:=.ite aSO (.v 2) aSP
def aSR:E:=.le sZ (.lit 32767)
def aSS:E:=.add sZ (.lit (-65536))
def aST:E:=.ite aSR sZ aSS
def aEH:E:=.add aSQ aST
def aSU:E:=.le (.lit 32768) aEH
def aSV:E:=.le aEH (.lit (-32769))
def aEI:E:=.or aSU aSV
def aSW:E:=.ite aEI (.lit 16) (.lit 0)
def aSX:E:=.add aSN aSW
def aSY:E:=.le (.lit 32) (.v 14)
def aSZ:E:=.ite aEI aEG aSY
def aTa:E:=.ite aSZ (.lit 32) (.lit 0)
def aEJ:E:=.add aSX aTa
theorem bQP (ρ:Env) (hH:ctH.ok ρ):E.i ρ yZ=sgV 7 (ρ.i.getD 2 0) (E.i ρ cP) (ρ.i.getD 13 0 / 4%2)%65536∧E.i ρ aEJ=sgF (ρ.i.getD 14 0) 7 (ρ.i.getD 2 0) (E.i ρ cP) (ρ.i.getD 13 0 / 4%2)%64:=by
 obtain ⟨r1,r2,r13,r14,r18,hr⟩:=ctR ρ hH
 have hp:E.i ρ sZ=E.i ρ cP:=by
  simp only [bCp,bCq,bCr,bCs,bCt,bCu,sZ,cP,sgm,sgn]
  (try (generalize ρ.i.getD 18 0=w at *;rcases (show w=0∨w=1∨w=2∨w=3 by omega) with h | h | h | h <;> subst h <;> simp))
 generalize E.i ρ cP=p at *
 simp only [bCv,bCw,bCx,yY,yZ,aSy,aEF,aEG,aSz,aSA,aSB,aSC,aSD,aSE,aSF,aSG,aSH,aSI,aSJ,aSK,aSL,aSM,aSN,aSO,aSP,aSQ,aSR,aSS,aST,aEH,aSU,aSV,aEI,aSW,aSX,aSY,aSZ,aTa,aEJ,sgm,sgn,hp,sgV,sgF]
 simp only [Int.reduceEq,if_false,if_true]
 simp only [cy1,cy2,sgn]
 clear hH hp r18
 generalize ρ.i.getD 2 0=q at *
 generalize ρ.i.getD 14 0=w at *
 generalize ρ.i.getD 13 0=cc at *
 refine ⟨by omega,?_⟩
 refine (Int.emod_eq_of_lt ?_ ?_).symm <;> (repeat' split) <;> omega
theorem bQv:enter Try.prog SH SHh 3000 40 54 ctH (ctl 7 1) ctM=some ([],.tup [],some (ctw (.v 1) yZ (.v 13) aEJ)):=by kernel_rfl
def bCF:E:=.add (.v 2) (.lit 65535)
def aCX:E:=.mod bCF (.lit 65536)
def bCG:E:=.add (.v 2) (.lit 32767)
def bCH:E:=.div bCG (.lit 32768)
def bCI:E:=.add bCH (.lit 1)
def aJS:E:=.mod bCI (.lit 2)
def aJT:E:=.le (.v 14) (.lit 31)
def bCJ:E:=.eq aJS (.lit 0)
def bCK:E:=.not bCJ
def bCL:E:=.div (.v 14) (.lit 2)
def aTw:E:=.mod bCL (.lit 2)
def aTx:E:=.eq aTw (.lit 0)
def aTy:E:=.not aTx
def aTz:E:=.ite aJT bCK aTy
def aTA:E:=.ite aTz (.lit 2) (.lit 0)
def aTB:E:=.add aJS aTA
def aTC:E:=.le (.v 2) (.lit 0)
def aTD:E:=.ite aTC (.lit 4) (.lit 0)
def aTE:E:=.add aTB aTD
def aTF:E:=.eq aCX (.lit 0)
def aTG:E:=.ite aTF (.lit 8) (.lit 0)
def aTH:E:=.add aTE aTG
def aTI:E:=.le (.v 2) (.lit 32767)
def aTJ:E:=.add (.v 2) (.lit (-65536))
def aTK:E:=.ite aTI (.v 2) aTJ
def aTL:E:=.add aTK (.lit (-1))
def aEM:E:=.le aTL (.lit (-32769))
def aTM:E:=.ite aEM (.lit 16) (.lit 0)
def aTN:E:=.add aTH aTM
def aTO:E:=.le (.lit 32) (.v 14)
def aTP:E:=.ite aEM aJT aTO
def aTQ:E:=.ite aTP (.lit 32) (.lit 0)
def aEN:E:=.add aTN aTQ
theorem bQR (ρ:Env) (hH:ctH.ok ρ):E.i ρ aCX=sgV 8 (ρ.i.getD 2 0) (E.i ρ cP) (ρ.i.getD 13 0 / 4%2)%65536∧E.i ρ aEN=sgF (ρ.i.getD 14 0) 8 (ρ.i.getD 2 0) (E.i ρ cP) (ρ.i.getD 13 0 / 4%2)%64:=by
 obtain ⟨r1,r2,r13,r14,r18,hr⟩:=ctR ρ hH
 generalize E.i ρ cP=p at *
 simp only [bCF,aCX,bCG,bCH,bCI,aJS,aJT,bCJ,bCK,bCL,aTw,aTx,aTy,aTz,aTA,aTB,aTC,aTD,aTE,aTF,aTG,aTH,aTI,aTJ,aTK,aTL,aEM,aTM,aTN,aTO,aTP,aTQ,aEN,sgm,sgn,sgV,sgF]
 simp only [Int.reduceEq,if_false,if_true]
 simp only [cy1,cy2,sgn]
 clear hH r18
 generalize ρ.i.getD 2 0=q at *
 generalize ρ.i.getD 14 0=w at *
 generalize ρ.i.getD 13 0=cc at *
 refine ⟨by omega,?_⟩
 refine (Int.emod_eq_of_lt ?_ ?_).symm <;> (repeat' split) <;> omega
theorem bQx:enter Try.prog SH SHh 3000 40 54 ctH (ctl 8 1) ctM=some ([],.tup [],some (ctw (.v 1) aCX (.v 13) aEN)):=by kernel_rfl
def aDa:E:=.add (.v 2) (.lit 1)
def aDb:E:=.mod aDa (.lit 65536)
def bCS:E:=.div aDa (.lit 32768)
def aJW:E:=.mod bCS (.lit 2)
def aJX:E:=.le (.v 14) (.lit 31)
def bCT:E:=.eq aJW (.lit 0)
def bCU:E:=.not bCT
def bCV:E:=.div (.v 14) (.lit 2)
def bCW:E:=.mod bCV (.lit 2)
def bCX:E:=.eq bCW (.lit 0)
def aUl:E:=.not bCX
def aUm:E:=.ite aJX bCU aUl
def aUn:E:=.ite aUm (.lit 2) (.lit 0)
def aUo:E:=.add aJW aUn
def aUp:E:=.le aDa (.lit 65535)
def aUq:E:=.ite aUp (.lit 0) (.lit 4)
def aUr:E:=.add aUo aUq
def aUs:E:=.eq aDb (.lit 0)
def aUt:E:=.ite aUs (.lit 8) (.lit 0)
def aUu:E:=.add aUr aUt
def aUv:E:=.le (.v 2) (.lit 32767)
def aUw:E:=.add (.v 2) (.lit (-65536))
def aUx:E:=.ite aUv (.v 2) aUw
def aER:E:=.add aUx (.lit 1)
def aUy:E:=.le (.lit 32768) aER
def aUz:E:=.le aER (.lit (-32769))
def aES:E:=.or aUy aUz
def aUA:E:=.ite aES (.lit 16) (.lit 0)
def aUB:E:=.add aUu aUA
def aUC:E:=.le (.lit 32) (.v 14)
def aUD:E:=.ite aES aJX aUC
def aUE:E:=.ite aUD (.lit 32) (.lit 0)
def aET:E:=.add aUB aUE
theorem bQT (ρ:Env) (hH:ctH.ok ρ):E.i ρ aDb=sgV 9 (ρ.i.getD 2 0) (E.i ρ cP) (ρ.i.getD 13 0 / 4%2)%65536∧E.i ρ aET=sgF (ρ.i.getD 14 0) 9 (ρ.i.getD 2 0) (E.i ρ cP) (ρ.i.getD 13 0 / 4%2)%64:=by
 obtain ⟨r1,r2,r13,r14,r18,hr⟩:=ctR ρ hH
 generalize E.i ρ cP=p at *
 simp only [aDa,aDb,bCS,aJW,aJX,bCT,bCU,bCV,bCW,bCX,aUl,aUm,aUn,aUo,aUp,aUq,aUr,aUs,aUt,aUu,aUv,aUw,aUx,aER,aUy,aUz,aES,aUA,aUB,aUC,aUD,aUE,aET,sgm,sgn,sgV,sgF]
 simp only [Int.reduceEq,if_false,if_true]
 simp only [cy1,cy2,sgn]
 clear hH r18
 generalize ρ.i.getD 2 0=q at *
 generalize ρ.i.getD 14 0=w at *
 generalize ρ.i.getD 13 0=cc at *
 refine ⟨by omega,?_⟩
 refine (Int.emod_eq_of_lt ?_ ?_).symm <;> (repeat' split) <;> omega
theorem bQz:enter Try.prog SH SHh 3000 40 54 ctH (ctl 9 1) ctM=some ([],.tup [],some (ctw (.v 1) aDb (.v 13) aET)):=by kernel_rfl
def nZ:E:=.sub (.lit 65535) (.v 2)
def aLw:E:=.le nZ (.lit 32767)
def aLx:E:=.ite aLw (.lit 0) (.lit 1)
def aLy:E:=.le (.v 14) (.lit 31)
def aLz:E:=.le (.lit 32768) nZ
def aLA:E:=.div (.v 14) (.lit 2)
def aLB:E:=.mod aLA (.lit 2)
def aLC:E:=.eq aLB (.lit 0)
def aLD:E:=.not aLC
def aLE:E:=.ite aLy aLz aLD
def aHh:E:=.ite aLE (.lit 2) (.lit 0)
def aHi:E:=.add aLx aHh
def aHj:E:=.eq nZ (.lit 0)
def aHk:E:=.ite aHj (.lit 8) (.lit 0)
def aAn:E:=.add aHi aHk
theorem bLB (ρ:Env) (hH:ctH.ok ρ):E.i ρ nZ=sgV 10 (ρ.i.getD 2 0) (E.i ρ cP) (ρ.i.getD 13 0 / 4%2)%65536∧E.i ρ aAn=sgF (ρ.i.getD 14 0) 10 (ρ.i.getD 2 0) (E.i ρ cP) (ρ.i.getD 13 0 / 4%2)%64:=by
 obtain ⟨r1,r2,r13,r14,r18,hr⟩:=ctR ρ hH
 generalize E.i ρ cP=p at *
 simp only [nZ,aLw,aLx,aLy,aLz,aLA,aLB,aLC,aLD,aLE,aHh,aHi,aHj,aHk,aAn,sgm,sgn,sgV,sgF]
 simp only [Int.reduceEq,if_false,if_true]
 simp only [cy1,cy2,sgn]
 clear hH r18
 generalize ρ.i.getD 2 0=q at *
 generalize ρ.i.getD 14 0=w at *
 generalize ρ.i.getD 13 0=cc at *
 refine ⟨by omega,?_⟩
 refine (Int.emod_eq_of_lt ?_ ?_).symm <;> (repeat' split) <;> omega
theorem bLp:enter Try.prog SH SHh 3000 40 54 ctH (ctl 10 1) ctM=some ([],.tup [],some (ctw (.v 1) nZ (.v 13) aAn)):=by kernel_rfl
def aLO:E:=.div (.v 2) (.lit 2)
def aLP:E:=.div (.v 2) (.lit 32768)
def aLQ:E:=.mul aLP (.lit 32768)
def oB:E:=.add aLO aLQ
def aLR:E:=.le oB (.lit 32767)
def aLS:E:=.ite aLR (.lit 0) (.lit 1)
def aLT:E:=.le (.v 14) (.lit 31)
def aLU:E:=.le (.lit 32768) oB
def aLV:E:=.div (.v 14) (.lit 2)
def aLW:E:=.mod aLV (.lit 2)
def aHw:E:=.eq aLW (.lit 0)
def aHx:E:=.not aHw
def aHy:E:=.ite aLT aLU aHx
def aHz:E:=.ite aHy (.lit 2) (.lit 0)
def aHA:E:=.add aLS aHz
def aHB:E:=.mod (.v 2) (.lit 2)
def aHC:E:=.eq aHB (.lit 0)
def aHD:E:=.ite aHC (.lit 0) (.lit 4)
def aHE:E:=.add aHA aHD
def aHF:E:=.eq oB (.lit 0)
def aHG:E:=.ite aHF (.lit 8) (.lit 0)
def aAp:E:=.add aHE aHG
theorem bLD (ρ:Env) (hH:ctH.ok ρ):E.i ρ oB=sgV 11 (ρ.i.getD 2 0) (E.i ρ cP) (ρ.i.getD 13 0 / 4%2)%65536∧E.i ρ aAp=sgF (ρ.i.getD 14 0) 11 (ρ.i.getD 2 0) (E.i ρ cP) (ρ.i.getD 13 0 / 4%2)%64:=by
 obtain ⟨r1,r2,r13,r14,r18,hr⟩:=ctR ρ hH
 generalize E.i ρ cP=p at *
 simp only [aLO,aLP,aLQ,oB,aLR,aLS,aLT,aLU,aLV,aLW,aHw,aHx,aHy,aHz,aHA,aHB,aHC,aHD,aHE,aHF,aHG,aAp,sgm,sgn,sgV,sgF]
 simp only [Int.reduceEq,if_false,if_true]
 simp only [cy1,cy2,sgn]
 clear hH r18
 generalize ρ.i.getD 2 0=q at *
 generalize ρ.i.getD 14 0=w at *
 generalize ρ.i.getD 13 0=cc at *
 refine ⟨by omega,?_⟩
 refine (Int.emod_eq_of_lt ?_ ?_).symm <;> (repeat' split) <;> omega
theorem bLr:enter Try.prog SH SHh 3000 40 54 ctH (ctl 11 1) ctM=some ([],.tup [],some (ctw (.v 1) oB (.v 13) aAp)):=by kernel_rfl
def aMg:E:=.mod (.v 2) (.lit 32768)
def aMh:E:=.mul aMg (.lit 2)
def aMi:E:=.div (.v 13) (.lit 4)
def aMj:E:=.mod aMi (.lit 2)
def oD:E:=.add aMh aMj
def aMk:E:=.le oD (.lit 32767)
def aMl:E:=.ite aMk (.lit 0) (.lit 1)
def aMm:E:=.le (.v 14) (.lit 31)
def aMn:E:=.le (.lit 32768) oD
def aMo:E:=.div (.v 14) (.lit 2)
def aHS:E:=.mod aMo (.lit 2)
def aHT:E:=.eq aHS (.lit 0)
def aHU:E:=.not aHT
def aHV:E:=.ite aMm aMn aHU
def aHW:E:=.ite aHV (.lit 2) (.lit 0)
def aHX:E:=.add aMl aHW
def aHY:E:=.le (.v 2) (.lit 32767)
def aHZ:E:=.ite aHY (.lit 0) (.lit 4)
def aIa:E:=.add aHX aHZ
def aIb:E:=.eq oD (.lit 0)
def aIc:E:=.ite aIb (.lit 8) (.lit 0)
def aAr:E:=.add aIa aIc
theorem bLF (ρ:Env) (hH:ctH.ok ρ):E.i ρ oD=sgV 12 (ρ.i.getD 2 0) (E.i ρ cP) (ρ.i.getD 13 0 / 4%2)%65536∧E.i ρ aAr=sgF (ρ.i.getD 14 0) 12 (ρ.i.getD 2 0) (E.i ρ cP) (ρ.i.getD 13 0 / 4%2)%64:=by
 obtain ⟨r1,r2,r13,r14,r18,hr⟩:=ctR ρ hH
 generalize E.i ρ cP=p at *
 simp only [aMg,aMh,aMi,aMj,oD,aMk,aMl,aMm,aMn,aMo,aHS,aHT,aHU,aHV,aHW,aHX,aHY,aHZ,aIa,aIb,aIc,aAr,sgm,sgn,sgV,sgF]
 simp only [Int.reduceEq,if_false,if_true]
 simp only [cy1,cy2,sgn]
 clear hH r18
 generalize ρ.i.getD 2 0=q at *
 generalize ρ.i.getD 14 0=w at *
 generalize ρ.i.getD 13 0=cc at *
 refine ⟨by omega,?_⟩
 refine (Int.emod_eq_of_lt ?_ ?_).symm <;> (repeat' split) <;> omega
theorem bLt:enter Try.prog SH SHh 3000 40 54 ctH (ctl 12 1) ctM=some ([],.tup [],some (ctw (.v 1) oD (.v 13) aAr)):=by kernel_rfl
def aMy:E:=.mod (.v 2) (.lit 16384)
def aMz:E:=.mul aMy (.lit 4)
def qT:E:=.add aMz (.lit 3)
def aMA:E:=.le qT (.lit 32767)
def aMB:E:=.ite aMA (.lit 0) (.lit 1)
def aMC:E:=.le (.v 14) (.lit 31)
def aMD:E:=.le (.lit 32768) qT
def aME:E:=.div (.v 14) (.lit 2)
def aMF:E:=.mod aME (.lit 2)
def aMG:E:=.eq aMF (.lit 0)
def aIg:E:=.not aMG
def aIh:E:=.ite aMC aMD aIg
def aIi:E:=.ite aIh (.lit 2) (.lit 0)
def aAt:E:=.add aMB aIi
theorem bLH (ρ:Env) (hH:ctH.ok ρ):E.i ρ qT=sgV 13 (ρ.i.getD 2 0) (E.i ρ cP) (ρ.i.getD 13 0 / 4%2)%65536∧E.i ρ aAt=sgF (ρ.i.getD 14 0) 13 (ρ.i.getD 2 0) (E.i ρ cP) (ρ.i.getD 13 0 / 4%2)%64:=by
 obtain ⟨r1,r2,r13,r14,r18,hr⟩:=ctR ρ hH
 generalize E.i ρ cP=p at *
 simp only [aMy,aMz,qT,aMA,aMB,aMC,aMD,aME,aMF,aMG,aIg,aIh,aIi,aAt,sgm,sgn,sgV,sgF]
 simp only [Int.reduceEq,if_false,if_true]
 simp only [cy1,cy2,sgn]
 clear hH r18
 generalize ρ.i.getD 2 0=q at *
 generalize ρ.i.getD 14 0=w at *
 generalize ρ.i.getD 13 0=cc at *
 refine ⟨by omega,?_⟩
 refine (Int.emod_eq_of_lt ?_ ?_).symm <;> (repeat' split) <;> omega
theorem bLv:enter Try.prog SH SHh 3000 40 54 ctH (ctl 13 1) ctM=some ([],.tup [],some (ctw (.v 1) qT (.v 13) aAt)):=by kernel_rfl
def aMQ:E:=.mod (.v 2) (.lit 4096)
def aMR:E:=.mul aMQ (.lit 16)
def qV:E:=.add aMR (.lit 15)
def aMS:E:=.le qV (.lit 32767)
def aMT:E:=.ite aMS (.lit 0) (.lit 1)
def aMU:E:=.le (.v 14) (.lit 31)
def aMV:E:=.le (.lit 32768) qV
def aMW:E:=.div (.v 14) (.lit 2)
def aMX:E:=.mod aMW (.lit 2)
def aMY:E:=.eq aMX (.lit 0)
def aIm:E:=.not aMY
def aIn:E:=.ite aMU aMV aIm
def aIo:E:=.ite aIn (.lit 2) (.lit 0)
def aAv:E:=.add aMT aIo
theorem bLJ (ρ:Env) (hH:ctH.ok ρ):E.i ρ qV=sgV 14 (ρ.i.getD 2 0) (E.i ρ cP) (ρ.i.getD 13 0 / 4%2)%65536∧E.i ρ aAv=sgF (ρ.i.getD 14 0) 14 (ρ.i.getD 2 0) (E.i ρ cP) (ρ.i.getD 13 0 / 4%2)%64:=by
 obtain ⟨r1,r2,r13,r14,r18,hr⟩:=ctR ρ hH
 generalize E.i ρ cP=p at *
 simp only [aMQ,aMR,qV,aMS,aMT,aMU,aMV,aMW,aMX,aMY,aIm,aIn,aIo,aAv,sgm,sgn,sgV,sgF]
 simp only [Int.reduceEq,if_false,if_true]
 simp only [cy1,cy2,sgn]
 clear hH r18
 generalize ρ.i.getD 2 0=q at *
 generalize ρ.i.getD 14 0=w at *
 generalize ρ.i.getD 13 0=cc at *
 refine ⟨by omega,?_⟩
 refine (Int.emod_eq_of_lt ?_ ?_).symm <;> (repeat' split) <;> omega
theorem bLx:enter Try.prog SH SHh 3000 40 54 ctH (ctl 14 1) ctM=some ([],.tup [],some (ctw (.v 1) qV (.v 13) aAv)):=by kernel_rfl
def aNi:E:=.mod (.v 2) (.lit 256)
def aNj:E:=.mul aNi (.lit 256)
def aNk:E:=.div (.v 2) (.lit 256)
def oF:E:=.add aNj aNk
def aNl:E:=.le oF (.lit 32767)
def aNm:E:=.ite aNl (.lit 0) (.lit 1)
def aNn:E:=.le (.v 14) (.lit 31)
def aNo:E:=.le (.lit 32768) oF
def aNp:E:=.div (.v 14) (.lit 2)
def aNq:E:=.mod aNp (.lit 2)
def aIw:E:=.eq aNq (.lit 0)
def aIx:E:=.not aIw
def aIy:E:=.ite aNn aNo aIx
def aIz:E:=.ite aIy (.lit 2) (.lit 0)
def aIA:E:=.add aNm aIz
def aIB:E:=.eq oF (.lit 0)
def aIC:E:=.ite aIB (.lit 8) (.lit 0)
def aAx:E:=.add aIA aIC
theorem bLL (ρ:Env) (hH:ctH.ok ρ):E.i ρ oF=sgV 15 (ρ.i.getD 2 0) (E.i ρ cP) (ρ.i.getD 13 0 / 4%2)%65536∧E.i ρ aAx=sgF (ρ.i.getD 14 0) 15 (ρ.i.getD 2 0) (E.i ρ cP) (ρ.i.getD 13 0 / 4%2)%64:=by
 obtain ⟨r1,r2,r13,r14,r18,hr⟩:=ctR ρ hH
 generalize E.i ρ cP=p at *
 simp only [aNi,aNj,aNk,oF,aNl,aNm,aNn,aNo,aNp,aNq,aIw,aIx,aIy,aIz,aIA,aIB,aIC,aAx,sgm,sgn,sgV,sgF]
 simp only [Int.reduceEq,if_false,if_true]
 simp only [cy1,cy2,sgn]
 clear hH r18
 generalize ρ.i.getD 2 0=q at *
 generalize ρ.i.getD 14 0=w at *
 generalize ρ.i.getD 13 0=cc at *
 refine ⟨by omega,?_⟩
 refine (Int.emod_eq_of_lt ?_ ?_).symm <;> (repeat' split) <;> omega
theorem bLz:enter Try.prog SH SHh 3000 40 54 ctH (ctl 15 1) ctM=some ([],.tup [],some (ctw (.v 1) oF (.v 13) aAx)):=by kernel_rfl
theorem ctat (xs:Nat→Nat→Ext):iL Try.prog (Iv xs) 54 29 0 3 (nR ctH ctL ctM [] (.tup []) (some ctO)):=by
 refine bLU (s:=enter Try.prog SH SHh 3000 40 54) (bW (SH_ok xs) (by kernel_rfl) 3000 40) rfl (fun ρ hI hz hH hn=>?_)
 have r19:0≤E.i ρ (.v 19)∧E.i ρ (.v 19)≤15:=hH.e (.v 19,(0,15)) (by simp [ctH])
 have r20:0≤E.i ρ (.v 20)∧E.i ρ (.v 20)≤1:=hH.e (.v 20,(0,1)) (by simp [ctH])
 rcases (show E.i ρ (.v 20)=0∨E.i ρ (.v 20)=1 by omega) with ha | ha
 ·rcases (show E.i ρ (.v 19)=0∨E.i ρ (.v 19)=1∨E.i ρ (.v 19)=2∨E.i ρ (.v 19)=3∨E.i ρ (.v 19)=4∨E.i ρ (.v 19)=5∨E.i ρ (.v 19)=6∨E.i ρ (.v 19)=7∨E.i ρ (.v 19)=8∨E.i ρ (.v 19)=9∨E.i ρ (.v 19)=10∨E.i ρ (.v 19)=11∨E.i ρ (.v 19)=12∨E.i ρ (.v 19)=13∨E.i ρ (.v 19)=14∨E.i ρ (.v 19)=15 by omega) with hk | hk | hk | hk | hk | hk | hk | hk | hk | hk | hk | hk | hk | hk | hk | hk
  ·exact ⟨ctH,ctl 0 0,_,_,_,bQg,hH,iS ρ _ _ hk ha,rfl,hn,trivial,tS xs ρ hI _ hk ha _ _ (bQA ρ hH)⟩
  ·exact ⟨ctH,ctl 1 0,_,_,_,bQi,hH,iS ρ _ _ hk ha,rfl,hn,trivial,tS xs ρ hI _ hk ha _ _ (bQC ρ hH)⟩
  ·exact ⟨ctH,ctl 2 0,_,_,_,bQk,hH,iS ρ _ _ hk ha,rfl,hn,trivial,tS xs ρ hI _ hk ha _ _ (bQE ρ hH)⟩
  ·exact ⟨ctH,ctl 3 0,_,_,_,bQm,hH,iS ρ _ _ hk ha,rfl,hn,trivial,tS xs ρ hI _ hk ha _ _ (bQG ρ hH)⟩
  ·exact ⟨ctH,ctl 4 0,_,_,_,bQo,hH,iS ρ _ _ hk ha,rfl,hn,trivial,tS xs ρ hI _ hk ha _ _ (bQI ρ hH)⟩
  ·exact ⟨ctH,ctl 5 0,_,_,_,bQq,hH,iS ρ _ _ hk ha,rfl,hn,trivial,tS xs ρ hI _ hk ha _ _ (bQK ρ hH)⟩
  ·exact ⟨ctH,ctl 6 0,_,_,_,bQs,hH,iS ρ _ _ hk ha,rfl,hn,trivial,tS xs ρ hI _ hk ha _ _ (bQM ρ hH)⟩
  ·exact ⟨ctH,ctl 7 0,_,_,_,bQu,hH,iS ρ _ _ hk ha,rfl,hn,trivial,tS xs ρ hI _ hk ha _ _ (bQO ρ hH)⟩
  ·exact ⟨ctH,ctl 8 0,_,_,_,bQw,hH,iS ρ _ _ hk ha,rfl,hn,trivial,tS xs ρ hI _ hk ha _ _ (bQQ ρ hH)⟩
  ·exact ⟨ctH,ctl 9 0,_,_,_,bQy,hH,iS ρ _ _ hk ha,rfl,hn,trivial,tS xs ρ hI _ hk ha _ _ (bQS ρ hH)⟩
  ·exact ⟨ctH,ctl 10 0,_,_,_,bLo,hH,iS ρ _ _ hk ha,rfl,hn,trivial,tS xs ρ hI _ hk ha _ _ (bLA ρ hH)⟩
  ·exact ⟨ctH,ctl 11 0,_,_,_,bLq,hH,iS ρ _ _ hk ha,rfl,hn,trivial,tS xs ρ hI _ hk ha _ _ (bLC ρ hH)⟩
  ·exact ⟨ctH,ctl 12 0,_,_,_,bLs,hH,iS ρ _ _ hk ha,rfl,hn,trivial,tS xs ρ hI _ hk ha _ _ (bLE ρ hH)⟩
  ·exact ⟨ctH,ctl 13 0,_,_,_,bLu,hH,iS ρ _ _ hk ha,rfl,hn,trivial,tS xs ρ hI _ hk ha _ _ (bLG ρ hH)⟩
  ·exact ⟨ctH,ctl 14 0,_,_,_,bLw,hH,iS ρ _ _ hk ha,rfl,hn,trivial,tS xs ρ hI _ hk ha _ _ (bLI ρ hH)⟩
  ·exact ⟨ctH,ctl 15 0,_,_,_,bLy,hH,iS ρ _ _ hk ha,rfl,hn,trivial,tS xs ρ hI _ hk ha _ _ (bLK ρ hH)⟩
 ·rcases (show E.i ρ (.v 19)=0∨E.i ρ (.v 19)=1∨E.i ρ (.v 19)=2∨E.i ρ (.v 19)=3∨E.i ρ (.v 19)=4∨E.i ρ (.v 19)=5∨E.i ρ (.v 19)=6∨E.i ρ (.v 19)=7∨E.i ρ (.v 19)=8∨E.i ρ (.v 19)=9∨E.i ρ (.v 19)=10∨E.i ρ (.v 19)=11∨E.i ρ (.v 19)=12∨E.i ρ (.v 19)=13∨E.i ρ (.v 19)=14∨E.i ρ (.v 19)=15 by omega) with hk | hk | hk | hk | hk | hk | hk | hk | hk | hk | hk | hk | hk | hk | hk | hk
  ·exact ⟨ctH,ctl 0 1,_,_,_,bQh,hH,iS ρ _ _ hk ha,rfl,hn,trivial,tT xs ρ hI _ hk ha _ _ (bQB ρ hH)⟩
  ·exact ⟨ctH,ctl 1 1,_,_,_,bQj,hH,iS ρ _ _ hk ha,rfl,hn,trivial,tT xs ρ hI _ hk ha _ _ (bQD ρ hH)⟩
  ·exact ⟨ctH,ctl 2 1,_,_,_,bQl,hH,iS ρ _ _ hk ha,rfl,hn,trivial,tT xs ρ hI _ hk ha _ _ (bQF ρ hH)⟩
  ·exact ⟨ctH,ctl 3 1,_,_,_,bQn,hH,iS ρ _ _ hk ha,rfl,hn,trivial,tT xs ρ hI _ hk ha _ _ (bQH ρ hH)⟩
  ·exact ⟨ctH,ctl 4 1,_,_,_,bQp,hH,iS ρ _ _ hk ha,rfl,hn,trivial,tT xs ρ hI _ hk ha _ _ (bQJ ρ hH)⟩
  ·exact ⟨ctH,ctl 5 1,_,_,_,bQr,hH,iS ρ _ _ hk ha,rfl,hn,trivial,tT xs ρ hI _ hk ha _ _ (bQL ρ hH)⟩
  ·exact ⟨ctH,ctl 6 1,_,_,_,bQt,hH,iS ρ _ _ hk ha,rfl,hn,trivial,tT xs ρ hI _ hk ha _ _ (bQN ρ hH)⟩
  ·exact ⟨ctH,ctl 7 1,_,_,_,bQv,hH,iS ρ _ _ hk ha,rfl,hn,trivial,tT xs ρ hI _ hk ha _ _ (bQP ρ hH)⟩
  ·exact ⟨ctH,ctl 8 1,_,_,_,bQx,hH,iS ρ _ _ hk ha,rfl,hn,trivial,tT xs ρ hI _ hk ha _ _ (bQR ρ hH)⟩
  ·exact ⟨ctH,ctl 9 1,_,_,_,bQz,hH,iS ρ _ _ hk ha,rfl,hn,trivial,tT xs ρ hI _ hk ha _ _ (bQT ρ hH)⟩
  ·exact ⟨ctH,ctl 10 1,_,_,_,bLp,hH,iS ρ _ _ hk ha,rfl,hn,trivial,tT xs ρ hI _ hk ha _ _ (bLB ρ hH)⟩
  ·exact ⟨ctH,ctl 11 1,_,_,_,bLr,hH,iS ρ _ _ hk ha,rfl,hn,trivial,tT xs ρ hI _ hk ha _ _ (bLD ρ hH)⟩
  ·exact ⟨ctH,ctl 12 1,_,_,_,bLt,hH,iS ρ _ _ hk ha,rfl,hn,trivial,tT xs ρ hI _ hk ha _ _ (bLF ρ hH)⟩
  ·exact ⟨ctH,ctl 13 1,_,_,_,bLv,hH,iS ρ _ _ hk ha,rfl,hn,trivial,tT xs ρ hI _ hk ha _ _ (bLH ρ hH)⟩
  ·exact ⟨ctH,ctl 14 1,_,_,_,bLx,hH,iS ρ _ _ hk ha,rfl,hn,trivial,tT xs ρ hI _ hk ha _ _ (bLJ ρ hH)⟩
  ·exact ⟨ctH,ctl 15 1,_,_,_,bLz,hH,iS ρ _ _ hk ha,rfl,hn,trivial,tT xs ρ hI _ hk ha _ _ (bLL ρ hH)⟩
theorem ctok (xs:Nat→Nat→Ext):bD Try.prog (Iv xs) 54 ctS:=jJ (ctat xs) (iD _ _ _ _ _ _)
end Go.Proofs.Ytcckecfjjccffaa
