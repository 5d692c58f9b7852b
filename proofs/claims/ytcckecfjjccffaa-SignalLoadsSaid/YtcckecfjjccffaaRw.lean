/- Contracts of functions on rows of bytes that laws of this seat call. They are run by symbols (SxA, SxB, SxG, SxC). No condition. -/
import Derived.Test.YtcckecfjjccffaaProg
import Derived.Test.YtcckecfjjccffaaSxC
namespace Go.Proofs.Ytcckecfjjccffaa
open Go.Sx Go.RowKit
set_option linter.unusedVariables false
set_option linter.unusedSimpArgs false
set_option maxRecDepth 100000
noncomputable def S0:Ctx:=inl Try.prog (ctx []) 3000 6 6
noncomputable def S0h:aV:=bCV Try.prog (ctx []) 3000 6 6
theorem aAO (I:Interp):cA Try.prog I S0:=yA (kP (fun p hp=>by cases hp)) (by kernel_rfl) 3000 6 6
def aIz:Hyp:=⟨[(.v 0,(0,9223372036854775807)),(.v 1,(0,9223372036854775807))],[(0,(0,255)),(1,(0,255))],[],[],[],[(0,⟨.v 0,[(some .u8,.av 0)],[]⟩),(1,⟨.v 1,[(some .u8,.av 1)],[]⟩)]⟩
def cbLs:List SV:=[.s (.xslc 0 (.lit 0) (.lit 0) (.v 0)),.s (.xslc 1 (.lit 0) (.lit 0) (.v 1))]
--SKEND
def cb0:E:=.eq (.v 0) (.v 1)
def cb1:E:=.not cb0
def cb2:E:=.lt (.v 2) (.v 0)
def cb3:E:=.lt (.v 2) (.v 1)
def cb4:E:=.sel (.av 0) (.v 2)
def cb5:E:=.sel (.av 1) (.v 2)
def cb6:E:=.eq cb4 cb5
def cb7:E:=.not cb6
def cb8:E:=.add (.v 2) (.lit 1)
noncomputable def bLR:List Item:=mL Try.prog 20 5
noncomputable def bLS:Head:=⟨5,bLR,⟨[((.v 0),(0,9223372036854775807)),((.v 1),(0,9223372036854775807)),((.v 2),(0,9223372036854775807))],[(0,(0,255)),(1,(0,255))],[],[],[],[(0,⟨(.v 0),[(some .u8,(.av 0))],[]⟩),(1,⟨(.v 1),[(some .u8,(.av 1))],[]⟩)]⟩,[⟨5,[],.s (.int .i64 (.v 2))⟩,⟨0,[],.s (.xslc 0 (.lit 0) (.lit 0) (.v 0))⟩,⟨1,[],.s (.xslc 1 (.lit 0) (.lit 0) (.v 1))⟩],[]⟩
noncomputable def bLT:List Head:=[bLS]
def cbD:Dim:=⟨3,0,2,2,0,2,0⟩
theorem cbst:gD Try.prog S0 S0h cbD bLT [] 3000 0 20 aIz cbLs []=some (.ite cb1 (.ret (.s (.bool (.blit false))) []) (.jump 0 bLR ⟨[(2,(.lit 0))],[],[]⟩)):=by kernel_rfl
theorem cbsg0:mM Try.prog S0 S0h cbD bLT [] 3000 0 20 bLS=some (.ite cb2 (.need cb3 (.need cb3 (.ite cb7 (.ret (.s (.bool (.blit false))) []) (.jump 0 bLR ⟨[(2,cb8)],[],[]⟩)))) (.ret (.s (.bool (.blit true))) [])):=by kernel_rfl
theorem bCp:aVs Try.prog 20:=by
 intro d R w q W
 let I:Interp:=Iv (fun i j=>match i,j with | 0,0=>d | 1,0=>R | _,_=>Ext.none)
 have hxs:∀ i j,(I.xs i j).ok w:=fun i j=>by rcases i with _ | _ | i <;> rcases j with _ | j <;> first | exact Ext.jC _ | exact q.ok | exact W.ok
 let E (i:Int)  : Env:=⟨[(d.n:Int),(R.n:Int),i],[],[aD d 1 0,aD R 1 0],[],I⟩
 have t:=dC q
 have r:∀ j,inR (dS .u8) (aD d 1 0 j):=cW q
 simp only [inR,dS,iZ,bY] at t r
 have X:=dC W
 have Y:∀ j,inR (dS .u8) (aD R 1 0 j):=cW W
 simp only [inR,dS,iZ,bY] at X Y
 have hargs:(cbLs.map (SV.aC (E 0) Loc.id)).toArray=#[d.v,R.v]:=congrArg List.toArray (fN (dX q rfl rfl) (fN (dX W rfl rfl) (rfl)))
 rw [← hargs]
 have hX:∀ (p:Nat × XI),p ∈ [(0,⟨.v 0,[(some .u8,.av 0)],[]⟩),(1,⟨.v 1,[(some .u8,.av 1)],[]⟩)]→∀ (i:Int) , XI.ok (E i ) p.1 p.2:=by
  intro p hp i 
  simp only [List.mem_cons,List.not_mem_nil,or_false] at hp
  rcases hp with rfl | rfl
  ·exact lA q rfl rfl rfl
  ·exact lA W rfl rfl rfl
 have hok:∀ (H:Hyp) (i:Int),0≤i∧i≤9223372036854775807→H.e=[(.v 0,(0,9223372036854775807)),(.v 1,(0,9223372036854775807)),(.v 2,(0,9223372036854775807))]→H.a=[(0,(0,255)),(1,(0,255))]→H.fi=[]→H.fa=[]→H.b=[]→H.x=aIz.x→H.ok (E i):=by
  intro H i hi u D G J K L
  refine ⟨?_,?_,?_,by simp [G],by simp [J],by simp [K]⟩
  ·rw [L];exact fun p hp=>hX p hp i
  ·rw [u];intro p hp
   simp only [List.mem_cons,List.not_mem_nil,or_false] at hp
   rcases hp with rfl | rfl | rfl
   ·exact t
   ·exact X
   ·exact hi
  ·rw [D];intro p hp
   simp only [List.mem_cons,List.not_mem_nil,or_false] at hp
   rcases hp with rfl | rfl
   ·exact r
   ·exact Y
 have hok0:aIz.ok (E 0):=by
  refine ⟨?_,?_,?_,by simp [aIz],by simp [aIz],by simp [aIz]⟩
  ·exact fun p hp=>hX p hp 0
  ·intro p hp
   simp only [aIz,List.mem_cons,List.not_mem_nil,or_false] at hp
   rcases hp with rfl | rfl
   ·exact t
   ·exact X
  ·intro p hp
   simp only [aIz,List.mem_cons,List.not_mem_nil,or_false] at hp
   rcases hp with rfl | rfl
   ·exact r
   ·exact Y
 let T:Prop:=d.n=R.n∧∀ j,j<d.n→aD d 1 0 j=aD R 1 0 j
 refine iR (β:=⟨w,0,Loc.id⟩) (aAO I) (by kernel_rfl) (Nat.zero_le _) (fun k ρ=>k=0∧∃ i:Int,ρ=E i∧d.n=R.n∧0≤i∧i≤d.n∧∀ j:Nat,(j:Int)<i→aD d 1 0 j=aD R 1 0 j)
  (fun _ ρ=>((d.n:Int)+1-ρ.i.getD 2 0).toNat) (fun ρ v _=>∃ b:Bool,v=.s (.bool (.blit b))∧(b=true↔T)) ?_ cbst (aK.empty hxs Loc.id) rfl ⟨rfl,rfl,rfl⟩ hok0 ?_ ?_
 ·rintro ρ v m hI ⟨b,rfl,hb⟩ ι w' hm
  rw [aW rfl]
  refine ⟨?_,hm.aGT⟩
  simp only [SV.aC,S.aC,aP]
  congr 2
  cases b
  ·symm;rw [decide_eq_false_iff_not];exact fun h=>by have:=hb.2 h;cases this
  ·symm;rw [decide_eq_true_eq];exact hb.1 rfl
 ·simp only [LT.holds]
  refine ⟨fun l=>?_,fun l=>?_⟩
  ·
    refine ⟨false,rfl,?_⟩
    simp only [E,cb0,cb1,cb2,cb3,cb4,cb5,cb6,cb7,cb8,i_v,gP,aF,aP,aS,cU,bE,cE,bC,bX,bU,aT,cR,fX,fM,eR,cZ,cT,fJ,dO,dI,cB,bW,List.getD_cons_zero,List.getD_cons_succ,decide_eq_true_eq,decide_eq_false_iff_not,Bool.and_eq_true,Bool.or_eq_true,Bool.not_eq_true',Bool.not_eq_false',Bool.and_eq_false_iff,Bool.or_eq_false_iff,Bool.not_not,cM,cL,cK,cJ,gJ,cD,cC] at l
    exact ⟨(fun h=>by cases h),fun h=>absurd h.1 (by omega)⟩
  ·
    simp only [E,cb0,cb1,cb2,cb3,cb4,cb5,cb6,cb7,cb8,i_v,gP,aF,aP,aS,cU,bE,cE,bC,bX,bU,aT,cR,fX,fM,eR,cZ,cT,fJ,dO,dI,cB,bW,List.getD_cons_zero,List.getD_cons_succ,decide_eq_true_eq,decide_eq_false_iff_not,Bool.and_eq_true,Bool.or_eq_true,Bool.not_eq_true',Bool.not_eq_false',Bool.and_eq_false_iff,Bool.or_eq_false_iff,Bool.not_not,cM,cL,cK,cJ,gJ,cD,cC] at l
    exact ⟨rfl,trivial,0,rfl,by omega,by omega,by omega,fun j hj=>by omega⟩
 ·rintro j h ρ hj hI hz ⟨rfl,i,rfl,hn,O,Q,hq⟩
  simp only [bLT,List.getElem?_cons_zero,Option.some.injEq] at hj;subst hj
  refine ⟨hok bLS.H i (by omega) rfl rfl rfl rfl rfl rfl,_,cbsg0,?_⟩
  simp only [LT.holds]
  refine ⟨fun l=>?_,fun l=>?_⟩
  ·
    refine ⟨?_,fun F=>?_⟩
    ·
      simp only [E,cb0,cb1,cb2,cb3,cb4,cb5,cb6,cb7,cb8,i_v,gP,aF,aP,aS,cU,bE,cE,bC,bX,bU,aT,cR,fX,fM,eR,cZ,cT,fJ,dO,dI,cB,bW,List.getD_cons_zero,List.getD_cons_succ,decide_eq_true_eq,decide_eq_false_iff_not,Bool.and_eq_true,Bool.or_eq_true,Bool.not_eq_true',Bool.not_eq_false',Bool.and_eq_false_iff,Bool.or_eq_false_iff,Bool.not_not,cM,cL,cK,cJ,gJ,cD,cC] at l ⊢
      omega
    refine ⟨?_,fun hc2=>?_⟩
    ·
      simp only [E,cb0,cb1,cb2,cb3,cb4,cb5,cb6,cb7,cb8,i_v,gP,aF,aP,aS,cU,bE,cE,bC,bX,bU,aT,cR,fX,fM,eR,cZ,cT,fJ,dO,dI,cB,bW,List.getD_cons_zero,List.getD_cons_succ,decide_eq_true_eq,decide_eq_false_iff_not,Bool.and_eq_true,Bool.or_eq_true,Bool.not_eq_true',Bool.not_eq_false',Bool.and_eq_false_iff,Bool.or_eq_false_iff,Bool.not_not,cM,cL,cK,cJ,gJ,cD,cC] at l F ⊢
      omega
    refine ⟨fun M=>?_,fun M=>?_⟩
    ·
      simp only [E,cb0,cb1,cb2,cb3,cb4,cb5,cb6,cb7,cb8,i_v,gP,aF,aP,aS,cU,bE,cE,bC,bX,bU,aT,cR,fX,fM,eR,cZ,cT,fJ,dO,dI,cB,bW,List.getD_cons_zero,List.getD_cons_succ,decide_eq_true_eq,decide_eq_false_iff_not,Bool.and_eq_true,Bool.or_eq_true,Bool.not_eq_true',Bool.not_eq_false',Bool.and_eq_false_iff,Bool.or_eq_false_iff,Bool.not_not,cM,cL,cK,cJ,gJ,cD,cC] at l F hc2 M
      refine ⟨false,rfl,(fun h=>by cases h),fun h=>?_⟩
      have:=h.2 i.toNat (by omega)
      exact absurd this (by omega)
    ·
      simp only [E,cb0,cb1,cb2,cb3,cb4,cb5,cb6,cb7,cb8,i_v,gP,aF,aP,aS,cU,bE,cE,bC,bX,bU,aT,cR,fX,fM,eR,cZ,cT,fJ,dO,dI,cB,bW,List.getD_cons_zero,List.getD_cons_succ,decide_eq_true_eq,decide_eq_false_iff_not,Bool.and_eq_true,Bool.or_eq_true,Bool.not_eq_true',Bool.not_eq_false',Bool.and_eq_false_iff,Bool.or_eq_false_iff,Bool.not_not,cM,cL,cK,cJ,gJ,cD,cC] at l F hc2 M
      refine ⟨rfl,⟨trivial,i+1,rfl,hn,by omega,by omega,fun j hj=>?_⟩,?_⟩
      ·by_cases e:(j:Int)=i
       ·have:i.toNat=j:=by omega
        rw [this] at M;omega
       ·exact hq j (by omega)
      ·show ((d.n:Int)+1-(i+1)).toNat<((d.n:Int)+1-i).toNat
       omega
  ·
    simp only [E,cb0,cb1,cb2,cb3,cb4,cb5,cb6,cb7,cb8,i_v,gP,aF,aP,aS,cU,bE,cE,bC,bX,bU,aT,cR,fX,fM,eR,cZ,cT,fJ,dO,dI,cB,bW,List.getD_cons_zero,List.getD_cons_succ,decide_eq_true_eq,decide_eq_false_iff_not,Bool.and_eq_true,Bool.or_eq_true,Bool.not_eq_true',Bool.not_eq_false',Bool.and_eq_false_iff,Bool.or_eq_false_iff,Bool.not_not,cM,cL,cK,cJ,gJ,cD,cC] at l
    exact ⟨true,rfl,fun _=>⟨hn,fun j hj=>hq j (by omega)⟩,fun _=>rfl⟩
def aIF:Hyp:=⟨[(.v 0,(0,9223372036854775807))],[(0,(0,255))],[],[],[],[(0,⟨.v 0,[(some .u8,.av 0)],[]⟩)]⟩
def csLs:List SV:=[.s (.xslc 0 (.lit 0) (.lit 0) (.v 0))]
--SKEND
def cs0:E:=.lt (.v 1) (.v 0)
def cs1:E:=.mul (.v 2) (.lit 31)
def cs2:E:=.sel (.av 0) (.v 1)
def cs3:E:=.add cs1 cs2
def cs4:E:=.add cs3 (.lit 7)
def cs5:E:=.mod cs4 (.lit 4294967296)
def cs6:E:=.add (.v 1) (.lit 1)
noncomputable def bMh:List Item:=mL Try.prog 44 4
noncomputable def bMi:Head:=⟨4,bMh,⟨[((.v 0),(0,9223372036854775807)),((.v 1),(0,9223372036854775807)),((.v 2),(0,4294967295))],[(0,(0,255))],[],[],[],[(0,⟨(.v 0),[(some .u8,(.av 0))],[]⟩)]⟩,[⟨8,[],.s (.int .i64 (.v 1))⟩,⟨7,[],.s (.int .i64 (.v 0))⟩,⟨6,[],.s (.xslc 0 (.lit 0) (.lit 0) (.v 0))⟩,⟨3,[],.s (.int .u32 (.v 2))⟩],[]⟩
noncomputable def bMj:List Head:=[bMi]
def csD:Dim:=⟨3,0,1,1,0,1,0⟩
theorem csst:gD Try.prog S0 S0h csD bMj [] 3000 0 44 aIF csLs []=some (.jump 0 bMh ⟨[(2,(.lit 1)),(1,(.lit 0))],[],[]⟩):=by kernel_rfl
theorem cssg0:mM Try.prog S0 S0h csD bMj [] 3000 0 44 bMi=some (.ite cs0 (.jump 0 bMh ⟨[(2,cs5),(1,cs6)],[],[]⟩) (.ret (.s (.int .u32 (.v 2))) [])):=by kernel_rfl
theorem bCx:aVv Try.prog 44:=by
 intro d w q
 let I:Interp:=Iv (fun i j=>match i,j with | 0,0=>d | _,_=>Ext.none)
 have hxs:∀ i j,(I.xs i j).ok w:=fun i j=>by rcases i with _ | i <;> rcases j with _ | j <;> first | exact Ext.jC _ | exact q.ok
 let E (i z:Int)  : Env:=⟨[(d.n:Int),i,z],[],[aD d 1 0],[],I⟩
 have t:=dC q
 have r:∀ j,inR (dS .u8) (aD d 1 0 j):=cW q
 simp only [inR,dS,iZ,bY] at t r
 have hargs:(csLs.map (SV.aC (E 0 0) Loc.id)).toArray=#[d.v]:=congrArg List.toArray (fN (dX q rfl rfl) (rfl))
 rw [← hargs]
 have hX:∀ (p:Nat × XI),p ∈ [(0,⟨.v 0,[(some .u8,.av 0)],[]⟩)]→∀ (i z:Int) , XI.ok (E i z ) p.1 p.2:=by
  intro p hp i z 
  simp only [List.mem_cons,List.not_mem_nil,or_false] at hp
  rcases hp with rfl
  ·exact lA q rfl rfl rfl
 have hok:∀ (H:Hyp) (i z:Int),0≤i∧i≤9223372036854775807→0≤z∧z≤4294967295→H.e=[(.v 0,(0,9223372036854775807)),(.v 1,(0,9223372036854775807)),(.v 2,(0,4294967295))]→H.a=[(0,(0,255))]→H.fi=[]→H.fa=[]→H.b=[]→H.x=aIF.x→H.ok (E i z):=by
  intro H i z hi hz u D G J K L
  refine ⟨?_,?_,?_,by simp [G],by simp [J],by simp [K]⟩
  ·rw [L];exact fun p hp=>hX p hp i z
  ·rw [u];intro p hp
   simp only [List.mem_cons,List.not_mem_nil,or_false] at hp
   rcases hp with rfl | rfl | rfl
   ·exact t
   ·exact hi
   ·exact hz
  ·rw [D];intro p hp
   simp only [List.mem_cons,List.not_mem_nil,or_false] at hp
   rcases hp with rfl
   ·exact r
 have hok0:aIF.ok (E 0 0):=by
  refine ⟨?_,?_,?_,by simp [aIF],by simp [aIF],by simp [aIF]⟩
  ·exact fun p hp=>hX p hp 0 0
  ·intro p hp
   simp only [aIF,List.mem_cons,List.not_mem_nil,or_false] at hp
   rcases hp with rfl
   ·exact t
  ·intro p hp
   simp only [aIF,List.mem_cons,List.not_mem_nil,or_false] at hp
   rcases hp with rfl
   ·exact r
 refine iR (β:=⟨w,0,Loc.id⟩) (aAO I) (by kernel_rfl) (Nat.zero_le _) (fun k ρ=>k=0∧∃ i z:Int,ρ=E i z∧0≤i∧i≤d.n∧z=tP i.toNat (aD d 1 0))
  (fun _ ρ=>((d.n:Int)+1-ρ.i.getD 1 0).toNat) (fun ρ v _=>∃ e:_root_.Go.Sx.E,v=.s (.int .u32 e)∧e.i ρ=tP d.n (aD d 1 0)) ?_ csst (aK.empty hxs Loc.id) rfl ⟨rfl,rfl,rfl⟩ hok0 ?_ ?_
 ·rintro ρ v m hI ⟨e,rfl,he⟩ ι w' hm
  rw [aW rfl]
  exact ⟨by simp only [SV.aC,S.aC,he],hm.aGT⟩
 ·simp only [LT.holds]
  exact ⟨rfl,trivial,0,1,rfl,by omega,by omega,rfl⟩
 ·rintro j h ρ hj hI hz ⟨rfl,i,z,rfl,O,Q,hq⟩
  have hzr:=wW i.toNat (aD d 1 0)
  rw [← hq] at hzr
  simp only [bMj,List.getElem?_cons_zero,Option.some.injEq] at hj;subst hj
  refine ⟨hok bMi.H i z (by omega) hzr rfl rfl rfl rfl rfl rfl,_,cssg0,?_⟩
  simp only [LT.holds]
  refine ⟨fun l=>?_,fun l=>?_⟩
  ·
    simp only [E,cs0,cs1,cs2,cs3,cs4,cs5,cs6,i_v,gP,aF,aP,aS,cU,bE,cE,bC,bX,bU,aT,cR,fX,fM,eR,cZ,cT,fJ,dO,dI,cB,bW,List.getD_cons_zero,List.getD_cons_succ,decide_eq_true_eq,decide_eq_false_iff_not,Bool.and_eq_true,Bool.or_eq_true,Bool.not_eq_true',Bool.not_eq_false',Bool.and_eq_false_iff,Bool.or_eq_false_iff,Bool.not_not,cM,cL,cK,cJ,gJ,cD,cC] at l
    have D:(i+1).toNat=i.toNat+1:=by omega
    refine ⟨rfl,⟨trivial,i+1,(z*31+aD d 1 0 i.toNat+7)%4294967296,rfl,by omega,by omega,?_⟩,?_⟩
    ·rw [D,oR,← hq]
    ·show ((d.n:Int)+1-(i+1)).toNat<((d.n:Int)+1-i).toNat
     omega
  ·
    simp only [E,cs0,cs1,cs2,cs3,cs4,cs5,cs6,i_v,gP,aF,aP,aS,cU,bE,cE,bC,bX,bU,aT,cR,fX,fM,eR,cZ,cT,fJ,dO,dI,cB,bW,List.getD_cons_zero,List.getD_cons_succ,decide_eq_true_eq,decide_eq_false_iff_not,Bool.and_eq_true,Bool.or_eq_true,Bool.not_eq_true',Bool.not_eq_false',Bool.and_eq_false_iff,Bool.or_eq_false_iff,Bool.not_not,cM,cL,cK,cJ,gJ,cD,cC] at l
    refine ⟨_,rfl,?_⟩
    have u:i.toNat=d.n:=by omega
    rw [u] at hq
    simp only [E,cs0,cs1,cs2,cs3,cs4,cs5,cs6,i_v,gP,aF,aP,aS,cU,bE,cE,bC,bX,bU,aT,cR,fX,fM,eR,cZ,cT,fJ,dO,dI,cB,bW,List.getD_cons_zero,List.getD_cons_succ,decide_eq_true_eq,decide_eq_false_iff_not,Bool.and_eq_true,Bool.or_eq_true,Bool.not_eq_true',Bool.not_eq_false',Bool.and_eq_false_iff,Bool.or_eq_false_iff,Bool.not_not,cM,cL,cK,cJ,gJ,cD,cC]
    rw [← hq];try omega
def aIE:Hyp:=⟨[(.v 0,(0,9223372036854775807))],[(0,(0,255))],[],[],[],[(0,⟨.v 0,[(some .u8,.av 0)],[]⟩)]⟩
def crLs:List SV:=[.s (.xslc 0 (.lit 0) (.lit 0) (.v 0))]
--SKEND
def cr0:E:=.lt (.v 1) (.v 0)
def cr1:E:=.mul (.v 2) (.lit 31)
def cr2:E:=.sel (.av 0) (.v 1)
def cr3:E:=.add cr1 cr2
def cr4:E:=.add cr3 (.lit 7)
def cr5:E:=.mod cr4 (.lit 4294967296)
def cr6:E:=.add (.v 1) (.lit 1)
noncomputable def bMe:List Item:=mL Try.prog 46 4
noncomputable def bMf:Head:=⟨4,bMe,⟨[((.v 0),(0,9223372036854775807)),((.v 1),(0,9223372036854775807)),((.v 2),(0,4294967295))],[(0,(0,255))],[],[],[],[(0,⟨(.v 0),[(some .u8,(.av 0))],[]⟩)]⟩,[⟨4,[],.s (.int .i64 (.v 1))⟩,⟨3,[],.s (.int .u64 (.v 2))⟩,⟨0,[],.s (.xslc 0 (.lit 0) (.lit 0) (.v 0))⟩],[]⟩
noncomputable def bMg:List Head:=[bMf]
def crD:Dim:=⟨3,0,1,1,0,1,0⟩
theorem crst:gD Try.prog S0 S0h crD bMg [] 3000 0 46 aIE crLs []=some (.jump 0 bMe ⟨[(2,(.lit 1)),(1,(.lit 0))],[],[]⟩):=by kernel_rfl
theorem crsg0:mM Try.prog S0 S0h crD bMg [] 3000 0 46 bMf=some (.ite cr0 (.jump 0 bMe ⟨[(2,cr5),(1,cr6)],[],[]⟩) (.ret (.s (.int .u32 (.v 2))) [])):=by kernel_rfl
theorem bCw:aVv Try.prog 46:=by
 intro d w q
 let I:Interp:=Iv (fun i j=>match i,j with | 0,0=>d | _,_=>Ext.none)
 have hxs:∀ i j,(I.xs i j).ok w:=fun i j=>by rcases i with _ | i <;> rcases j with _ | j <;> first | exact Ext.jC _ | exact q.ok
 let E (i z:Int)  : Env:=⟨[(d.n:Int),i,z],[],[aD d 1 0],[],I⟩
 have t:=dC q
 have r:∀ j,inR (dS .u8) (aD d 1 0 j):=cW q
 simp only [inR,dS,iZ,bY] at t r
 have hargs:(crLs.map (SV.aC (E 0 0) Loc.id)).toArray=#[d.v]:=congrArg List.toArray (fN (dX q rfl rfl) (rfl))
 rw [← hargs]
 have hX:∀ (p:Nat × XI),p ∈ [(0,⟨.v 0,[(some .u8,.av 0)],[]⟩)]→∀ (i z:Int) , XI.ok (E i z ) p.1 p.2:=by
  intro p hp i z 
  simp only [List.mem_cons,List.not_mem_nil,or_false] at hp
  rcases hp with rfl
  ·exact lA q rfl rfl rfl
 have hok:∀ (H:Hyp) (i z:Int),0≤i∧i≤9223372036854775807→0≤z∧z≤4294967295→H.e=[(.v 0,(0,9223372036854775807)),(.v 1,(0,9223372036854775807)),(.v 2,(0,4294967295))]→H.a=[(0,(0,255))]→H.fi=[]→H.fa=[]→H.b=[]→H.x=aIE.x→H.ok (E i z):=by
  intro H i z hi hz u D G J K L
  refine ⟨?_,?_,?_,by simp [G],by simp [J],by simp [K]⟩
  ·rw [L];exact fun p hp=>hX p hp i z
  ·rw [u];intro p hp
   simp only [List.mem_cons,List.not_mem_nil,or_false] at hp
   rcases hp with rfl | rfl | rfl
   ·exact t
   ·exact hi
   ·exact hz
  ·rw [D];intro p hp
   simp only [List.mem_cons,List.not_mem_nil,or_false] at hp
   rcases hp with rfl
   ·exact r
 have hok0:aIE.ok (E 0 0):=by
  refine ⟨?_,?_,?_,by simp [aIE],by simp [aIE],by simp [aIE]⟩
  ·exact fun p hp=>hX p hp 0 0
  ·intro p hp
   simp only [aIE,List.mem_cons,List.not_mem_nil,or_false] at hp
   rcases hp with rfl
   ·exact t
  ·intro p hp
   simp only [aIE,List.mem_cons,List.not_mem_nil,or_false] at hp
   rcases hp with rfl
   ·exact r
 refine iR (β:=⟨w,0,Loc.id⟩) (aAO I) (by kernel_rfl) (Nat.zero_le _) (fun k ρ=>k=0∧∃ i z:Int,ρ=E i z∧0≤i∧i≤d.n∧z=tP i.toNat (aD d 1 0))
  (fun _ ρ=>((d.n:Int)+1-ρ.i.getD 1 0).toNat) (fun ρ v _=>∃ e:_root_.Go.Sx.E,v=.s (.int .u32 e)∧e.i ρ=tP d.n (aD d 1 0)) ?_ crst (aK.empty hxs Loc.id) rfl ⟨rfl,rfl,rfl⟩ hok0 ?_ ?_
 ·rintro ρ v m hI ⟨e,rfl,he⟩ ι w' hm
  rw [aW rfl]
  exact ⟨by simp only [SV.aC,S.aC,he],hm.aGT⟩
 ·simp only [LT.holds]
  exact ⟨rfl,trivial,0,1,rfl,by omega,by omega,rfl⟩
 ·rintro j h ρ hj hI hz ⟨rfl,i,z,rfl,O,Q,hq⟩
  have hzr:=wW i.toNat (aD d 1 0)
  rw [← hq] at hzr
  simp only [bMg,List.getElem?_cons_zero,Option.some.injEq] at hj;subst hj
  refine ⟨hok bMf.H i z (by omega) hzr rfl rfl rfl rfl rfl rfl,_,crsg0,?_⟩
  simp only [LT.holds]
  refine ⟨fun l=>?_,fun l=>?_⟩
  ·
    simp only [E,cr0,cr1,cr2,cr3,cr4,cr5,cr6,i_v,gP,aF,aP,aS,cU,bE,cE,bC,bX,bU,aT,cR,fX,fM,eR,cZ,cT,fJ,dO,dI,cB,bW,List.getD_cons_zero,List.getD_cons_succ,decide_eq_true_eq,decide_eq_false_iff_not,Bool.and_eq_true,Bool.or_eq_true,Bool.not_eq_true',Bool.not_eq_false',Bool.and_eq_false_iff,Bool.or_eq_false_iff,Bool.not_not,cM,cL,cK,cJ,gJ,cD,cC] at l
    have D:(i+1).toNat=i.toNat+1:=by omega
    refine ⟨rfl,⟨trivial,i+1,(z*31+aD d 1 0 i.toNat+7)%4294967296,rfl,by omega,by omega,?_⟩,?_⟩
    ·rw [D,oR,← hq]
    ·show ((d.n:Int)+1-(i+1)).toNat<((d.n:Int)+1-i).toNat
     omega
  ·
    simp only [E,cr0,cr1,cr2,cr3,cr4,cr5,cr6,i_v,gP,aF,aP,aS,cU,bE,cE,bC,bX,bU,aT,cR,fX,fM,eR,cZ,cT,fJ,dO,dI,cB,bW,List.getD_cons_zero,List.getD_cons_succ,decide_eq_true_eq,decide_eq_false_iff_not,Bool.and_eq_true,Bool.or_eq_true,Bool.not_eq_true',Bool.not_eq_false',Bool.and_eq_false_iff,Bool.or_eq_false_iff,Bool.not_not,cM,cL,cK,cJ,gJ,cD,cC] at l
    refine ⟨_,rfl,?_⟩
    have u:i.toNat=d.n:=by omega
    rw [u] at hq
    simp only [E,cr0,cr1,cr2,cr3,cr4,cr5,cr6,i_v,gP,aF,aP,aS,cU,bE,cE,bC,bX,bU,aT,cR,fX,fM,eR,cZ,cT,fJ,dO,dI,cB,bW,List.getD_cons_zero,List.getD_cons_succ,decide_eq_true_eq,decide_eq_false_iff_not,Bool.and_eq_true,Bool.or_eq_true,Bool.not_eq_true',Bool.not_eq_false',Bool.and_eq_false_iff,Bool.or_eq_false_iff,Bool.not_not,cM,cL,cK,cJ,gJ,cD,cC]
    rw [← hq];try omega
def aIA:Hyp:=⟨[(.v 0,(0,67108864))],[(0,(0,255))],[],[],[],[(0,⟨.v 0,[(some .u8,.av 0)],[]⟩)]⟩
def ccLs:List SV:=[.s (.xslc 0 (.lit 0) (.lit 0) (.v 0))]
--SKEND
def cc0:E:=.lt (.v 1) (.v 0)
def cc1:E:=.add (.v 1) (.lit 1)
def cc2:E:=.sel (.av 0) (.v 1)
def cc3:E:=.upd (.av 1) (.v 1) cc2
noncomputable def bLU:List Item:=mL Try.prog 27 4
noncomputable def bLV:Head:=⟨4,bLU,⟨[((.v 0),(0,67108864)),((.v 1),(0,67108864))],[(0,(0,255)),(1,(0,255))],[],[],[],[(0,⟨(.v 0),[(some .u8,(.av 0))],[]⟩)]⟩,[⟨4,[],.s (.int .i64 (.v 1))⟩,⟨3,[],.s (.slc 0 (.lit 0) (.v 0) (.kn (.v 0)))⟩,⟨0,[],.s (.xslc 0 (.lit 0) (.lit 0) (.v 0))⟩],[⟨5,[.run .u8 (.v 0) (.av 1) 0],true,none,false⟩]⟩
noncomputable def bLW:List Head:=[bLV]
def ccD:Dim:=⟨2,0,2,1,0,1,0⟩
theorem ccst:gD Try.prog S0 S0h ccD bLW [] 3000 0 27 aIA ccLs []=some (.jump 0 bLU ⟨[(1,(.lit 0))],[],[(1,(.tab []))]⟩):=by kernel_rfl
theorem ccsg0:mM Try.prog S0 S0h ccD bLW [] 3000 0 27 bLV=some (.ite cc0 (.jump 0 bLU ⟨[(1,cc1)],[],[(1,cc3)]⟩) (.ret (.s (.slc 0 (.lit 0) (.v 0) (.kn (.v 0)))) [⟨5,[.run .u8 (.v 0) (.av 1) 0],true,none,false⟩])):=by kernel_rfl
theorem bAa:bBL Try.prog 27 5:=by
 intro d w q hlen
 let I:Interp:=Iv (fun i j=>match i,j with | 0,0=>d | _,_=>Ext.none)
 have hxs:∀ i j,(I.xs i j).ok w:=fun i j=>by rcases i with _ | i <;> rcases j with _ | j <;> first | exact Ext.jC _ | exact q.ok
 let E (i:Int) (B:Nat→Int):Env:=⟨[(d.n:Int),i],[],[aD d 1 0,B],[],I⟩
 have t:=dC q
 have r:∀ j,inR (dS .u8) (aD d 1 0 j):=cW q
 simp only [inR,dS,iZ,bY] at t r
 have hargs:(ccLs.map (SV.aC (E 0 (fun _=>0)) Loc.id)).toArray=#[d.v]:=congrArg List.toArray (fN (dX q rfl rfl) (rfl))
 rw [← hargs]
 have hX:∀ (p:Nat × XI),p ∈ [(0,⟨.v 0,[(some .u8,.av 0)],[]⟩)]→∀ (i:Int) (B:Nat→Int),XI.ok (E i B) p.1 p.2:=by
  intro p hp i B
  simp only [List.mem_cons,List.not_mem_nil,or_false] at hp
  rcases hp with rfl
  ·exact lA q rfl rfl rfl
 have hok:∀ (H:Hyp) (i:Int) (B:Nat→Int),0≤i∧i≤67108864→(∀ j,0≤B j∧B j≤255)→H.e=[(.v 0,(0,67108864)),(.v 1,(0,67108864))]→H.a=[(0,(0,255)),(1,(0,255))]→H.fi=[]→H.fa=[]→H.b=[]→H.x=aIA.x→H.ok (E i B):=by
  intro H i B hi hB u D G J K L
  refine ⟨?_,?_,?_,by simp [G],by simp [J],by simp [K]⟩
  ·rw [L];exact fun p hp=>hX p hp i B
  ·rw [u];intro p hp
   simp only [List.mem_cons,List.not_mem_nil,or_false] at hp
   rcases hp with rfl | rfl
   ·simp only [inR];exact ⟨t.1,by show (d.n:Int)≤_;omega⟩
   ·exact hi
  ·rw [D];intro p hp
   simp only [List.mem_cons,List.not_mem_nil,or_false] at hp
   rcases hp with rfl | rfl
   ·exact r
   ·exact hB
 have hok0:aIA.ok (E 0 fun _=>0):=by
  refine ⟨?_,?_,?_,by simp [aIA],by simp [aIA],by simp [aIA]⟩
  ·exact fun p hp=>hX p hp 0 fun _=>0
  ·intro p hp
   simp only [aIA,List.mem_cons,List.not_mem_nil,or_false] at hp
   rcases hp with rfl
   ·simp only [inR];exact ⟨t.1,by show (d.n:Int)≤_;omega⟩
  ·intro p hp
   simp only [aIA,List.mem_cons,List.not_mem_nil,or_false] at hp
   rcases hp with rfl
   ·exact r
 refine iR (β:=⟨w,0,Loc.id⟩) (aAO I) (by kernel_rfl) (Nat.zero_le _) (fun k ρ=>k=0∧∃ (i:Int) (B:Nat→Int),ρ=E i B∧0≤i∧i≤d.n∧(∀ j,0≤B j∧B j≤255)∧∀ j:Nat,(j:Int)<i→B j=aD d 1 0 j)
  (fun _ ρ=>((d.n:Int)+1-ρ.i.getD 1 0).toNat) (fun ρ v m=>v=.s (.slc 0 (.lit 0) (.v 0) (.kn (.v 0)))∧ρ.i.getD 0 0=d.n∧∃ A:_root_.Go.Sx.E,m=[⟨5,[.run .u8 (.v 0) A 0],true,none,false⟩]∧∀ j:Nat,j<d.n→A.a ρ j=aD d 1 0 j) ?_ ccst (aK.empty hxs Loc.id) rfl ⟨rfl,rfl,rfl⟩ hok0 ?_ ?_
 ·rintro ρ v m hI ⟨rfl,hn,A,rfl,hA⟩ ι w' hm
  refine ⟨ρ,ι,_,?_,hm,rfl,rfl,rfl,rfl,?_⟩
  ·rw [aW rfl]
   simp only [SV.aC,S.aC,addr,aF,i_v,hn]
   rfl
  ·simp only [cellsOf,List.flatMap_cons,List.flatMap_nil,List.append_nil,Seg.cells,i_v,hn,Int.toNat_natCast]
   exact List.map_congr_left fun j hj=>by rw [Nat.zero_add,hA j (List.mem_range.1 hj)]
 ·simp only [LT.holds]
  exact ⟨rfl,trivial,0,fun j=>([]:List Int).getD j 0,rfl,by omega,by omega,fun j=>by simp,fun j hj=>by omega⟩
 ·rintro j h ρ hj hI hz ⟨rfl,i,B,rfl,O,Q,hB,hq⟩
  simp only [bLW,List.getElem?_cons_zero,Option.some.injEq] at hj;subst hj
  refine ⟨hok bLV.H i B (by omega) hB rfl rfl rfl rfl rfl rfl,_,ccsg0,?_⟩
  simp only [LT.holds]
  refine ⟨fun l=>?_,fun l=>?_⟩
  ·
    simp only [E,cc0,cc1,cc2,cc3,i_v,gP,aF,aP,aS,cU,bE,cE,bC,bX,bU,aT,cR,fX,fM,eR,cZ,cT,fJ,dO,dI,cB,bW,List.getD_cons_zero,List.getD_cons_succ,decide_eq_true_eq,decide_eq_false_iff_not,Bool.and_eq_true,Bool.or_eq_true,Bool.not_eq_true',Bool.not_eq_false',Bool.and_eq_false_iff,Bool.or_eq_false_iff,Bool.not_not,cM,cL,cK,cJ,gJ,cD,cC] at l
    refine ⟨rfl,⟨trivial,i+1,fun k=>if k=i.toNat then aD d 1 0 i.toNat else B k,rfl,by omega,by omega,fun j=>?_,fun j hj=>?_⟩,?_⟩
    ·have:=r i.toNat;have:=hB j
     simp only;split <;> omega
    ·simp only
     split
     ·rename_i e;rw [e]
     ·exact hq j (by omega)
    ·show ((d.n:Int)+1-(i+1)).toNat<((d.n:Int)+1-i).toNat
     omega
  ·
    simp only [E,cc0,cc1,cc2,cc3,i_v,gP,aF,aP,aS,cU,bE,cE,bC,bX,bU,aT,cR,fX,fM,eR,cZ,cT,fJ,dO,dI,cB,bW,List.getD_cons_zero,List.getD_cons_succ,decide_eq_true_eq,decide_eq_false_iff_not,Bool.and_eq_true,Bool.or_eq_true,Bool.not_eq_true',Bool.not_eq_false',Bool.and_eq_false_iff,Bool.or_eq_false_iff,Bool.not_not,cM,cL,cK,cJ,gJ,cD,cC] at l
    refine ⟨?_,?_,.av 1,?_,fun j hj=>?_⟩
    ·trivial
    ·first | rfl | trivial
    ·first | rfl | trivial
    ·exact hq j (by omega)
def aDG:Hyp:=⟨[(.v 0,(0,9223372036854775807)),(.v 1,(0,9223372036854775807)),(.v 2,(1,9223372036854775807))],[(0,(0,255))],[],[],[],[]⟩
def bGs:List SV:=[.s (.slc 0 (.v 1) (.v 2) (.kn (.v 3)))]
def cpM (g:Option Nat):Mem:=[⟨5,[.run .u8 (.v 0) (.av 0) 0],true,g,false⟩]
--SKEND
def cp0:E:=.lt (.v 4) (.v 2)
def cp1:E:=.add (.v 1) (.v 4)
def cp2:E:=.lt cp1 (.v 0)
def cp3:E:=.add (.v 4) (.lit 1)
def cp4:E:=.sel (.av 1) cp1
def cp5:E:=.bits .xor .u8 cp4 (.lit 90)
def cp6:E:=.upd (.av 1) cp1 cp5
noncomputable def aTJ (g:Option Nat):List Item:=mL Try.prog 33 2
noncomputable def bCv (g:Option Nat):Head:=⟨2,(aTJ g),⟨[((.v 0),(0,9223372036854775807)),((.v 1),(0,9223372036854775807)),((.v 2),(1,9223372036854775807)),((.v 4),(0,9223372036854775807))],[(0,(0,255)),(1,(0,255))],[],[],[],[]⟩,[⟨2,[],.s (.int .i64 (.v 4))⟩,⟨0,[],.s (.slc 0 (.v 1) (.v 2) (.kn (.v 3)))⟩],[⟨5,[.run .u8 (.v 0) (.av 1) 0],true,g,false⟩]⟩
noncomputable def aTK (g:Option Nat):List Head:=[(bCv g)]
def cpD:Dim:=⟨5,0,2,4,0,1,1⟩
theorem cpstn:gD Try.prog S0 S0h cpD (aTK none) [] 3000 0 33 aDG bGs (cpM none)=some (.jump 0 (aTJ none) ⟨[(4,(.lit 0))],[],[(1,(.av 0))]⟩):=by kernel_rfl
theorem bMc:mM Try.prog S0 S0h cpD (aTK none) [] 3000 0 33 (bCv none)=some (.ite cp0 (.need cp2 (.jump 0 (aTJ none) ⟨[(4,cp3)],[],[(1,cp6)]⟩)) (.ret (.tup []) [⟨5,[.run .u8 (.v 0) (.av 1) 0],true,none,false⟩])):=by kernel_rfl
theorem cpsts:gD Try.prog S0 S0h cpD (aTK (some 1)) [] 3000 0 33 aDG bGs (cpM (some 1))=some (.jump 0 (aTJ (some 1)) ⟨[(4,(.lit 0))],[],[(1,(.av 0))]⟩):=by kernel_rfl
theorem bMd:mM Try.prog S0 S0h cpD (aTK (some 1)) [] 3000 0 33 (bCv (some 1))=some (.ite cp0 (.need cp2 (.jump 0 (aTJ (some 1)) ⟨[(4,cp3)],[],[(1,cp6)]⟩)) (.ret (.tup []) [⟨5,[.run .u8 (.v 0) (.av 1) 0],true,some 1,false⟩])):=by kernel_rfl
def bGr:Hyp:=⟨[],[],[],[],[],[]⟩
def bMa:List SV:=[.s (.xslc 0 (.lit 0) (.lit 0) (.lit 0))]
theorem bMb:enter Try.prog S0 S0h 3000 6 33 bGr bMa []=some ([],.tup [],none):=by kernel_rfl
theorem bAc:aVu Try.prog 33 5:=by
 refine ⟨fun w base C hb=>?_,fun ρ ι B w o n C hm hty hwr hd hg hcells hon hmax hn=>?_⟩
 ·let x:Ext:=⟨.slice base 0 C,0,1,fun _=>Go.undef⟩
  let I:Interp:=Iv (fun i j=>match i,j with | 0,0=>x | _,_=>Ext.none)
  have hx:x.ok w:=⟨base,C,rfl,Nat.zero_le _,fun h=>⟨rfl,hb h⟩,fun a _ k hk=>by simp [x] at hk⟩
  have hxs:∀ i j,(I.xs i j).ok w:=fun i j=>by rcases i with _ | i <;> rcases j with _ | j <;> first | exact Ext.jC _ | exact hx
  let E:Env:=⟨[],[],[],[],I⟩
  have hok:bGr.ok E:=by refine ⟨?_,?_,?_,?_,?_,?_⟩ <;> simp [bGr]
  have hc:=(bS (P:=Try.prog) (I:=I) (f:=33) (hc':=S0h) (aAO I) (by kernel_rfl) 3000 6).ok bGr bMa [] [] (.tup []) none bMb E ⟨w,0,Loc.id⟩ Loc.id w rfl hok (fun e he=>by cases he) (aK.empty hxs Loc.id)
  have hargs:(bMa.map (SV.aC E Loc.id)).toArray=#[.slice base 0 C]:=by
   have:SV.aC E Loc.id (.s (.xslc 0 (.lit 0) (.lit 0) (.lit 0)))=.slice base 0 C:=by
    simp only [SV.aC,S.aC,aF,Int.toNat_zero,Ext.sub,E,I,Iv,x,Nat.zero_mul,Nat.sub_zero]
    congr 1
    cases base <;> simp [Addr.add]
   exact congrArg List.toArray (fN this rfl)
  rw [hargs] at hc
  exact hc.mono fun e w' ⟨h1,Z⟩=>⟨by rw [h1,aW rfl];rfl,Z.aGT⟩
 ·obtain ⟨g,hgg,hst,hsg⟩:∃ g,B.grow=g∧(gD Try.prog S0 S0h cpD (aTK g) [] 3000 0 33 aDG bGs (cpM g)=some (.jump 0 (aTJ g) ⟨[(4,(.lit 0))],[],[(1,(.av 0))]⟩))∧(mM Try.prog S0 S0h cpD (aTK g) [] 3000 0 33 (bCv g)=some (.ite cp0 (.need cp2 (.jump 0 (aTJ g) ⟨[(4,cp3)],[],[(1,cp6)]⟩)) (.ret (.tup []) [⟨5,[.run .u8 (.v 0) (.av 1) 0],true,g,false⟩]))):=by
   rcases hg with hg | hg
   ·exact ⟨none,hg,cpstn,bMc⟩
   ·exact ⟨some 1,hg,cpsts,bMd⟩
  let N:=(cellsOf ρ ι B.aH).length
  let V:Nat→Int:=fun j=>kJ (((cellsOf ρ ι B.aH)[j]?).getD Go.undef)
  let E (i:Int) (A:Nat→Int):Env:=⟨[(N:Int),(o:Int),(n:Int),(C:Int),i],[],[V,A],[],ρ.I⟩
  have hN:(N:Int)≤9223372036854775807:=by have:N≤maxLen:=hmax;have Z:maxLen≤9223372036854775807:=by decide
                                          omega
  have hoN:o+n≤N:=hon
  have U:∀ j,0≤V j∧V j≤255:=fun j=>by
   show 0≤kJ (((cellsOf ρ ι B.aH)[j]?).getD Go.undef)∧kJ (((cellsOf ρ ι B.aH)[j]?).getD Go.undef)≤255
   cases hj:(cellsOf ρ ι B.aH)[j]? with
   | none=>simp [kJ,Go.undef]
   | some v =>
     obtain ⟨z,rfl,hz⟩:=hcells v (List.mem_of_getElem? hj)
     simpa [kJ,inR,dS,iZ,bY] using hz
  have hce:∀ i A,cellsOf (E i A) ι [Seg.run .u8 (.v 0) (.av 0) 0]=cellsOf ρ ι B.aH:=fun i A=>by
   simp only [cellsOf,List.flatMap_cons,List.flatMap_nil,List.append_nil,Seg.cells]
   apply List.ext_getElem?
   intro j
   rw [List.getElem?_map]
   show Option.map _ (List.range ((_root_.Go.Sx.E.i (E i A) (.v 0))).toNat)[j]? = _
   rw [show (_root_.Go.Sx.E.i (E i A) (.v 0)).toNat=N by simp [E,i_v]]
   by_cases hj:j<N
   ·rw [List.getElem?_range hj,Option.map_some]
    have hj':j<(cellsOf ρ ι B.aH).length:=hj
    obtain ⟨z,hz,_⟩:=hcells _ (List.getElem_mem hj')
    have u:V j=z:=by
     show kJ (((cellsOf ρ ι B.aH)[j]?).getD Go.undef)=z
     rw [List.getElem?_eq_getElem hj',hz];rfl
    have D:_root_.Go.Sx.E.a (E i A) (.av 0) (0+j)=z:=by rw [Nat.zero_add,← u];rfl
    have hgoal:(List.flatMap (Seg.cells ρ ι) B.aH)[j]? = some (Value.int .u8 z):=by
     rw [show List.flatMap (Seg.cells ρ ι) B.aH=cellsOf ρ ι B.aH from rfl,List.getElem?_eq_getElem hj',hz]
    rw [hgoal,D]
   ·have hj':(cellsOf ρ ι B.aH).length≤j:=Nat.le_of_not_lt hj
    rw [show List.flatMap (Seg.cells ρ ι) B.aH=cellsOf ρ ι B.aH from rfl,List.getElem?_eq_none hj',List.getElem?_eq_none (by simpa using Nat.le_of_not_lt hj)];rfl
  have hm0:aK (E 0 fun _=>0) ⟨w,1,ι⟩ ι (cpM g) w:=hm.bIe rfl (hce 0 _) hty.symm hwr.symm hgg.symm hd.symm
  have hargs:(bGs.map (SV.aC (E 0 fun _=>0) ι)).toArray=#[.slice (some ⟨ι 0,o,none⟩) n C]:=by
   refine congrArg List.toArray (fN ?_ rfl)
   simp [SV.aC,S.aC,addr,E,i_v]
  rw [← hargs]
  have hok:∀ (H:Hyp) (i:Int) (A:Nat→Int),0≤i∧i≤9223372036854775807→(∀ j,0≤A j∧A j≤255)→H.e=[(.v 0,(0,9223372036854775807)),(.v 1,(0,9223372036854775807)),(.v 2,(1,9223372036854775807)),(.v 4,(0,9223372036854775807))]→H.a=[(0,(0,255)),(1,(0,255))]→H.fi=[]→H.fa=[]→H.b=[]→H.x=[]→H.ok (E i A):=by
   intro H i A hi hA u D G J K L
   refine ⟨by simp [L],?_,?_,by simp [G],by simp [J],by simp [K]⟩
   ·rw [u];intro p hp
    simp only [List.mem_cons,List.not_mem_nil,or_false] at hp
    rcases hp with rfl | rfl | rfl | rfl <;> simp only [inR,i_v,E,List.getD_cons_zero,List.getD_cons_succ] <;> omega
   ·rw [D];intro p hp
    simp only [List.mem_cons,List.not_mem_nil,or_false] at hp
    rcases hp with rfl | rfl
    ·exact U
    ·exact hA
  have hok0:aDG.ok (E 0 fun _=>0):=by
   refine ⟨by simp [aDG],?_,?_,by simp [aDG],by simp [aDG],by simp [aDG]⟩
   ·intro p hp
    simp only [aDG,List.mem_cons,List.not_mem_nil,or_false] at hp
    rcases hp with rfl | rfl | rfl <;> simp only [inR,i_v,E,List.getD_cons_zero,List.getD_cons_succ] <;> omega
   ·intro p hp
    simp only [aDG,List.mem_cons,List.not_mem_nil,or_false] at hp
    rcases hp with rfl
    exact U
  refine iR (β:=⟨w,1,ι⟩) (aAO ρ.I) (by kernel_rfl) (Nat.le_refl _) (fun k ρ'=>k=0∧∃ (i:Int) (A:Nat→Int),ρ'=E i A∧0≤i∧i≤n∧∀ j,0≤A j∧A j≤255)
   (fun _ ρ=>((n:Int)+1-ρ.i.getD 4 0).toNat) (fun _ v m=>v=.tup []∧m.length=1) ?_ hst hm0 rfl ⟨rfl,rfl,rfl⟩ hok0 ?_ ?_
  ·rintro ρ' v m hI ⟨rfl,hl⟩ ι' w' hm'
   obtain ⟨B',rfl⟩:∃ B',m=[B']:=by
    match m,hl with
    | [B'],_=>exact ⟨B',rfl⟩
   exact ⟨by rw [aW rfl];rfl,ρ',ι',B',hm'⟩
  ·simp only [LT.holds]
   exact ⟨rfl,trivial,0,V,rfl,by omega,by omega,U⟩
  ·rintro j h ρ' hj hI hz ⟨rfl,i,A,rfl,O,Q,hA⟩
   simp only [aTK,List.getElem?_cons_zero,Option.some.injEq] at hj;subst hj
   refine ⟨hok (bCv g).H i A (by omega) hA rfl rfl rfl rfl rfl rfl,_,hsg,?_⟩
   simp only [LT.holds]
   refine ⟨fun l=>?_,fun l=>?_⟩
   ·
     refine ⟨?_,fun F=>?_⟩
     ·
       simp only [E,cp0,cp1,cp2,cp3,cp4,cp5,cp6,i_v,gP,aF,aP,aS,cU,bE,cE,bC,bX,bU,aT,cR,fX,fM,eR,cZ,cT,fJ,dO,dI,cB,bW,List.getD_cons_zero,List.getD_cons_succ,decide_eq_true_eq,decide_eq_false_iff_not,Bool.and_eq_true,Bool.or_eq_true,Bool.not_eq_true',Bool.not_eq_false',Bool.and_eq_false_iff,Bool.or_eq_false_iff,Bool.not_not,cM,cL,cK,cJ,gJ,cD,cC] at l ⊢
       omega
     simp only [E,cp0,cp1,cp2,cp3,cp4,cp5,cp6,i_v,gP,aF,aP,aS,cU,bE,cE,bC,bX,bU,aT,cR,fX,fM,eR,cZ,cT,fJ,dO,dI,cB,bW,List.getD_cons_zero,List.getD_cons_succ,decide_eq_true_eq,decide_eq_false_iff_not,Bool.and_eq_true,Bool.or_eq_true,Bool.not_eq_true',Bool.not_eq_false',Bool.and_eq_false_iff,Bool.or_eq_false_iff,Bool.not_not,cM,cL,cK,cJ,gJ,cD,cC] at l F
     refine ⟨rfl,⟨trivial,i+1,_,rfl,by omega,by omega,fun j=>?_⟩,?_⟩
     ·have hb:∀ x y:Int,0≤aN .xor .u8 x y∧aN .xor .u8 x y≤255:=fun x y=>by
       simp only [aN,IntKind.wrap,IntKind.bits,IntKind.signed]
       simp
       omega
      have key:∀ (c:Prop) [Decidable c] (x y:Int),(0≤x∧x≤255)→(0≤y∧y≤255)→0≤(if c then x else y)∧(if c then x else y)≤255:=fun c _ x y h1 Z=>by split <;> assumption
      exact key _ _ _ (hb _ _) (hA j)
     ·show ((n:Int)+1-(i+1)).toNat<((n:Int)+1-i).toNat
      omega
   ·
     exact ⟨by trivial,rfl⟩
end Go.Proofs.Ytcckecfjjccffaa
